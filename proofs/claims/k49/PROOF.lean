import PyProof.Rows.All
import HandS.ForMost
import HandS.Walk
import HandS.DictComp
import KE.GoesNew
import KE.KDictKeyed
import HandS.ClsMeth
import HandS.Defaults
import HandS.IsInst
import HandS.Deep
import HandS.Wide
import HandS.More
import KE.BitLaws
import PySem.Challenge.RW_signoff_k49_whole_settled_nets_never_str
import Wide.All
import OpenK.AllK
import Wide.FinOn
set_option Elab.async false
set_option linter.all false
set_option maxRecDepth 100000
set_option maxHeartbeats 5000000
/-! zip and enumerate over any mix of lists and tuples: each item a new tuple that is tracked -/
namespace L2.Lx
open PySem PySem.Spec PyProof.Rows

/-- a list (false) or a tuple (true) that is read -/
def Sq (k : Bool) (K : PySem.W.Frag) (H : Hp) (a : Addr) (xs : List V) : Prop := match k with
  | true => SqT K H a xs
  | false => SqL K H a xs
def ItIs (k : Bool) (h : Heap) (it a : Addr) (i : Nat) : Prop := match k with
  | true => h.IsTupleIter it a i
  | false => h.IsListIter it a i
def SeqIs (k : Bool) (h : Heap) (a : Addr) (items : Array Value) : Prop := match k with
  | true => h.IsTuple a items
  | false => h.IsList a items
def itObj (k : Bool) (a : Addr) : Obj := match k with
  | true => { cls := .type "tuple_iterator", data := .fields #[.ref a, .int 0 0] }
  | false => { cls := .type "list_iterator", data := .fields #[.ref a, .int 0 0] }
theorem begins_sq (k : Bool) (a : Addr) (items : Array Value) : Begins (.ref a) (itObj k a) (fun h => SeqIs k h a items) := by
  cases k
  · exact begins_list a items
  · exact begins_tuple a items
theorem draws_sq {prog : Program} {w : World} {A : Around} (k : Bool) (hh : A.handled = none) (it a : Addr) (hne : a ≠ it) (items : Array Value) :
    Draws prog w A it [it, a] items.size (fun i v => items[i]? = some v) (fun i h => ItIs k h it a i ∧ SeqIs k h a items) := by
  cases k
  · exact Draws.list hh it a hne items
  · exact Draws.tuple hh it a hne items
theorem ItIs.new {k : Bool} {h : Heap} {it a : Addr} (e : h.get? it = some (itObj k a)) : ItIs k h it a 0 := by
  cases k
  · exact ⟨_, e, rfl, rfl⟩
  · exact ⟨_, e, rfl, rfl⟩
theorem ItIs.obj {k : Bool} {h : Heap} {it a : Addr} {i : Nat} (x : ItIs k h it a i) : ∃ o, h.get? it = some o ∧ ∀ v, o.data ≠ .cell v := by
  cases k
  · obtain ⟨o, e, _, d⟩ := x
    exact ⟨o, e, fun v q => by rw [d] at q; cases q⟩
  · obtain ⟨o, e, _, d⟩ := x
    exact ⟨o, e, fun v q => by rw [d] at q; cases q⟩
theorem ItIs.at {k : Bool} {h h' : Heap} {it a : Addr} {i : Nat} (x : ItIs k h it a i) (q : ∀ o, h.get? it = some o → h'.get? it = some o) : ItIs k h' it a i := by
  cases k
  · exact Heap.IsListIter.at x q
  · exact Heap.IsTupleIter.at x q
theorem Sq.inv {X : Cx} {pins : List (Addr × Obj)} {σ : St} {H : Hp} {s : Shared} {k : Bool} {a : Addr} {xs : List V} (I : Inv X pins σ H s) (h : Sq k X.K H a xs) : ∃ its : List Value, Vals xs its ∧ SeqIs k s.heap a its.toArray ∧ xs.length ≤ sizeLine ∧ a < s.heap.objs.size := by
  cases k
  · obtain ⟨its, rv, p, z⟩ := I.list h
    exact ⟨its, rv, p.isList, z, p.lt⟩
  · obtain ⟨its, rv, p, z⟩ := I.tuple h
    exact ⟨its, rv, p, z, p.lt⟩
theorem Sq.inj {X : Cx} {pins : List (Addr × Obj)} {σ : St} {H : Hp} {s : Shared} {k : Bool} {a : Addr} {xs ys : List V} (I : Inv X pins σ H s) (h : Sq k X.K H a xs) (h' : Sq k X.K H a ys) : xs = ys := by
  cases k
  · exact I.list_inj h h'
  · exact I.tuple_inj h h'
theorem SeqIs.ne {k : Bool} {h : Heap} {it a : Addr} {i : Nat} {items : Array Value} (x : SeqIs k h a items) (y : ItIs k h it a i) : a ≠ it := fun e => by
  subst e
  cases k
  · obtain ⟨o, e1, c1, _⟩ := x
    obtain ⟨o2, e2, c2, _⟩ := y
    rw [e1] at e2
    cases e2
    have q := c1.symm.trans c2
    injection q with q
    exact absurd q (by decide)
  · obtain ⟨o, e1, c1, _⟩ := x
    obtain ⟨o2, e2, c2, _⟩ := y
    rw [e1] at e2
    cases e2
    have q := c1.symm.trans c2
    injection q with q
    exact absurd q (by decide)
theorem get_arr {us : List Value} {i : Nat} {u : Value} (h : us[i]? = some u) : us.toArray[i]? = some u := by simpa using h

section
variable {X : Cx} {pins : List (Addr × Obj)} {σ : St} {H : Hp} {s : Shared} {E : Value → Shared → Prop} {tg : Expr} {it : Addr} {fp wr fpT : List Addr} {n i : Nat} {Y : Nat → Heap → Value → Heap → Prop} {Sx : Nat → Heap → Prop} {J : It} {tn : Nat → Heap → Prop}
theorem item_of (W : GoesN X.prog X.w X.A tg it fp wr n Y Sx) (I : Inv X pins σ H s) (hf : ∀ b ∈ fpT, FpOk X pins H b) (hlt : i < n) (st : Sx i s.heap) (hwr : ∀ b ∈ wr, b ∈ fpT) (hsz : ∀ b ∈ fpT, b < s.heap.objs.size)
    (hY : ∀ v h', Y i s.heap v h' → ∃ (T : Addr) (xs : List V) (us : List Value), v = .ref T ∧ s.heap.objs.size ≤ T ∧ h'.IsTuple T us.toArray ∧ Vals xs us ∧ xs.length ≤ sizeLine ∧ J.yld i H (.ref T) (upd H T (.tup xs)))
    (hst : ∀ h', Sx (i + 1) h' → tn (i + 1) h') :
    wpAny (model X.prog X.w) X.A (pyNext (.ref it)) (fun r s1 => ∃ u, r = some u ∧
      wpAny (model X.prog X.w) X.A (letOwnedTupleGo tg (.ref it) u) (fun _ s2 => ∃ x H', Inv X pins σ H' s2 ∧ RelV x u ∧ J.yld i H x H' ∧ tn (i + 1) s2.heap ∧ ∀ b ∈ fpT, H' b = none) E s1) E s := by
  refine W.goes i s _ E hlt st fun v h' tk hy st' hk htk => ?_
  obtain ⟨T, xs, us, ev, hT, ht, rv, hz, yl⟩ := hY v h' hy
  subst ev
  have new : ObjOk X.prog X.w (upd H T (.tup xs)) h' T (.tup xs) := ⟨hz, us, rv, ht⟩
  have I1 : Inv X pins σ (upd H T (.tup xs)) { s with heap := h', toks := tk } := I.turnedNew (ch := wr) hk (fun b hb => hf b (hwr b hb)) hT new
  refine ⟨.ref T, _, I1, rfl, yl, hst _ st', fun b hb => ?_⟩
  rw [upd_ne (Nat.ne_of_lt (Nat.lt_of_lt_of_le (hsz b hb) hT))]
  exact (hf b hb).1
theorem done_of (W : GoesN X.prog X.w X.A tg it fp wr n Y Sx) (I : Inv X pins σ H s) (hf : ∀ b ∈ fpT, FpOk X pins H b) (st : Sx n s.heap) (hwr : ∀ b ∈ wr, b ∈ fpT) :
    wpAny (model X.prog X.w) X.A (pyNext (.ref it)) (fun r s1 => r = none ∧ Inv X pins σ H s1) E s :=
  W.stops s (fun s1 => Inv X pins σ H s1) E st fun h' tk hk _ => I.turnedL (ch := wr) hk fun b hb => hf b (hwr b hb)
end

/-! ### zip of two -/
def Itz2 (k1 k2 : Bool) (K : PySem.W.Frag) (a b : Addr) : It :=
  ⟨fun i H => ∃ (xs ys : List V) (x y : V), Sq k1 K H a xs ∧ Sq k2 K H b ys ∧ xs[i]? = some x ∧ ys[i]? = some y,
    fun i H v H' => ∃ T x y, v = .ref T ∧ H T = none ∧ H' = upd H T (.tup [x, y]) ∧ (∀ xs, Sq k1 K H a xs → xs[i]? = some x) ∧ ∀ ys, Sq k2 K H b ys → ys[i]? = some y,
    fun i H => ∃ xs ys : List V, Sq k1 K H a xs ∧ Sq k2 K H b ys ∧ i = min xs.length ys.length⟩
theorem lt_get {α : Type} {xs : List α} {i : Nat} {x : α} (h : xs[i]? = some x) : i < xs.length := (List.getElem?_eq_some_iff.mp h).1
def z2St (k1 k2 : Bool) (a b z TI TO i1 i2 : Addr) : Nat → Heap → Prop := fun i h => IsZip h z TI TO .none ∧ IsTupOf2 h TI (.ref i1) (.ref i2) ∧ (∃ x y, IsTupOf2 h TO x y) ∧ ItIs k1 h i1 a i ∧ ItIs k2 h i2 b i
theorem turn_z2 {P : Program} {w : World} {K : PySem.W.Frag} {elts : List Expr} {kk : Nat} {tpos : Pos} {k1 k2 : Bool} {a b z TI TO i1 i2 : Addr} (D : ZipSep2 z TI TO i1 i2 [i1, a] [i2, b]) :
    Turn P w K (.Tuple elts kk tpos) (Itz2 k1 k2 K a b) [z, TI, TO, i1, i2] z (z2St k1 k2 a b z TI TO i1 i2) := by
  have hobj : ∀ i h, z2St k1 k2 a b z TI TO i1 i2 i h → ∀ b ∈ [z, TI, TO, i1, i2], ∃ o, h.get? b = some o ∧ ∀ v, o.data ≠ .cell v := by
    rintro i h ⟨hz, hTI, ⟨x, y, hTO⟩, h1, h2⟩ c hc
    have e' : c = z ∨ c = TI ∨ c = TO ∨ c = i1 ∨ c = i2 := by simpa using hc
    rcases e' with q | q | q | q | q
    · rw [q]; exact ⟨_, hz, fun v q => nomatch q⟩
    · rw [q]; exact ⟨_, hTI, fun v q => nomatch q⟩
    · rw [q]; exact ⟨_, hTO, fun v q => nomatch q⟩
    · rw [q]; exact h1.obj
    · rw [q]; exact h2.obj
  refine ⟨by simp, hobj, ?_, ?_, ?_, fun A i s Q E st h => wpAny_pyIter_zip st.1 h⟩
  · rintro i h h' ⟨hz, hTI, ⟨x, y, hTO⟩, h1, h2⟩ k
    exact ⟨k z (by simp) _ hz, k TI (by simp) _ hTI, ⟨x, y, k TO (by simp) _ hTO⟩, h1.at fun o q => k i1 (by simp) o q, h2.at fun o q => k i2 (by simp) o q⟩
  · intro X hP hw hK hc i pins s σ H E I hf st hg
    subst hP hw hK
    have hsz : ∀ c ∈ [z, TI, TO, i1, i2], c < s.heap.objs.size := fun c hcm => let ⟨_, e, _⟩ := hobj _ _ st c hcm; Heap.lt_size e
    obtain ⟨hz, hTI, hTO, h1, h2⟩ := st
    obtain ⟨xs, ys, x, y, hqx, hqy, hx, hy⟩ := hg
    obtain ⟨its, rv, p, _, _⟩ := hqx.inv I
    obtain ⟨its2, rv2, p2, _, _⟩ := hqy.inv I
    have na : a ≠ i1 := p.ne h1
    have nb : b ≠ i2 := p2.ne h2
    have hh := I.ok.hd hc
    have W := GoesN.zip2 (prog := X.prog) (w := X.w) (A := X.A) (elts := elts) (x1 := kk) (pos := tpos) D (draws_sq (A := X.A.in1) k1 hh i1 a na its.toArray) (draws_sq (A := X.A.in1) k2 hh i2 b nb its2.toArray)
    have l1 := rv.length
    have l2 := rv2.length
    have lx := lt_get hx
    have ly := lt_get hy
    refine item_of (J := Itz2 k1 k2 X.K a b) (tn := z2St k1 k2 a b z TI TO i1 i2) W I hf (by simp; omega) ⟨hz, hTI, hTO, ⟨h1, p⟩, ⟨h2, p2⟩⟩ (by intro c hc; simp only [List.mem_cons, List.not_mem_nil, or_false] at hc ⊢; rcases hc with h | h | h | h <;> simp [h]) hsz ?_ ?_
    · rintro v h' ⟨T, u1, u2, ev, hT, q1, q2, ht⟩
      obtain ⟨w1, e1, r1⟩ := rv.get hx
      obtain ⟨w2, e2, r2⟩ := rv2.get hy
      have f1 : u1 = w1 := Option.some.inj (q1.symm.trans (get_arr e1))
      have f2 : u2 = w2 := Option.some.inj (q2.symm.trans (get_arr e2))
      subst f1 f2
      exact ⟨T, [x, y], [u1, u2], ev, hT, ht, .cons r1 (.cons r2 .nil), (by show 2 ≤ sizeLine; decide), ⟨T, x, y, rfl, I.hok.fresh hT, rfl, fun l hl => by rw [hl.inj I hqx]; exact hx, fun l hl => by rw [hl.inj I hqy]; exact hy⟩⟩
    · rintro h' ⟨a1, a2, a3, a4, a5⟩
      exact ⟨a1, a2, a3, a4.1, a5.1⟩
  · intro X hP hw hK hc i pins s σ H E I hf st hg
    subst hP hw hK
    obtain ⟨hz, hTI, hTO, h1, h2⟩ := st
    obtain ⟨xs, ys, hqx, hqy, hn⟩ := hg
    obtain ⟨its, rv, p, _, _⟩ := hqx.inv I
    obtain ⟨its2, rv2, p2, _, _⟩ := hqy.inv I
    have na : a ≠ i1 := p.ne h1
    have nb : b ≠ i2 := p2.ne h2
    have hh := I.ok.hd hc
    have W := GoesN.zip2 (prog := X.prog) (w := X.w) (A := X.A) (elts := elts) (x1 := kk) (pos := tpos) D (draws_sq (A := X.A.in1) k1 hh i1 a na its.toArray) (draws_sq (A := X.A.in1) k2 hh i2 b nb its2.toArray)
    have l1 := rv.length
    have l2 := rv2.length
    have en : i = min its.toArray.size its2.toArray.size := by simp; omega
    subst en
    exact done_of W I hf ⟨hz, hTI, hTO, ⟨h1, p⟩, ⟨h2, p2⟩⟩ (by intro c hc; simp only [List.mem_cons, List.not_mem_nil, or_false] at hc ⊢; rcases hc with h | h | h | h <;> simp [h])

def iZ2 (k1 k2 : Bool) (K : PySem.W.Frag) (ta : TA) : TI := fun σ H R => ta σ H fun vs H1 => ∃ a b xs ys, vs = [.ref a, .ref b] ∧ Sq k1 K H1 a xs ∧ Sq k2 K H1 b ys ∧ R (Itz2 k1 k2 K a b) H1
theorem pi_z2 (k1 k2 : Bool) {X : Cx} {e e2 : Expr} {ta : TA} {p pos tpos : Pos} {elts : List Expr} {kk : Nat} (hg : Gl X "zip") (hm : X.mg "zip" = none) (ha : PA X [e, e2] ta)
    (hs : starEach [e, e2] X.env = (false, eval e X.env) :: starEach [e2] X.env := by rfl) (hpl : (backTo pos (starEach [e2] X.env)).any (·.1) = false := by rfl) :
    PI X (.Tuple elts kk tpos) (.Call (.Name "zip" p) [e, e2] [] pos) (iZ2 k1 k2 X.K ta) := by
  refine ⟨fun pins s σ H R I h => ?_⟩
  refine Call_ (ld_blt I hg hm PyProof.Rows.boot_zip (PyProof.Rows.callWith_type1 (thn (ha.run pos pins s σ H _ I h) fun us s1 ⟨vs, H1, I1, r1, q1⟩ => ?_) hs hpl))
  obtain ⟨a, b, xs, ys, ex, hqx, hqy, q⟩ := q1
  subst ex
  cases r1 with
  | cons r rr =>
    cases rr with
    | cons r' rr =>
      cases rr
      cases r
      cases r'
      obtain ⟨its, rv, p1, _, la⟩ := hqx.inv I1
      obtain ⟨its2, rv2, p2, _, lb⟩ := hqy.inv I1
      refine zip_begins2 (begins_sq k1 a its.toArray) (begins_sq k2 b its2.toArray) p1 p2 fun h' hz hTI hTO h1 h2 hsz hk => wpAny_pyIter_zip hz ?_
      have I2 : Inv X pins σ H1 { s1 with heap := h' } := I1.kept (t' := s1.toks) hk
      refine ⟨s1.heap.objs.size + 4, [s1.heap.objs.size + 4, s1.heap.objs.size + 2, s1.heap.objs.size + 3, s1.heap.objs.size, s1.heap.objs.size + 1], _, _, H1, rfl, I2,
        turn_z2 (zip_sep2 (N := s1.heap.objs.size) (fp1 := [a]) (fp2 := [b]) (by simpa using la) (by simpa using lb)), ⟨hz, hTI, ⟨_, _, hTO⟩, ItIs.new h1, ItIs.new h2⟩, fun c hcm => ?_, q⟩
      have e' : c = s1.heap.objs.size + 4 ∨ c = s1.heap.objs.size + 2 ∨ c = s1.heap.objs.size + 3 ∨ c = s1.heap.objs.size ∨ c = s1.heap.objs.size + 1 := by simpa using hcm
      have hle : s1.heap.objs.size ≤ c := by
        rcases e' with z | z | z | z | z
        · rw [z]; exact Nat.le_add_right _ _
        · rw [z]; exact Nat.le_add_right _ _
        · rw [z]; exact Nat.le_add_right _ _
        · rw [z]; exact Nat.le_refl _
        · rw [z]; exact Nat.le_add_right _ _
      exact I1.fpOk hle (I1.hok.fresh hle)
theorem walk_z2 {k1 k2 : Bool} {K : PySem.W.Frag} {a b : Addr} {xs ys : List V} {n : Nat} (h1 : xs.length = n) (h2 : ys.length = n) : Walk (Itz2 k1 k2 K a b) n (fun H => Sq k1 K H a xs ∧ Sq k2 K H b ys) (YPair (fun i => xs[i]?) (fun i => ys[i]?)) := by
  refine ⟨fun i _ hi q => ?_, fun _ q => ⟨xs, ys, q.1, q.2, by omega⟩, fun i H v H' _ q y => ?_⟩
  · exact ⟨xs, ys, xs[i]'(by omega), ys[i]'(by omega), q.1, q.2, List.getElem?_eq_getElem _, List.getElem?_eq_getElem _⟩
  · obtain ⟨T, x, z, h1, h2, h3, h4, h5⟩ := y
    exact ⟨T, x, z, h1, h2, h3, h4 xs q.1, h5 ys q.2⟩

/-! ### zip of three -/
def Itz3 (k1 k2 k3 : Bool) (K : PySem.W.Frag) (a b c : Addr) : It :=
  ⟨fun i H => ∃ (xs ys zs : List V) (x y z : V), Sq k1 K H a xs ∧ Sq k2 K H b ys ∧ Sq k3 K H c zs ∧ xs[i]? = some x ∧ ys[i]? = some y ∧ zs[i]? = some z,
    fun i H v H' => ∃ T x y z, v = .ref T ∧ H T = none ∧ H' = upd H T (.tup [x, y, z]) ∧ (∀ xs, Sq k1 K H a xs → xs[i]? = some x) ∧ (∀ ys, Sq k2 K H b ys → ys[i]? = some y) ∧ ∀ zs, Sq k3 K H c zs → zs[i]? = some z,
    fun i H => ∃ xs ys zs : List V, Sq k1 K H a xs ∧ Sq k2 K H b ys ∧ Sq k3 K H c zs ∧ i = min (min xs.length ys.length) zs.length⟩
def z3St (k1 k2 k3 : Bool) (a b c z TI TO i1 i2 i3 : Addr) : Nat → Heap → Prop := fun i h => IsZip h z TI TO .none ∧ IsTupOf3 h TI (.ref i1) (.ref i2) (.ref i3) ∧ (∃ x y u, IsTupOf3 h TO x y u) ∧ ItIs k1 h i1 a i ∧ ItIs k2 h i2 b i ∧ ItIs k3 h i3 c i
theorem turn_z3 {P : Program} {w : World} {K : PySem.W.Frag} {elts : List Expr} {kk : Nat} {tpos : Pos} {k1 k2 k3 : Bool} {a b c z TI TO i1 i2 i3 : Addr} (D : ZipSep3 z TI TO i1 i2 i3 [i1, a] [i2, b] [i3, c]) :
    Turn P w K (.Tuple elts kk tpos) (Itz3 k1 k2 k3 K a b c) [z, TI, TO, i1, i2, i3] z (z3St k1 k2 k3 a b c z TI TO i1 i2 i3) := by
  have hobj : ∀ i h, z3St k1 k2 k3 a b c z TI TO i1 i2 i3 i h → ∀ b ∈ [z, TI, TO, i1, i2, i3], ∃ o, h.get? b = some o ∧ ∀ v, o.data ≠ .cell v := by
    rintro i h ⟨hz, hTI, ⟨x, y, u, hTO⟩, h1, h2, h3⟩ d hd
    have e' : d = z ∨ d = TI ∨ d = TO ∨ d = i1 ∨ d = i2 ∨ d = i3 := by simpa using hd
    rcases e' with q | q | q | q | q | q
    · rw [q]; exact ⟨_, hz, fun v q => nomatch q⟩
    · rw [q]; exact ⟨_, hTI, fun v q => nomatch q⟩
    · rw [q]; exact ⟨_, hTO, fun v q => nomatch q⟩
    · rw [q]; exact h1.obj
    · rw [q]; exact h2.obj
    · rw [q]; exact h3.obj
  refine ⟨by simp, hobj, ?_, ?_, ?_, fun A i s Q E st h => wpAny_pyIter_zip st.1 h⟩
  · rintro i h h' ⟨hz, hTI, ⟨x, y, u, hTO⟩, h1, h2, h3⟩ k
    exact ⟨k z (by simp) _ hz, k TI (by simp) _ hTI, ⟨x, y, u, k TO (by simp) _ hTO⟩, h1.at fun o q => k i1 (by simp) o q, h2.at fun o q => k i2 (by simp) o q, h3.at fun o q => k i3 (by simp) o q⟩
  · intro X hP hw hK hc i pins s σ H E I hf st hg
    subst hP hw hK
    have hsz : ∀ c ∈ [z, TI, TO, i1, i2, i3], c < s.heap.objs.size := fun c hcm => let ⟨_, e, _⟩ := hobj _ _ st c hcm; Heap.lt_size e
    obtain ⟨hz, hTI, hTO, h1, h2, h3⟩ := st
    obtain ⟨xs, ys, zs, x, y, u, hqx, hqy, hqz, hx, hy, hu⟩ := hg
    obtain ⟨its, rv, p, _, _⟩ := hqx.inv I
    obtain ⟨its2, rv2, p2, _, _⟩ := hqy.inv I
    obtain ⟨its3, rv3, p3, _, _⟩ := hqz.inv I
    have hh := I.ok.hd hc
    have W := GoesN.zip3 (prog := X.prog) (w := X.w) (A := X.A) (elts := elts) (x1 := kk) (pos := tpos) D (draws_sq (A := X.A.in1) k1 hh i1 a (p.ne h1) its.toArray) (draws_sq (A := X.A.in1) k2 hh i2 b (p2.ne h2) its2.toArray) (draws_sq (A := X.A.in1) k3 hh i3 c (p3.ne h3) its3.toArray)
    have l1 := rv.length
    have l2 := rv2.length
    have l3 := rv3.length
    have lx := lt_get hx
    have ly := lt_get hy
    have lz := lt_get hu
    refine item_of (J := Itz3 k1 k2 k3 X.K a b c) (tn := z3St k1 k2 k3 a b c z TI TO i1 i2 i3) W I hf (by simp; omega) ⟨hz, hTI, hTO, ⟨h1, p⟩, ⟨h2, p2⟩, ⟨h3, p3⟩⟩ (by intro c hc; simp only [List.mem_cons, List.not_mem_nil, or_false] at hc ⊢; rcases hc with h | h | h | h | h <;> simp [h]) hsz ?_ ?_
    · rintro v h' ⟨T, u1, u2, u3, ev, hT, q1, q2, q3, ht⟩
      obtain ⟨w1, e1, r1⟩ := rv.get hx
      obtain ⟨w2, e2, r2⟩ := rv2.get hy
      obtain ⟨w3, e3, r3⟩ := rv3.get hu
      have f1 : u1 = w1 := Option.some.inj (q1.symm.trans (get_arr e1))
      have f2 : u2 = w2 := Option.some.inj (q2.symm.trans (get_arr e2))
      have f3 : u3 = w3 := Option.some.inj (q3.symm.trans (get_arr e3))
      subst f1 f2 f3
      exact ⟨T, [x, y, u], [u1, u2, u3], ev, hT, ht, .cons r1 (.cons r2 (.cons r3 .nil)), (by show 3 ≤ sizeLine; decide), ⟨T, x, y, u, rfl, I.hok.fresh hT, rfl, fun l hl => by rw [hl.inj I hqx]; exact hx, fun l hl => by rw [hl.inj I hqy]; exact hy, fun l hl => by rw [hl.inj I hqz]; exact hu⟩⟩
    · rintro h' ⟨a1, a2, a3, a4, a5, a6⟩
      exact ⟨a1, a2, a3, a4.1, a5.1, a6.1⟩
  · intro X hP hw hK hc i pins s σ H E I hf st hg
    subst hP hw hK
    obtain ⟨hz, hTI, hTO, h1, h2, h3⟩ := st
    obtain ⟨xs, ys, zs, hqx, hqy, hqz, hn⟩ := hg
    obtain ⟨its, rv, p, _, _⟩ := hqx.inv I
    obtain ⟨its2, rv2, p2, _, _⟩ := hqy.inv I
    obtain ⟨its3, rv3, p3, _, _⟩ := hqz.inv I
    have hh := I.ok.hd hc
    have W := GoesN.zip3 (prog := X.prog) (w := X.w) (A := X.A) (elts := elts) (x1 := kk) (pos := tpos) D (draws_sq (A := X.A.in1) k1 hh i1 a (p.ne h1) its.toArray) (draws_sq (A := X.A.in1) k2 hh i2 b (p2.ne h2) its2.toArray) (draws_sq (A := X.A.in1) k3 hh i3 c (p3.ne h3) its3.toArray)
    have l1 := rv.length
    have l2 := rv2.length
    have l3 := rv3.length
    have en : i = min (min its.toArray.size its2.toArray.size) its3.toArray.size := by simp; omega
    subst en
    exact done_of W I hf ⟨hz, hTI, hTO, ⟨h1, p⟩, ⟨h2, p2⟩, ⟨h3, p3⟩⟩ (by intro c hc; simp only [List.mem_cons, List.not_mem_nil, or_false] at hc ⊢; rcases hc with h | h | h | h | h <;> simp [h])
def iZ3 (k1 k2 k3 : Bool) (K : PySem.W.Frag) (ta : TA) : TI := fun σ H R => ta σ H fun vs H1 => ∃ a b c xs ys zs, vs = [.ref a, .ref b, .ref c] ∧ Sq k1 K H1 a xs ∧ Sq k2 K H1 b ys ∧ Sq k3 K H1 c zs ∧ R (Itz3 k1 k2 k3 K a b c) H1
theorem pi_z3 (k1 k2 k3 : Bool) {X : Cx} {e e2 e3 : Expr} {ta : TA} {p pos tpos : Pos} {elts : List Expr} {kk : Nat} (hg : Gl X "zip") (hm : X.mg "zip" = none) (ha : PA X [e, e2, e3] ta)
    (hs : starEach [e, e2, e3] X.env = (false, eval e X.env) :: starEach [e2, e3] X.env := by rfl) (hpl : (backTo pos (starEach [e2, e3] X.env)).any (·.1) = false := by rfl) :
    PI X (.Tuple elts kk tpos) (.Call (.Name "zip" p) [e, e2, e3] [] pos) (iZ3 k1 k2 k3 X.K ta) := by
  refine ⟨fun pins s σ H R I h => ?_⟩
  refine Call_ (ld_blt I hg hm PyProof.Rows.boot_zip (PyProof.Rows.callWith_type1 (thn (ha.run pos pins s σ H _ I h) fun us s1 ⟨vs, H1, I1, r1, q1⟩ => ?_) hs hpl))
  obtain ⟨a, b, c, xs, ys, zs, ex, hqx, hqy, hqz, q⟩ := q1
  subst ex
  cases r1 with
  | cons r rr =>
    cases rr with
    | cons r' rr =>
      cases rr with
      | cons r'' rr =>
        cases rr
        cases r
        cases r'
        cases r''
        obtain ⟨its, rv, p1, _, la⟩ := hqx.inv I1
        obtain ⟨its2, rv2, p2, _, lb⟩ := hqy.inv I1
        obtain ⟨its3, rv3, p3, _, lc⟩ := hqz.inv I1
        refine zip_begins3 (begins_sq k1 a its.toArray) (begins_sq k2 b its2.toArray) (begins_sq k3 c its3.toArray) p1 p2 p3 fun h' hz hTI hTO h1 h2 h3 hsz hk => wpAny_pyIter_zip hz ?_
        have I2 : Inv X pins σ H1 { s1 with heap := h' } := I1.kept (t' := s1.toks) hk
        refine ⟨s1.heap.objs.size + 5, [s1.heap.objs.size + 5, s1.heap.objs.size + 3, s1.heap.objs.size + 4, s1.heap.objs.size, s1.heap.objs.size + 1, s1.heap.objs.size + 2], _, _, H1, rfl, I2,
          turn_z3 (zip_sep3 (N := s1.heap.objs.size) (fp1 := [a]) (fp2 := [b]) (fp3 := [c]) (by simpa using la) (by simpa using lb) (by simpa using lc)), ⟨hz, hTI, ⟨_, _, _, hTO⟩, ItIs.new h1, ItIs.new h2, ItIs.new h3⟩, fun d hcm => ?_, q⟩
        have e' : d = s1.heap.objs.size + 5 ∨ d = s1.heap.objs.size + 3 ∨ d = s1.heap.objs.size + 4 ∨ d = s1.heap.objs.size ∨ d = s1.heap.objs.size + 1 ∨ d = s1.heap.objs.size + 2 := by simpa using hcm
        have hle : s1.heap.objs.size ≤ d := by
          rcases e' with z | z | z | z | z | z
          · rw [z]; exact Nat.le_add_right _ _
          · rw [z]; exact Nat.le_add_right _ _
          · rw [z]; exact Nat.le_add_right _ _
          · rw [z]; exact Nat.le_refl _
          · rw [z]; exact Nat.le_add_right _ _
          · rw [z]; exact Nat.le_add_right _ _
        exact I1.fpOk hle (I1.hok.fresh hle)
def YTri (xs ys zs : Nat → Option V) : Nat → Hp → V → Hp → Prop := fun i H v H' => ∃ T x y z, v = .ref T ∧ H T = none ∧ H' = upd H T (.tup [x, y, z]) ∧ xs i = some x ∧ ys i = some y ∧ zs i = some z
theorem walk_z3 {k1 k2 k3 : Bool} {K : PySem.W.Frag} {a b c : Addr} {xs ys zs : List V} {n : Nat} (h1 : xs.length = n) (h2 : ys.length = n) (h3 : zs.length = n) : Walk (Itz3 k1 k2 k3 K a b c) n (fun H => Sq k1 K H a xs ∧ Sq k2 K H b ys ∧ Sq k3 K H c zs) (YTri (fun i => xs[i]?) (fun i => ys[i]?) (fun i => zs[i]?)) := by
  refine ⟨fun i _ hi q => ?_, fun _ q => ⟨xs, ys, zs, q.1, q.2.1, q.2.2, by omega⟩, fun i H v H' _ q y => ?_⟩
  · exact ⟨xs, ys, zs, xs[i]'(by omega), ys[i]'(by omega), zs[i]'(by omega), q.1, q.2.1, q.2.2, List.getElem?_eq_getElem _, List.getElem?_eq_getElem _, List.getElem?_eq_getElem _⟩
  · obtain ⟨T, x, z, u, h1, h2, h3, h4, h5, h6⟩ := y
    exact ⟨T, x, z, u, h1, h2, h3, h4 xs q.1, h5 ys q.2.1, h6 zs q.2.2⟩

/-! ### enumerate of a tuple -/
theorem meets_enum1 {v : Value} {o : Obj} {Hv : Heap → Prop} (B : Begins v o Hv) :
    Meets (Builtin.«enumerate.__new__» ⟨[.type "enumerate", v], []⟩) (fun _ R s => Hv s.heap ∧
      R (.ok (.ret (.ref (s.heap.push o).objs.size))) { s with heap := (s.heap.push o).push { cls := .type "enumerate", data := .fields #[.none, .bool false, .ref s.heap.objs.size, rawInt 0, .none, .none] } }) :=
  .of_wp fun prog w A R s h => by
    obtain ⟨hp, g, d, tk, os⟩ := s; obtain ⟨h1, h⟩ := h
    have hsub := sub_enumerate
    have q1 : ∀ {A' : Around} {E : Value → Shared → Prop} {Q : Value → Shared → Prop}, Q (.ref hp.objs.size) ⟨hp.push o, g, d, tk, os⟩ → wpAny (model prog w) A' (pyIter v) Q E ⟨hp, g, d, tk, os⟩ :=
      fun q => B.iter prog w _ _ ⟨hp, g, d, tk, os⟩ _ h1 q
    wp_walk using q1
    refine wpAny_stack_any fun st => wpAny_pure ?_
    split
    · rename_i c _ _ _ _ _
      cases (c == Value.type "enumerate")
      · wp_walk using q1
        exact ⟨_, rfl, h⟩
      · wp_walk using q1
        exact ⟨_, rfl, h⟩
    · wp_walk using q1
      exact ⟨_, rfl, h⟩
theorem enum_begins1 {prog : Program} {w : World} {A : Around} {E : Value → Shared → Prop} {s : Shared} {v : Value} {o : Obj} {Hv : Heap → Prop} {Q : Value → Shared → Prop} (B : Begins v o Hv) (h1 : Hv s.heap)
    (h : ∀ h', IsEnum h' (s.heap.objs.size + 1) s.heap.objs.size 0 .none → h'.get? s.heap.objs.size = some o → h'.objs.size = s.heap.objs.size + 2 →
      (∀ b o, s.heap.get? b = some o → h'.get? b = some o) → Q (.ref (s.heap.objs.size + 1)) { s with heap := h' }) :
    wpAny (model prog w) A (call (.type "enumerate") [v]) Q E s := by
  refine callType_new F.called_enumerate (by decide) (F.typeCall_enumerate_1 _) (F.newCall_enumerate_1 _) (fun obj => F.args_object_init_2 obj _) F.entry_enumerate_new
    (meets_enum1 B) ⟨h1, ?_⟩
  have hz : (s.heap.push o).objs.size = s.heap.objs.size + 1 := Heap.size_push ..
  show _ ∧ _
  rw [hz]
  have he : IsEnum ((s.heap.push o).push { cls := .type "enumerate", data := .fields #[.none, .bool false, .ref s.heap.objs.size, rawInt 0, .none, .none] }) (s.heap.objs.size + 1) s.heap.objs.size 0 .none := by
    have := Heap.get?_push_size (s.heap.push o) (o := { cls := .type "enumerate", data := .fields #[.none, .bool false, .ref s.heap.objs.size, rawInt 0, .none, .none] }) rfl
    rw [hz] at this; exact this
  refine ⟨⟨_, he, rfl⟩, h _ he (Heap.get?_push_of_some _ (Heap.get?_push_size _ B.free)) (by rw [Heap.size_push, hz]) fun b o x => Heap.get?_push_of_some _ (Heap.get?_push_of_some _ x)⟩
def Ite2 (k : Bool) (K : PySem.W.Frag) (a : Addr) : It :=
  ⟨fun i H => ∃ (xs : List V) (x : V), Sq k K H a xs ∧ xs[i]? = some x, fun i H v H' => ∃ T x, v = .ref T ∧ H T = none ∧ H' = upd H T (.tup [.int (i : Nat), x]) ∧ ∀ xs, Sq k K H a xs → xs[i]? = some x, fun i H => ∃ xs : List V, Sq k K H a xs ∧ i = xs.length⟩
def enSt (k : Bool) (a e it : Addr) : Nat → Heap → Prop := fun i h => (∃ old, IsEnum h e it (0 + (i : Nat)) old) ∧ ItIs k h it a i
theorem turn_en {P : Program} {w : World} {K : PySem.W.Frag} {elts : List Expr} {kk : Nat} {tpos : Pos} {k : Bool} {a e it : Addr} (hei : e ≠ it) (hea : e ≠ a) :
    Turn P w K (.Tuple elts kk tpos) (Ite2 k K a) [e, it] e (enSt k a e it) := by
  have hobj : ∀ i h, enSt k a e it i h → ∀ b ∈ [e, it], ∃ o, h.get? b = some o ∧ ∀ v, o.data ≠ .cell v := by
    rintro i h ⟨⟨old, he⟩, h1⟩ d hd
    have e' : d = e ∨ d = it := by simpa using hd
    rcases e' with q | q
    · rw [q]; exact ⟨_, he, fun v q => nomatch q⟩
    · rw [q]; exact h1.obj
  refine ⟨by simp, hobj, ?_, ?_, ?_, fun A i s Q E st h => let ⟨⟨_, he⟩, _⟩ := st; wpAny_pyIter_enum he h⟩
  · rintro i h h' ⟨⟨old, he⟩, h1⟩ k
    exact ⟨⟨old, k e (by simp) _ he⟩, h1.at fun o q => k it (by simp) o q⟩
  · intro X hP hw hK hc i pins s σ H E I hf st hg
    subst hP hw hK
    have hsz : ∀ c ∈ [e, it], c < s.heap.objs.size := fun c hcm => let ⟨_, e, _⟩ := hobj _ _ st c hcm; Heap.lt_size e
    obtain ⟨he, h1⟩ := st
    obtain ⟨xs, x, hqx, hx⟩ := hg
    obtain ⟨its, rv, p, _, _⟩ := hqx.inv I
    have hh := I.ok.hd hc
    have W := GoesN.enumFrom (prog := X.prog) (w := X.w) (A := X.A) (elts := elts) (x1 := kk) (pos := tpos) 0 (draws_sq (A := X.A.in1) k hh it a (p.ne h1) its.toArray) e hei (by simp [hei, hea]) (by simp)
    have l1 := rv.length
    have lx := lt_get hx
    refine item_of (J := Ite2 k X.K a) (tn := enSt k a e it) W I hf (by simp; omega) ⟨he, h1, p⟩ (fun c hc => hc) hsz ?_ ?_
    · rintro v h' ⟨T, t, u1, ev, hT, q1, ht⟩
      obtain ⟨w1, e1, r1⟩ := rv.get hx
      have f1 : u1 = w1 := Option.some.inj (q1.symm.trans (get_arr e1))
      subst f1
      refine ⟨T, [.int (i : Nat), x], [.int (0 + (i : Int)) t, u1], ev, hT, ht, .cons ⟨t, by rw [Int.zero_add]⟩ (.cons r1 .nil), (by show 2 ≤ sizeLine; decide), ⟨T, x, rfl, I.hok.fresh hT, rfl, fun l hl => by rw [hl.inj I hqx]; exact hx⟩⟩
    · rintro h' ⟨a1, a2⟩
      exact ⟨a1, a2.1⟩
  · intro X hP hw hK hc i pins s σ H E I hf st hg
    subst hP hw hK
    obtain ⟨he, h1⟩ := st
    obtain ⟨xs, hqx, hn⟩ := hg
    obtain ⟨its, rv, p, _, _⟩ := hqx.inv I
    have hh := I.ok.hd hc
    have W := GoesN.enumFrom (prog := X.prog) (w := X.w) (A := X.A) (elts := elts) (x1 := kk) (pos := tpos) 0 (draws_sq (A := X.A.in1) k hh it a (p.ne h1) its.toArray) e hei (by simp [hei, hea]) (by simp)
    have l1 := rv.length
    have en : i = its.toArray.size := by simp; omega
    subst en
    exact done_of W I hf ⟨he, h1, p⟩ (fun c hc => hc)
def iEn (k : Bool) (K : PySem.W.Frag) (ta : TA) : TI := fun σ H R => ta σ H fun vs H1 => ∃ a xs, vs = [.ref a] ∧ Sq k K H1 a xs ∧ R (Ite2 k K a) H1
theorem pi_en (k : Bool) {X : Cx} {e : Expr} {ta : TA} {p pos tpos : Pos} {elts : List Expr} {kk : Nat} (hg : Gl X "enumerate") (hm : X.mg "enumerate" = none) (ha : PA X [e] ta) (hs : starEach [e] X.env = [(false, eval e X.env)] := by rfl) :
    PI X (.Tuple elts kk tpos) (.Call (.Name "enumerate" p) [e] [] pos) (iEn k X.K ta) := by
  refine ⟨fun pins s σ H R I h => ?_⟩
  refine Call_ (ld_blt I hg hm boot_enumerate (PyProof.Rows.callWith_type1 (thn (ha.run pos pins s σ H _ I h) fun us s1 ⟨vs, H1, I1, r1, q1⟩ => ?_) hs rfl))
  obtain ⟨a, xs, ex, hq, q⟩ := q1
  subst ex
  cases r1 with
  | cons r rr =>
    cases rr
    cases r
    obtain ⟨its, rv, p', hz, la⟩ := hq.inv I1
    refine enum_begins1 (begins_sq k a its.toArray) p' fun h' he hit hsz hk => wpAny_pyIter_enum he ?_
    have I2 : Inv X pins σ H1 { s1 with heap := h' } := I1.kept (t' := s1.toks) hk
    have na : s1.heap.objs.size + 1 ≠ a := fun z => by
      have z' : (a : Nat) = s1.heap.objs.size + 1 := z.symm
      have la' : (a : Nat) < s1.heap.objs.size := la
      exact absurd la' (by rw [z']; exact Nat.not_lt.mpr (Nat.le_add_right _ _))
    refine ⟨s1.heap.objs.size + 1, [s1.heap.objs.size + 1, s1.heap.objs.size], _, _, H1, rfl, I2, turn_en (Nat.succ_ne_self _) na, ⟨⟨.none, he⟩, ItIs.new hit⟩, fun b hb => ?_, q⟩
    have e' : b = s1.heap.objs.size + 1 ∨ b = s1.heap.objs.size := by simpa using hb
    have hle : s1.heap.objs.size ≤ b := by
      rcases e' with z | z
      · rw [z]; exact Nat.le_add_right _ _
      · rw [z]; exact Nat.le_refl _
    exact I1.fpOk hle (I1.hok.fresh hle)
theorem walk_en {k : Bool} {K : PySem.W.Frag} {a : Addr} {xs : List V} {n : Nat} (h1 : xs.length = n) : Walk (Ite2 k K a) n (fun H => Sq k K H a xs) (YPair (fun i => some (.int (i : Nat))) (fun i => xs[i]?)) := by
  refine ⟨fun i _ hi q => ⟨xs, xs[i]'(by omega), q, List.getElem?_eq_getElem _⟩, fun _ q => ⟨xs, q, h1.symm⟩, fun i H v H' _ q y => ?_⟩
  obtain ⟨T, x, h1, h2, h3, h4⟩ := y
  exact ⟨T, .int (i : Nat), x, h1, h2, h3, rfl, h4 xs q⟩
/-- a dict comprehension over a walk -/
theorem dc_it {J : It} {n : Nat} {G : Hp → Prop} {Y : Nat → Hp → V → Hp → Prop} (w : Walk J n G Y) {g : TG} {tt : TT} {tk tv : TE} {vs : List Nat} {σ : St} {H1 : Hp} {D : Addr} {Qd : Hp → Prop} (Pv : Nat → Hp → Prop) (h0 : Pv 0 (upd H1 D (.dK []))) (hG : ∀ i H, i ≤ n → Pv i H → G H)
    (hs : ∀ i x H H', i < n → Pv i H → Y i H x H' → g x (wipe σ vs) H' fun σ2 H2 => wipe σ2 vs = wipe σ vs ∧ tt σ2 H2 fun b H3 =>
      if b = true then tk σ2 H3 fun y H4 => tv σ2 H4 fun z H5 => ∃ kvs k, y = kV k ∧ H5 D = some (.dK kvs) ∧ kvs.length < sizeLine ∧ Pv (i + 1) (upd H5 D (.dK (putK kvs k z))) else Pv (i + 1) H3) (hd : ∀ H, Pv n H → Qd H) :
    ∃ W : Nat → Nat → Hp → Prop, (∃ m, W 0 m (upd H1 D (.dK []))) ∧ ∀ i m H, W i m H →
      (J.stop i H ∧ Qd H) ∨ (J.go i H ∧ ∃ Nx : Hp → Prop, (∀ H', Nx H' → ∃ m', m' < m ∧ W (i + 1) m' H') ∧ ∀ x H', J.yld i H x H' → g x (wipe σ vs) H' fun σ2 H2 => wipe σ2 vs = wipe σ vs ∧ tt σ2 H2 fun b H3 =>
        if b = true then tk σ2 H3 fun y H4 => tv σ2 H4 fun z H5 => ∃ kvs k, y = kV k ∧ H5 D = some (.dK kvs) ∧ kvs.length < sizeLine ∧ Nx (upd H5 D (.dK (putK kvs k z))) else Nx H3) := by
  refine ⟨fun i m H => m = n - i ∧ i ≤ n ∧ Pv i H, ⟨n, by simp, Nat.zero_le _, h0⟩, ?_⟩
  rintro i m H ⟨rfl, hi, p⟩
  have q := hG i H hi p
  by_cases hlt : i < n
  · refine .inr ⟨w.goes i H hlt q, Pv (i + 1), fun H' p' => ⟨n - (i + 1), by omega, rfl, hlt, p'⟩, fun x H' y => hs i x H H' hlt p (w.yields i H x H' hlt q y)⟩
  · have e : i = n := by omega
    subst e
    exact .inl ⟨w.stops H q, hd H p⟩
end L2.Lx

/-! dicts whose keys are tuples of flat things and of tuples of flat things -/
namespace L2.Lx
open PySem PySem.Spec PyProof.Rows

def flatK : V → Option NestedKey
  | .bl b => some (.num (if b = true then 1 else 0))
  | .int i => some (.num i)
  | .str x => some (.text x)
  | .non => some .none
  | _ => none
def KFlat (H : Hp) (b : Addr) (ks : List NestedKey) : Prop := ∃ xs, H b = some (.tup xs) ∧ Paired (fun x k => flatK x = some k) xs ks
def KIs (H : Hp) (x : V) (k : NestedKey) : Prop := flatK x = some k ∨ ∃ b ks, x = .ref b ∧ k = .tup ks ∧ KFlat H b ks
/-- the tuple at b is the key k -/
def KTop (H : Hp) (b : Addr) (k : NestedKey) : Prop := ∃ xs ks, H b = some (.tup xs) ∧ k = .tup ks ∧ Paired (KIs H) xs ks
/-- tuples stay -/
def TupK (H H' : Hp) : Prop := ∀ b xs, H b = some (.tup xs) → H' b = some (.tup xs)
theorem KFlat.keep {H H' : Hp} {b : Addr} {ks : List NestedKey} (t : TupK H H') (x : KFlat H b ks) : KFlat H' b ks := let ⟨xs, e, p⟩ := x; ⟨xs, t _ _ e, p⟩
theorem KIs.keep {H H' : Hp} {v : V} {k : NestedKey} (t : TupK H H') (x : KIs H v k) : KIs H' v k := by
  rcases x with x | ⟨b, ks, e1, e2, x⟩
  · exact .inl x
  · exact .inr ⟨b, ks, e1, e2, x.keep t⟩
theorem KTop.keep {H H' : Hp} {b : Addr} {k : NestedKey} (t : TupK H H') (x : KTop H b k) : KTop H' b k := let ⟨xs, ks, e, e2, p⟩ := x; ⟨xs, ks, t _ _ e, e2, Paired.mapP p fun _ _ z => z.keep t⟩
theorem flat_depth {x : V} {k : NestedKey} (h : flatK x = some k) : k.depth = 0 := by
  cases x <;> simp [flatK] at h <;> subst h <;> simp [NestedKey.depth]
theorem flats_depth {xs : List V} {ks : List NestedKey} (h : Paired (fun x k => flatK x = some k) xs ks) : NestedKey.depthAll ks = 0 := by
  induction h with
  | nil => simp [NestedKey.depthAll]
  | cons r t ih => simp [NestedKey.depthAll, flat_depth r, ih]
theorem KIs.depth {H : Hp} {v : V} {k : NestedKey} (x : KIs H v k) : k.depth ≤ 1 := by
  rcases x with x | ⟨b, ks, e1, e2, xs, e, p⟩
  · rw [flat_depth x]; exact Nat.zero_le _
  · subst e2
    rw [NestedKey.depth, flats_depth p]
    exact Nat.le_refl _
theorem kis_depth {H : Hp} {xs : List V} {ks : List NestedKey} (h : Paired (KIs H) xs ks) : NestedKey.depthAll ks ≤ 1 := by
  induction h with
  | nil => simp [NestedKey.depthAll]
  | cons r t ih =>
    have := r.depth
    simp only [NestedKey.depthAll]
    omega
theorem flat_is {h : Heap} {x : V} {k : NestedKey} {u : Value} (e : flatK x = some k) (r : RelV x u) : NestedIs h k u := by
  cases x with
  | non => simp [flatK] at e; subst e; cases r; exact .none
  | bl b => simp [flatK] at e; subst e; cases r; exact .bool rfl
  | int i => simp [flatK] at e; subst e; obtain ⟨t, rfl⟩ := r; exact .int i t
  | str z => simp [flatK] at e; subst e; obtain ⟨t, rfl⟩ := r; exact .text z t
  | byt _ => simp [flatK] at e
  | flt _ => simp [flatK] at e
  | ref _ => simp [flatK] at e
  | ty _ => simp [flatK] at e
theorem flats_are {h : Heap} {xs : List V} {ks : List NestedKey} (e : Paired (fun x k => flatK x = some k) xs ks) : ∀ {us : List Value}, Vals xs us → NestedAll h ks us := by
  induction e with
  | nil => intro us r; cases r; exact .nil
  | cons q t ih =>
    intro us r
    cases r with
    | cons r rr => exact .cons (flat_is q r) (ih rr)
section
variable {P : Program} {w : World} {H : Hp} {h : Heap}
theorem tup_at {b : Addr} {xs : List V} (ok : HOk P w H h) (e : H b = some (.tup xs)) : ∃ (us : List Value) (o : Obj) (n : Nat), Vals xs us ∧ h.get? b = some o ∧ o.cls = .type "tuple" ∧ o.data = .seq us.toArray n := by
  obtain ⟨_, us, r, o, h1, h2, n, h3⟩ := (show ObjOk P w H h b (.tup xs) from ok b _ e)
  exact ⟨us, o, n, r, h1, h2, h3⟩
theorem KFlat.is {b : Addr} {ks : List NestedKey} (ok : HOk P w H h) (x : KFlat H b ks) : NestedIs h (.tup ks) (.ref b) := by
  obtain ⟨xs, e, p⟩ := x
  obtain ⟨us, o, n, r, h1, h2, h3⟩ := tup_at ok e
  exact .tup h1 h2 h3 (by simpa using flats_are p r)
theorem KIs.is {v : V} {k : NestedKey} {u : Value} (ok : HOk P w H h) (x : KIs H v k) (r : RelV v u) : NestedIs h k u := by
  rcases x with x | ⟨b, ks, e1, e2, x⟩
  · exact flat_is x r
  · subst e1 e2
    cases r
    exact x.is ok
theorem kis_are {xs : List V} {ks : List NestedKey} (ok : HOk P w H h) (e : Paired (KIs H) xs ks) : ∀ {us : List Value}, Vals xs us → NestedAll h ks us := by
  induction e with
  | nil => intro us r; cases r; exact .nil
  | cons q t ih =>
    intro us r
    cases r with
    | cons r rr => exact .cons (q.is ok r) (ih rr)
theorem KTop.is {b : Addr} {k : NestedKey} (ok : HOk P w H h) (x : KTop H b k) : (nestedKind P w).is h k b := by
  obtain ⟨xs, ks, e, e2, p⟩ := x
  subst e2
  obtain ⟨us, o, n, r, h1, h2, h3⟩ := tup_at ok e
  refine ⟨.tup h1 h2 h3 (by simpa using kis_are ok p r), ?_⟩
  have := kis_depth p
  rw [NestedKey.depth]
  omega
end
/-- what is true of the dict's one object -/
def ndP (P : Program) (w : World) (a : Addr) (xs : List (NestedKey × Addr × Value)) : Heap → Prop := fun h =>
  ∃ o es ep, h.get? a = some o ∧ o.ExactDict ∧ o.data = .dict es ep ∧ es.toList = xs.map (entryOfKey (nestedKind P w)) ∧ (xs.map (·.1)).Nodup
abbrev KN (H : Hp) : List (NestedKey × V) → List (NestedKey × Addr × Value) → Prop := Paired fun p q => p.1 = q.1 ∧ KTop H q.2.1 p.1 ∧ RelV p.2 q.2.2
/-- at a stands a dict of nested keys -/
def NDict (P : Program) (w : World) (H : Hp) (a : Addr) (kvs : List (NestedKey × V)) : Prop :=
  kvs.length ≤ sizeLine ∧ (a == sysModules) = false ∧ ∃ xs, H a = some (.ext (ndP P w a xs)) ∧ KN H kvs xs
theorem NDict.keep {P : Program} {w : World} {H H' : Hp} {a : Addr} {kvs : List (NestedKey × V)} (x : NDict P w H a kvs) (t : TupK H H') (e : ∀ o, H a = some o → H' a = some o) : NDict P w H' a kvs := by
  obtain ⟨z, hs, xs, h1, r⟩ := x
  exact ⟨z, hs, xs, e _ h1, Paired.mapP r fun _ _ q => ⟨q.1, q.2.1.keep t, q.2.2⟩⟩
theorem KN.val {H : Hp} {kvs : List (NestedKey × V)} {xs : List (NestedKey × Addr × Value)} (r : KN H kvs xs) (k : NestedKey) : RelO (valV kvs k) ((atKey xs k).map (·.2)) := by
  induction r with
  | nil => exact True.intro
  | @cons p q ps qs hq t ih =>
    obtain ⟨e, _, rv⟩ := hq
    by_cases hk : p.1 = k
    · rw [valV_pos hk]
      have : atKey (q :: qs) k = some q.2 := by simp [atKey, ← e, hk]
      rw [this]
      exact rv
    · rw [valV_neg hk]
      have : atKey (q :: qs) k = atKey qs k := by simp [atKey, ← e, hk]
      rw [this]
      exact ih
theorem KN.repl {H : Hp} {kvs : List (NestedKey × V)} {xs : List (NestedKey × Addr × Value)} (r : KN H kvs xs) (k : NestedKey) {y : V} {u : Value} (ry : RelV y u) :
    KN H (kvs.map fun kv => if kv.1 = k then (kv.1, y) else kv) (xs.map (putAt k u)) := by
  induction r with
  | nil => exact .nil
  | @cons p q ps qs hq t ih =>
    refine .cons ?_ ih
    obtain ⟨e, kt, rv⟩ := hq
    by_cases hk : p.1 = k
    · have hk' : q.1 = k := e ▸ hk
      simp only [hk, if_true, putAt, hk']
      refine ⟨by first | trivial | rfl, ?_, ry⟩
      rw [← hk]
      exact kt
    · have hk' : ¬ q.1 = k := e ▸ hk
      simp only [hk, if_false, putAt, hk']
      exact ⟨e, kt, rv⟩
theorem KN.put {H : Hp} {kvs : List (NestedKey × V)} {xs : List (NestedKey × Addr × Value)} (r : KN H kvs xs) (k : NestedKey) {b : Addr} {y : V} {u : Value} (hb : KTop H b k) (ry : RelV y u) :
    KN H (putK kvs k y) (storedH xs k b u) := by
  have q := (r.val k).isSome_eq
  rw [Option.isSome_map] at q
  unfold putK storedH
  rw [valV_any, q]
  by_cases hs : (atKey xs k).isSome = true
  · rw [if_pos hs, if_pos hs]
    exact r.repl k ry
  · rw [if_neg hs, if_neg hs]
    exact Paired.snoc r ⟨rfl, hb, ry⟩
section
variable {X : Cx} {pins : List (Addr × Obj)} {σ : St} {H : Hp} {s : Shared} {a b : Addr} {kvs : List (NestedKey × V)} {k : NestedKey} {v : V} {r : Value} {A : Around} {E : Value → Shared → Prop}
theorem nd_at (I : Inv X pins σ H s) (x : NDict X.prog X.w H a kvs) : ∃ xs, KN H kvs xs ∧ s.heap.DictOfH (nestedKind X.prog X.w) a xs := by
  obtain ⟨z, hs, xs, h1, rel⟩ := x
  obtain ⟨⟨o, es, ep, e1, e2, e3, e4, e5⟩, _, _⟩ := (show ObjOk X.prog X.w H s.heap a (.ext (ndP X.prog X.w a xs)) from I.hok a _ h1)
  refine ⟨xs, rel, o, es, ep, e1, e2, e3, e4, ?_, e5⟩
  have all : ∀ {l : List (NestedKey × V)} {m : List (NestedKey × Addr × Value)}, KN H l m → ∀ x ∈ m, (nestedKind X.prog X.w).is s.heap x.1 x.2.1 := by
    intro l m q
    induction q with
    | nil => intro x hx; exact nomatch hx
    | @cons p q ps qs hq t ih =>
      intro x hx
      rcases List.mem_cons.mp hx with e | hx
      · subst e
        rw [← hq.1]
        exact hq.2.1.is I.hok
      · exact ih x hx
  exact all rel
theorem nd_room (hu : A.units + 64 < cLine) : (nestedKind X.prog X.w).room A.in1 := by
  show A.units + 1 + 8 < cLine
  omega
theorem nd_getItem {Q : Value → Shared → Prop} (hu : A.units + 64 < cLine) (I : Inv X pins σ H s) (x : NDict X.prog X.w H a kvs) (hk : KTop H b k) (l : valV kvs k = some v) (h : ∀ w' s', Inv X pins σ H s' → RelV v w' → Q w' s') :
    s.TypeIs (.ref a) "dict" ∧ wpAny (model X.prog X.w) A (getItem (.ref a) (.ref b)) Q E s := by
  obtain ⟨xs, rel, dd⟩ := nd_at I x
  obtain ⟨w', hw, rw'⟩ := RelO.some_of (v := v) (o := (atKey xs k).map (·.2)) (by rw [← l]; exact rel.val k)
  obtain ⟨p, hp, hp2⟩ := Option.map_eq_some_iff.mp hw
  refine ⟨dd.typeIs, wpAny_getItem_heap (nd_room hu) (hk.is I.hok) dd hp ?_⟩
  rw [hp2]
  exact h w' _ (I.tok _) rw'
theorem nd_notIn {Q : Value → Shared → Prop} (hu : A.units + 64 < cLine) (I : Inv X pins σ H s) (x : NDict X.prog X.w H a kvs) (hk : KTop H b k) (h : ∀ s', Inv X pins σ H s' → Q (.bool (!(valV kvs k).isSome)) s') :
    wpAny (model X.prog X.w) A (compareOp .NotIn (.ref b) (.ref a)) Q E s := by
  obtain ⟨xs, rel, dd⟩ := nd_at I x
  refine wpAny_notIn_heap (nd_room hu) (hk.is I.hok) x.2.1 dd ?_
  have q := (rel.val k).isSome_eq
  rw [Option.isSome_map] at q
  rw [← q]
  exact h _ (I.tok _)
theorem nd_setItem {Q : Unit → Shared → Prop} (hu : A.units + 64 < cLine) (I : Inv X pins σ H s) (x : NDict X.prog X.w H a kvs) (hk : KTop H b k) (hl : kvs.length < sizeLine) (rv : RelV v r)
    (h : ∀ o s', NDict X.prog X.w (upd H a o) a (putK kvs k v) → Inv X pins σ (upd H a o) s' → Q () s') : wpAny (model X.prog X.w) A (setItem (.ref a) (.ref b) r) Q E s := by
  obtain ⟨xs, rel, dd⟩ := nd_at I x
  obtain ⟨z, hs0, xs0, h1, rel0⟩ := x
  have hz : xs.length ≤ sizeLine := by rw [← Paired.length rel]; exact z
  have hl' : (putK kvs k v).length ≤ sizeLine := by have := length_putK kvs k v; omega
  refine wpAny_setItem_heap (hsz := hz) (nd_room hu) (hk.is I.hok) dd fun h' dd' hs => ?_
  obtain ⟨q, es, ep, hq, h2, h3, h4, _, h5⟩ := dd'
  have new : ObjOk X.prog X.w (upd H a (.ext (ndP X.prog X.w a (storedH xs k b r)))) h' a (.ext (ndP X.prog X.w a (storedH xs k b r))) :=
    ⟨⟨q, es, ep, hq, h2, h3, h4, h5⟩, ⟨q, hq⟩, fun g1 g2 ⟨o, es, ep, e1, e2⟩ k => ⟨o, es, ep, k _ e1, e2⟩⟩
  refine h (.ext (ndP X.prog X.w a (storedH xs k b r))) _ ⟨hl', hs0, storedH xs k b r, upd_same, Paired.mapP (rel.put k hk rv) fun p q z => ⟨z.1, z.2.1.keep fun c ys ec => ?_, z.2.2⟩⟩ (d_write I (by rw [h1]; exact True.intro) hs ⟨q, hq⟩ new)
  rw [upd_ne (ne_of ec h1 (fun z => nomatch z))]
  exact ec
end
/-- {} that is to hold nested keys -/
def tDNewE (P : Program) (w : World) : TE := fun _ H Q => ∀ p o, H p = none → NDict P w (upd H p o) p [] → Q (.ref p) (upd H p o)
/-- d[k], k not in d, d[k] = v -/
def tNGet (P : Program) (w : World) (td ty : TE) : TE := fun σ H Q => td σ H fun x H1 => ty σ H1 fun y H2 => ∃ a b kvs k v, x = .ref a ∧ y = .ref b ∧ NDict P w H2 a kvs ∧ KTop H2 b k ∧ valV kvs k = some v ∧ Q v H2
def tNNotIn (P : Program) (w : World) (ty td : TE) : TE := fun σ H Q => ty σ H fun y H1 => td σ H1 fun x H2 => ∃ a b kvs k, x = .ref a ∧ y = .ref b ∧ NDict P w H2 a kvs ∧ KTop H2 b k ∧ Q (.bl (!(valV kvs k).isSome)) H2
def sNPut (P : Program) (w : World) (td ty tv : TE) : TS := fun D σ H => tv σ H fun v H1 => td σ H1 fun x H2 => ty σ H2 fun y H3 => ∃ a b kvs k, x = .ref a ∧ y = .ref b ∧ NDict P w H3 a kvs ∧ KTop H3 b k ∧ kvs.length < sizeLine ∧
  ∀ o, NDict P w (upd H3 a o) a (putK kvs k v) → D.nx σ (upd H3 a o)
section
variable {X : Cx} {o i value : Expr} {pos pos' : Pos} {td ty tv : TE}
theorem pe_dnewE : PE X (.Dict [] [] pos) (tDNewE X.prog X.w) := ⟨fun pins s σ H Q I h => by
  have new : ObjOk X.prog X.w (upd H s.heap.objs.size (.ext (ndP X.prog X.w s.heap.objs.size []))) (s.heap.push { cls := .type "dict", data := .dict #[] }) s.heap.objs.size (.ext (ndP X.prog X.w s.heap.objs.size [])) :=
    ⟨⟨_, #[], 0, Heap.get?_push_size _ rfl, ⟨rfl, rfl, rfl⟩, rfl, rfl, List.nodup_nil⟩, ⟨_, Heap.get?_push_size _ rfl⟩, fun g1 g2 ⟨o, es, ep, e1, e2⟩ k => ⟨o, es, ep, k _ e1, e2⟩⟩
  exact wpAny_Dict_empty ⟨.ref s.heap.objs.size, _, I.laid (a := s.heap.objs.size) (t' := s.toks) (fun _ _ q => Heap.get?_push_of_some _ q) (Nat.le_refl _) new, rfl, h _ _ (I.hok.fresh (Nat.le_refl _)) ⟨Nat.zero_le _, beq_eq_false_iff_ne.mpr (Ne.symm (Nat.ne_of_lt I.big)), [], upd_same, .nil⟩⟩⟩
theorem pe_nget (hu : X.A.units + 64 < cLine) (ho : PE X o td) (hi : PE X i ty) (hs : NoSl i) : PE X (.Subscript o i pos) (tNGet X.prog X.w td ty) := by
  refine ⟨fun pins s σ H Q I h => ?_⟩
  refine subD_of PySem.F.slot_dict_getitem.lookup hs (thn (ho.run pins s σ H _ I h) fun u s1 ⟨x, H1, I1, rx, q1⟩ => thn (hi.run pins s1 σ H1 _ I1 q1) fun iv s2 ⟨y, H2, I2, ry, a, b, kvs, k, v, ex, ey, nd, hk, l, q2⟩ => ?_)
  subst ex ey
  obtain rfl : u = Value.ref a := rx
  obtain rfl : iv = Value.ref b := ry
  exact nd_getItem hu I2 nd hk l fun w' s3 I3 rw' => ⟨v, H2, I3, rw', q2⟩
theorem pc_nnotin (hu : X.A.units + 64 < cLine) (hi : PE X i ty) (ho : PE X o td) : PC X .NotIn i o (tNNotIn X.prog X.w ty td) := by
  refine ⟨fun pins s σ H Q I h => ?_⟩
  refine thn (hi.run pins s σ H _ I h) fun iv s1 ⟨y, H1, I1, ry, q1⟩ => thn (ho.run pins s1 σ H1 _ I1 q1) fun u s2 ⟨x, H2, I2, rx, a, b, kvs, k, ex, ey, nd, hk, q2⟩ => ?_
  subst ex ey
  obtain rfl : u = Value.ref a := rx
  obtain rfl : iv = Value.ref b := ry
  exact nd_notIn hu I2 nd hk fun s3 I3 => ⟨.bl (!(valV kvs k).isSome), H2, I3, rfl, q2⟩
theorem ps_nput (hu : X.A.units + 64 < cLine) (ho : PE X o td) (hi : PE X i ty) (hv : PE X value tv) (hs : swapsWith value (some (.Subscript o i pos')) pos.line X.env = pure false) :
    PS X (.Assign [.Subscript o i pos'] value pos) (sNPut X.prog X.w td ty tv) := by
  refine ⟨fun pins s σ H D I h => ?_⟩
  refine wpAny_Assign_Subscript (thn (hv.run pins s σ H _ I h) fun r s1 ⟨v, H1, I1, rv, q1⟩ => thn (ho.run pins s1 σ H1 _ I1 q1) fun u s2 ⟨x, H2, I2, rx, q2⟩ => thn (hi.run pins s2 σ H2 _ I2 q2) fun iv s3 ⟨y, H3, I3, ry, a, b, kvs, k, ex, ey, nd, hk, hl, q3⟩ => ?_) hs
  subst ex ey
  obtain rfl : u = Value.ref a := rx
  obtain rfl : iv = Value.ref b := ry
  exact nd_setItem hu I3 nd hk hl rv fun o s4 nd' I4 => ⟨σ, _, I4, q3 o nd'⟩
end
end L2.Lx

/-! a classmethod called with keywords; a class held in a local name, called -/
namespace L2.Lx
open PySem PySem.Spec PyProof.Rows ClX

/-- C.m(e, .., k = v, ..), m a classmethod -/
def tCMethK (C : Addr) (n m : Nat) (sp : Sp) (gV : List V → List V → List V) (E : XK) (ta : TE) (t tk : TA) : TE := fun σ H Q => ta σ H fun x H1 => x = .ref C ∧ t σ H1 fun vs H2 => tk σ H2 fun zs H3 => vs.length = n ∧ zs.length = m ∧ sp (gV (.ref C :: vs) zs) H3 Q E
section
variable {X : Cx} {pins : List (Addr × Obj)} {σ : St} {H : Hp} {s : Shared} {CX : CXT} {k n : Nat} {C p g q : Addr} {mc : Value} {fd : FuncData} {ps ks : List Str} {sp : Sp} {E : XK} {o e : Expr} {es : List Expr} {kws : List Keyword} {m : Str} {pos apos : Pos} {ta : TE} {t tk : TA} {pl : Sem Bool}
  {G : List Value → List Value → List Value} {GV : List V → List V → List V}
theorem run_cmK {Q : VK} {us ws : List Value} {vs zs : List V} (F : FnOk X.prog X.w X.K X.mg X.base CX k g fd ps sp) (hr : Room k X.A) (hb : KBn X.K fd ps (n + 1) ks G GV) (hx : Passes CX X E) (I : Inv X ((q, PySem.W.methodObj (.ref g) (.ref C)) :: pins) σ H s)
    (r : Vals vs us) (rz : Vals zs ws) (l1 : vs.length = n) (l2 : zs.length = ks.length) (h : sp (GV (.ref C :: vs) zs) H Q E) : wpAny (model X.prog X.w) X.A (call (.ref q) us (ks.zip ws)) (EP X pins σ Q) X.xe s := by
  have r1 : Vals (V.ref C :: vs) (Value.ref C :: us) := .cons rfl r
  have r2 := hb.rel r1 rz
  have e1 : (Value.ref C :: us).length = n + 1 := r1.length.symm.trans (congrArg Nat.succ l1)
  have e2 : ws.length = ks.length := rz.length.symm.trans l2
  refine wpAny_call (PySem.W.method_call (pin_at I) (codeAny_mono (F.run X.A X.stack s H ⟨Value.ref C :: us, ks.zip ws⟩ (G (Value.ref C :: us) ws) (GV (.ref C :: vs) zs) Q E hr I.env0 (hb.to s _ ws I.kIn e1 e2) r2 h) fun r s' hq => ?_))
  cases r with
  | error e => exact hx _ σ H s e s' I hq
  | ok fl =>
    cases fl with
    | ret u => exact unpinE (I.after hq)
    | next => exact False.elim hq
    | brk => exact False.elim hq
    | cont => exact False.elim hq
theorem pe_cmethK (he : PE X o ta) (r : CRead X.K C mc) (c : CMet X.K C mc m p g) (F : FnOk X.prog X.w X.K X.mg X.base CX k g fd ps sp) (hr : Room k X.A) (hb : KBn X.K fd ps (n + 1) ks G GV) (hx : Passes CX X E) (ha : PA X (e :: es) t) (hkw : PK X kws tk)
    (hall : (backToKw pos (keywordEach kws X.env)).all (·.1.isSome) = true := by rfl) (hks : (backToKw pos (keywordEach kws X.env)).filterMap (·.1) = ks := by rfl)
    (hst : starEach (e :: es) X.env = (false, eval e X.env) :: starEach es X.env := by rfl)
    (hpl : ((backTo pos (starEach (e :: es) X.env)).any (·.1) || (backToKw pos (keywordEach kws X.env)).any (·.1.isNone)) = false := by rfl)
    (ht : eval (.Call (.Attribute o m apos) (e :: es) kws pos) X.env = (do
      let ov ← eval o X.env
      standAt apos.atName
      let (f, first) ← holding [ov] (getMethod ov m pl)
      callWith pos f first (backTo pos (starEach (e :: es) X.env)) (backToKw pos (keywordEach kws X.env))) := by rfl) :
    PE X (.Call (.Attribute o m apos) (e :: es) kws pos) (tCMethK C n ks.length sp GV E ta t tk) := by
  refine ⟨fun pins s σ H Q I h => ?_⟩
  refine PySem.W.methodCall_KW (pl := pl) (thn (he.run pins s σ H _ I h) fun u s1 ⟨x, H1, I1, rx, ex, q⟩ => ?_) ht
  subst ex
  obtain rfl : u = Value.ref C := rx
  refine getmethcm_ok I1 r c fun s2 I2 => ?_
  refine PySem.W.callWith_of (P := PySem.W.MethP X.K s1.heap.objs.size g (.ref C)) hpl (PySem.W.keeps_M c.fi) (PyProof.Rows.evalArgs_kw2 hall (thn (ha.run pos _ s2 σ H1 _ I2 q) fun us s3 ⟨vs, H2, I3, rv, q2⟩ => ?_) hst)
  refine thn (hkw.run pos _ s3 σ H2 _ I3 q2) fun ws s4 ⟨zs, H3, I4, rz, l1, l2, q3⟩ => ⟨⟨pin_at I4, I4.kIn⟩, ?_⟩
  rw [hks]
  exact run_cmK F hr hb hx I4 rv rz l1 l2 q3
end
/-- cls(e, ..), the class at C held in the i-th slot -/
def tMakeL (i : Nat) (C : Addr) (sp : Sp) (dvs : List V) (E : XK) (t : TA) : TE := fun σ H Q => σ[i]? = some (some (.ref C)) ∧ tMake C sp dvs E t σ H Q
section
variable {X : Cx} {CX : CXT} {k i : Nat} {f C : Addr} {fd : FuncData} {ps : List Str} {sp : Sp} {dvs : List V} {ds : List Value} {E : XK} {x : Str} {p pos : Pos} {e : Expr} {es : List Expr} {t : TA}
theorem pe_makeL (M : Mk X.K C f) (F : FnOk X.prog X.w X.K X.mg X.base CX k f fd ps sp) (hr : Room (k + 1) X.A) (hN : X.N[i]? = some x) (hv : Vis X.env.scope x) (hb : Binds X.K fd ps ds) (hd : Vals dvs ds) (hx : Passes CX X E)
    (ha : PA X (e :: es) t) (hdb : (x == ("__debug__" : Str)) = false := by decide) (hcd : (x == ("__classdict__" : Str)) = false := by decide)
    (he : starEach (e :: es) X.env = (false, eval e X.env) :: starEach es X.env := by rfl) (hpl : (backTo pos (starEach es X.env)).any (·.1) = false := by rfl) : PE X (.Call (.Name x p) (e :: es) [] pos) (tMakeL i C sp dvs E t) := by
  refine ⟨fun pins s σ H Q I h => ?_⟩
  obtain ⟨hs, ht⟩ := h
  refine wpAny_Call_Name_kw (thn ((pe_var (pos := p) hN hv hdb hcd).run pins s σ H (fun v H1 => v = .ref C ∧ H1 = H) I ⟨.ref C, hs, rfl, rfl⟩) fun u s1 ⟨v, H1, I1, r1, q1⟩ => ?_)
  obtain ⟨rfl, rfl⟩ := q1
  cases r1
  refine PySem.W.callWith_K (h₀ := X.base) I.ok.mod.kin M.kp (thn (ha.run pos pins s1 σ _ _ I1 ht) fun us s2 ⟨vs, H2, I2, r, q⟩ => ⟨I2.kIn, ?_⟩) he hpl
  exact run_make M F hr hb hd hx I2 r q
end
end L2.Lx

/-! the rules with the written part named, and short words for calls -/
namespace L2.Lx
open PySem PySem.Spec PyProof.Rows ClX

section
variable {X : Cx} {a b e o : Expr} {es : List Expr} {ta tb te : TE} {t : TA} {pos p apos : Pos} {f m : Str}
theorem wFld (K : PySem.W.Frag) (he : PE X e ta) (hK : X.K = K := by rfl) (hb : attributeBase e f X.env (eval e X.env) = eval e X.env := by rfl) : PE X (.Attribute e f pos) (tFld K ta f) := by
  subst hK
  exact pe_fld he hb
theorem wSetF {value : Expr} {tv : TE} {pos' : Pos} (K : PySem.W.Frag) (ha : PE X o ta) (hv : PE X value tv) (hK : X.K = K := by rfl) (hs : swapsWith value (some (.Attribute o f pos')) pos.line X.env = pure false := by rfl) : PS X (.Assign [.Attribute o f pos'] value pos) (sFld K ta tv f) := by
  subst hK
  exact ps_fld ha hv hs
theorem wIxL (K : PySem.W.Frag) (ha : PE X a ta) (hb : PE X b tb) (hK : X.K = K := by rfl) (hs : PlainIx b := by exact fun _ _ => rfl) : PE X (.Subscript a b pos) (tOp (rIxL K) ta tb) := by
  subst hK
  exact pe_ix ix_list ha hb hs
theorem wIxT (K : PySem.W.Frag) (ha : PE X a ta) (hb : PE X b tb) (hK : X.K = K := by rfl) (hs : PlainIx b := by exact fun _ _ => rfl) : PE X (.Subscript a b pos) (tOp (rIxT K) ta tb) := by
  subst hK
  exact pe_ix ix_tup ha hb hs
theorem wIxS (ha : PE X a ta) (hb : PE X b tb) (hs : PlainIx b := by exact fun _ _ => rfl) : PE X (.Subscript a b pos) (tOp rIxS ta tb) := pe_ix ix_str ha hb hs
theorem wIn (K : PySem.W.Frag) (ha : PE X a ta) (hb : PE X b tb) (hK : X.K = K := by rfl) (hm : behindInMarks .In b = false := by rfl) : PE X (.Compare a [.In] [b] pos) (tOp (rIn K false) ta tb) := by
  subst hK
  exact pe_cmpR op_in_seq ha hb hm
theorem wNi (K : PySem.W.Frag) (ha : PE X a ta) (hb : PE X b tb) (hK : X.K = K := by rfl) (hm : behindInMarks .NotIn b = false := by rfl) : PE X (.Compare a [.NotIn] [b] pos) (tOp (rIn K true) ta tb) := by
  subst hK
  exact pe_cmpR op_notIn_seq ha hb hm
theorem wInD (K : PySem.W.Frag) (hu : X.A.units + 65 < cLine) (ha : PE X a ta) (hb : PE X b tb) (hK : X.K = K := by rfl) (hm : behindInMarks .In b = false := by rfl) : PE X (.Compare a [.In] [b] pos) (tOp (rInD K) ta tb) := by
  subst hK
  exact pe_cmpR (op_inD hu) ha hb hm
theorem tIn' (K : PySem.W.Frag) (ha : PE X a ta) (hb : PE X b tb) (hK : X.K = K := by rfl) (hm : behindInMarks .In b = false := by rfl) : PT X (.Compare a [.In] [b] pos) (tTest (tOp (rIn K false) ta tb)) := by
  subst hK
  exact pt_cmpR op_in_seq ha hb hm
theorem tNi' (K : PySem.W.Frag) (ha : PE X a ta) (hb : PE X b tb) (hK : X.K = K := by rfl) (hm : behindInMarks .NotIn b = false := by rfl) : PT X (.Compare a [.NotIn] [b] pos) (tTest (tOp (rIn K true) ta tb)) := by
  subst hK
  exact pt_cmpR op_notIn_seq ha hb hm
theorem tInD' (K : PySem.W.Frag) (hu : X.A.units + 65 < cLine) (ha : PE X a ta) (hb : PE X b tb) (hK : X.K = K := by rfl) (hm : behindInMarks .In b = false := by rfl) : PT X (.Compare a [.In] [b] pos) (tTest (tOp (rInD K) ta tb)) := by
  subst hK
  exact pt_cmpR (op_inD hu) ha hb hm
theorem tNNi' {i : Expr} {ty : TE} (P : Program) (w : World) (hu : X.A.units + 64 < cLine) (hi : PE X i ty) (ho : PE X o ta) (hP : X.prog = P := by rfl) (hw : X.w = w := by rfl) (hm : behindInMarks .NotIn o = false := by rfl) : PT X (.Compare i [.NotIn] [o] pos) (tB (tNNotIn P w ty ta)) := by
  subst hP hw
  exact pt_cmp (pc_nnotin hu hi ho) hm
theorem tDIn' {i : Expr} {ty : TE} (hu : X.A.units + 64 < cLine) (hi : PE X i ty) (ho : PE X o ta) (hm : behindInMarks .In o = false := by rfl) : PT X (.Compare i [.In] [o] pos) (tB (tDIn ty ta)) := pt_cmp (pc_din (Nat.lt_of_le_of_lt (Nat.add_le_add_left (by decide : 1 ≤ 64) _) hu) hi ho) hm
theorem tDNi' {i : Expr} {ty : TE} (hu : X.A.units + 64 < cLine) (hi : PE X i ty) (ho : PE X o ta) (hm : behindInMarks .NotIn o = false := by rfl) : PT X (.Compare i [.NotIn] [o] pos) (tB (tDNotIn ty ta)) := pt_cmp (pc_dnotin (Nat.lt_of_le_of_lt (Nat.add_le_add_left (by decide : 1 ≤ 64) _) hu) hi ho) hm
abbrev rLen' (K : PySem.W.Frag) : List V → Hp → VK → Prop := fun xs H Q => ∃ p ys, xs = [.ref p] ∧ (SqL K H p ys ∨ SqT K H p ys) ∧ Q (.int ys.length) H
abbrev rLenK : List V → Hp → VK → Prop := fun xs H Q => ∃ a kvs, xs = [V.ref a] ∧ H a = some (.dK kvs) ∧ Q (.int kvs.length) H
abbrev rListOf (K : PySem.W.Frag) : List V → Hp → VK → Prop := fun xs H Q => ∃ p ys, xs = [.ref p] ∧ (SqL K H p ys ∨ SqT K H p ys) ∧ ∀ l, H l = none → Q (.ref l) (upd H l (.lst ys))
abbrev rTupOf (K : PySem.W.Frag) : List V → Hp → VK → Prop := fun xs H Q => ∃ p ys, xs = [.ref p] ∧ ((SqL K H p ys ∧ ∀ l, H l = none → Q (.ref l) (upd H l (.tup ys))) ∨ (SqT K H p ys ∧ Q (.ref p) H))
abbrev rInt1 : List V → Hp → VK → Prop := fun xs H Q => (∃ i, xs = [.int i] ∧ Q (.int i) H) ∨ ∃ k, xs = [.bl k] ∧ Q (.int (if k then 1 else 0)) H
theorem cLen (K : PySem.W.Frag) (hK : X.K = K := by rfl) : CallR X (.builtin "len") (rLen' K) := by
  subst hK
  exact call_len_seq
theorem cList (K : PySem.W.Frag) (hK : X.K = K := by rfl) : CallR X (.type "list") (rListOf K) := by
  subst hK
  exact call_list_of
theorem cTuple (K : PySem.W.Frag) (hK : X.K = K := by rfl) : CallR X (.type "tuple") (rTupOf K) := by
  subst hK
  exact call_tuple_of
theorem cMax (K : PySem.W.Frag) (hc : X.calm = true := by rfl) (hK : X.K = K := by rfl) : CallR X (.builtin "max") (rMax K) := by
  subst hK
  exact cr_max hc
theorem cMin (K : PySem.W.Frag) (hc : X.calm = true := by rfl) (hK : X.K = K := by rfl) : CallR X (.builtin "min") (rMin K) := by
  subst hK
  exact cr_min hc
theorem cSum (K : PySem.W.Frag) (hc : X.calm = true := by rfl) (hK : X.K = K := by rfl) : CallR X (.builtin "sum") (rSum K) := by
  subst hK
  exact cr_sum hc
theorem cAll (K : PySem.W.Frag) (hc : X.calm = true := by rfl) (hK : X.K = K := by rfl) : CallR X (.builtin "all") (rAll K) := by
  subst hK
  exact cr_all hc
theorem cIsi (K : PySem.W.Frag) (hK : X.K = K := by rfl) : CallR X (.builtin "isinstance") (rIsi K) := by
  subst hK
  exact call_isi
theorem boot_list' : bootBuiltins "list" = some (.type "list") := by decide +kernel
theorem boot_tuple' : bootBuiltins "tuple" = some (.type "tuple") := by decide +kernel
theorem boot_int' : bootBuiltins "int" = some (.type "int") := by decide +kernel
theorem boot_str' : bootBuiltins "str" = some (.type "str") := by decide +kernel
theorem boot_bool' : bootBuiltins "bool" = some (.type "bool") := by decide +kernel
theorem boot_max' : bootBuiltins "max" = some (.builtin "max") := by decide +kernel
theorem boot_min' : bootBuiltins "min" = some (.builtin "min") := by decide +kernel
theorem boot_sum' : bootBuiltins "sum" = some (.builtin "sum") := by decide +kernel
theorem boot_all' : bootBuiltins "all" = some (.builtin "all") := by decide +kernel
theorem boot_isi' : bootBuiltins "isinstance" = some (.builtin "isinstance") := by decide +kernel
theorem wSl {p2 : Pos} {lo hi : Option Expr} {tl th : TO} (K : PySem.W.Frag) (he : PE X e te) (hl : PO X lo tl) (hi' : PO X hi th) (hK : X.K = K := by rfl) : PE X (.Subscript e (.Slice lo hi none p2) pos) (tSl (rSlL K) te tl th) := by
  subst hK
  exact pe_slice sl_list he hl hi'
theorem wTupG {tgs : List Expr} {k : Nat} {tt : TGs} {n : Nat} (K : PySem.W.Frag) (hc : X.calm = true) (h : PGs X tgs tt) (hK : X.K = K := by rfl)
    (hn : (assignEach tgs X.env).length = n := by rfl) (hst : (assignEach tgs X.env).findIdx? (·.1) = none := by rfl) : PG X (.Tuple tgs k pos) (gTup K n tt) := by
  subst hK
  exact pg_tup hc h hn hst
theorem wForL {tg : Expr} (K : PySem.W.Frag) (he : PE X e te) (hK : X.K = K := by rfl) : PI X tg e (iList K te) := by
  subst hK
  exact pi_list he
theorem wForT {tg : Expr} (K : PySem.W.Frag) (he : PE X e te) (hK : X.K = K := by rfl) : PI X tg e (iTup K te) := by
  subst hK
  exact pi_tup he
theorem wEn (k : Bool) {tpos : Pos} {elts : List Expr} {kk : Nat} (K : PySem.W.Frag) (hm : X.mg "enumerate" = none) (ha : PA X [a] t) (hK : X.K = K := by rfl) (hg : Gl X "enumerate" := by rfl) (hs : starEach [a] X.env = [(false, eval a X.env)] := by rfl) : PI X (.Tuple elts kk tpos) (.Call (.Name "enumerate" p) [a] [] pos) (iEn k K t) := by
  subst hK
  exact pi_en k hg hm ha hs
theorem wZ2 (k1 k2 : Bool) {tpos : Pos} {elts : List Expr} {kk : Nat} (K : PySem.W.Frag) (hm : X.mg "zip" = none) (ha : PA X [a, b] t) (hK : X.K = K := by rfl) (hg : Gl X "zip" := by rfl)
    (hs : starEach [a, b] X.env = (false, eval a X.env) :: starEach [b] X.env := by rfl) (hpl : (backTo pos (starEach [b] X.env)).any (·.1) = false := by rfl) : PI X (.Tuple elts kk tpos) (.Call (.Name "zip" p) [a, b] [] pos) (iZ2 k1 k2 K t) := by
  subst hK
  exact pi_z2 k1 k2 hg hm ha hs hpl
theorem wZ3 (k1 k2 k3 : Bool) {c : Expr} {tpos : Pos} {elts : List Expr} {kk : Nat} (K : PySem.W.Frag) (hm : X.mg "zip" = none) (ha : PA X [a, b, c] t) (hK : X.K = K := by rfl) (hg : Gl X "zip" := by rfl)
    (hs : starEach [a, b, c] X.env = (false, eval a X.env) :: starEach [b, c] X.env := by rfl) (hpl : (backTo pos (starEach [b, c] X.env)).any (·.1) = false := by rfl) : PI X (.Tuple elts kk tpos) (.Call (.Name "zip" p) [a, b, c] [] pos) (iZ3 k1 k2 k3 K t) := by
  subst hK
  exact pi_z3 k1 k2 k3 hg hm ha hs hpl
theorem wNE (P : Program) (w : World) (hP : X.prog = P := by rfl) (hw : X.w = w := by rfl) : PE X (.Dict [] [] pos) (tDNewE P w) := by
  subst hP hw
  exact pe_dnewE
theorem wNG {i : Expr} {ty : TE} (P : Program) (w : World) (hu : X.A.units + 64 < cLine) (ho : PE X o ta) (hi : PE X i ty) (hP : X.prog = P := by rfl) (hw : X.w = w := by rfl) (hs : NoSl i := by exact fun _ _ => rfl) : PE X (.Subscript o i pos) (tNGet P w ta ty) := by
  subst hP hw
  exact pe_nget hu ho hi hs
theorem wNNi {i : Expr} {ty : TE} (P : Program) (w : World) (hu : X.A.units + 64 < cLine) (hi : PE X i ty) (ho : PE X o ta) (hP : X.prog = P := by rfl) (hw : X.w = w := by rfl) (hm : behindInMarks .NotIn o = false := by rfl) : PE X (.Compare i [.NotIn] [o] pos) (tNNotIn P w ty ta) := by
  subst hP hw
  exact pe_cmp (pc_nnotin hu hi ho) hm
theorem wNP {i value : Expr} {ty tv : TE} {pos' : Pos} (P : Program) (w : World) (hu : X.A.units + 64 < cLine) (ho : PE X o ta) (hi : PE X i ty) (hv : PE X value tv) (hP : X.prog = P := by rfl) (hw : X.w = w := by rfl) (hs : swapsWith value (some (.Subscript o i pos')) pos.line X.env = pure false := by rfl) :
    PS X (.Assign [.Subscript o i pos'] value pos) (sNPut P w ta ty tv) := by
  subst hP hw
  exact ps_nput hu ho hi hv hs
theorem wDG {i : Expr} {ty : TE} (hu : X.A.units + 64 < cLine) (ho : PE X o ta) (hi : PE X i ty) (hs : NoSl i := by exact fun _ _ => rfl) : PE X (.Subscript o i pos) (tDGet ta ty) := pe_dget (Nat.lt_of_le_of_lt (Nat.add_le_add_left (by decide : 1 ≤ 64) _) hu) ho hi hs
theorem wDIn {i : Expr} {ty : TE} (hu : X.A.units + 64 < cLine) (hi : PE X i ty) (ho : PE X o ta) (hm : behindInMarks .In o = false := by rfl) : PE X (.Compare i [.In] [o] pos) (tDIn ty ta) := pe_cmp (pc_din (Nat.lt_of_le_of_lt (Nat.add_le_add_left (by decide : 1 ≤ 64) _) hu) hi ho) hm
theorem wDNi {i : Expr} {ty : TE} (hu : X.A.units + 64 < cLine) (hi : PE X i ty) (ho : PE X o ta) (hm : behindInMarks .NotIn o = false := by rfl) : PE X (.Compare i [.NotIn] [o] pos) (tDNotIn ty ta) := pe_cmp (pc_dnotin (Nat.lt_of_le_of_lt (Nat.add_le_add_left (by decide : 1 ≤ 64) _) hu) hi ho) hm
theorem wDP {i value : Expr} {ty tv : TE} {pos' : Pos} (hu : X.A.units + 64 < cLine) (ho : PE X o ta) (hi : PE X i ty) (hv : PE X value tv) (hs : swapsWith value (some (.Subscript o i pos')) pos.line X.env = pure false := by rfl) :
    PS X (.Assign [.Subscript o i pos'] value pos) (sDPut ta ty tv) := ps_dput (Nat.lt_of_le_of_lt (Nat.add_le_add_left (by decide : 1 ≤ 64) _) hu) ho hi hv hs
end

/-- a def of the top, with its promise -/
structure Ok (P : Program) (w : World) (K : PySem.W.Frag) (mg : Str → Option Value) (base : Heap) (x : Str) (k : Nat) (ps : List Str) (sp : Sp) : Prop where
  ex : ∃ (f : Addr) (fd : FuncData), FnOk P w K mg base CX0 k f fd ps sp ∧ mg x = some (.ref f) ∧ PySem.W.keepIn K (.ref f) = true ∧ Binds K fd ps []
/-- a method -/
structure MOk (P : Program) (w : World) (K : PySem.W.Frag) (mg : Str → Option Value) (base : Heap) (C : Addr) (m : Str) (k : Nat) (ps : List Str) (sp : Sp) : Prop where
  ex : ∃ (f : Addr) (fd : FuncData), FnOk P w K mg base CX0 k f fd ps sp ∧ Meth K C m f ∧ Binds K fd ps []
  cl : Cls K C
/-- a class that is made by its __init__ -/
structure COk (P : Program) (w : World) (K : PySem.W.Frag) (mg : Str → Option Value) (base : Heap) (x : Str) (C : Addr) (k : Nat) (ps : List Str) (sp : Sp) : Prop where
  ex : ∃ (f : Addr) (fd : FuncData), FnOk P w K mg base CX0 k f fd ps sp ∧ Mk K C f ∧ Binds K fd ps []
  mgC : mg x = some (.ref C)
section
variable {P : Program} {w : World} {K : PySem.W.Frag} {mg : Str → Option Value} {base : Heap} {X : Cx} {x m : Str} {k : Nat} {ps : List Str} {sp : Sp} {e o : Expr} {es : List Expr} {t : TA} {ta : TE} {p pos apos : Pos} {C : Addr}
theorem Ok.mono {j : Nat} (D : Ok P w K mg base x j ps sp) (h : j ≤ k) : Ok P w K mg base x k ps sp := let ⟨⟨f, fd, F, r⟩⟩ := D; ⟨f, fd, F.mono h, r⟩
theorem wCall (D : Ok P w K mg base x k ps sp) (hr : Room k X.A) (ha : PA X (e :: es) t) (hP : X.prog = P := by rfl) (hw : X.w = w := by rfl) (hK : X.K = K := by rfl) (hmg : X.mg = mg := by rfl) (hbase : X.base = base := by rfl) (hg : Gl X x := by rfl) (hd : (x == ("__debug__" : Str)) = false := by decide)
    (he : starEach (e :: es) X.env = (false, eval e X.env) :: starEach es X.env := by rfl) (hpl : (backTo pos (starEach es X.env)).any (·.1) = false := by rfl) : PE X (.Call (.Name x p) (e :: es) [] pos) (tCall sp [] E0 t) := by
  subst hP hw hK hmg hbase
  obtain ⟨f, fd, F, hm, hk, hb⟩ := D.ex
  exact pe_call F hr hg hm hk hb .nil pass0 ha hd he hpl
theorem wMeth {pl : Sem Bool} (D : MOk P w K mg base C m k ps sp) (ho : PE X o ta) (hr : Room k X.A) (ha : PA X (e :: es) t) (hP : X.prog = P := by rfl) (hw : X.w = w := by rfl) (hK : X.K = K := by rfl) (hmg : X.mg = mg := by rfl) (hbase : X.base = base := by rfl)
    (hst : starEach (e :: es) X.env = (false, eval e X.env) :: starEach es X.env := by rfl) (hpl : (backTo pos (starEach es X.env)).any (·.1) = false := by rfl)
    (ht : eval (.Call (.Attribute o m apos) (e :: es) [] pos) X.env = (do
      let ov ← eval o X.env
      standAt apos.atName
      let (f, first) ← holding [ov] (getMethod ov m pl)
      callWith pos f first (backTo pos (starEach (e :: es) X.env)) (backToKw pos (keywordEach [] X.env))) := by rfl) : PE X (.Call (.Attribute o m apos) (e :: es) [] pos) (tMeth C m sp [] E0 ta t) := by
  subst hP hw hK hmg hbase
  obtain ⟨f, fd, F, hm, hb⟩ := D.ex
  exact pe_meth ho D.cl hm F hr hb .nil pass0 ha hst hpl ht
theorem wMeth0 {pl : Sem Bool} (D : MOk P w K mg base C m k ps sp) (ho : PE X o ta) (hr : Room k X.A) (hP : X.prog = P := by rfl) (hw : X.w = w := by rfl) (hK : X.K = K := by rfl) (hmg : X.mg = mg := by rfl) (hbase : X.base = base := by rfl)
    (ht : eval (.Call (.Attribute o m apos) [] [] pos) X.env = (do
      let ov ← eval o X.env
      standAt apos.atName
      let (f, first) ← holding [ov] (getMethod ov m pl)
      callWith pos f first (backTo pos (starEach [] X.env)) (backToKw pos (keywordEach [] X.env))) := by rfl) : PE X (.Call (.Attribute o m apos) [] [] pos) (tMeth C m sp [] E0 ta tNil) := by
  subst hP hw hK hmg hbase
  obtain ⟨f, fd, F, hm, hb⟩ := D.ex
  exact pe_meth0 ho D.cl hm F hr hb .nil pass0 ht
theorem wMake (D : COk P w K mg base x C k ps sp) (hr : Room (k + 1) X.A) (ha : PA X (e :: es) t) (hP : X.prog = P := by rfl) (hw : X.w = w := by rfl) (hK : X.K = K := by rfl) (hmg : X.mg = mg := by rfl) (hbase : X.base = base := by rfl) (hg : Gl X x := by rfl) (hd : (x == ("__debug__" : Str)) = false := by decide)
    (he : starEach (e :: es) X.env = (false, eval e X.env) :: starEach es X.env := by rfl) (hpl : (backTo pos (starEach es X.env)).any (·.1) = false := by rfl) : PE X (.Call (.Name x p) (e :: es) [] pos) (tMake C sp [] E0 t) := by
  subst hP hw hK hmg hbase
  obtain ⟨f, fd, F, hm, hb⟩ := D.ex
  exact pe_make hm F hr hg D.mgC hb .nil pass0 ha hd he hpl
theorem wMakeL {i : Nat} {y : Str} (D : COk P w K mg base x C k ps sp) (hr : Room (k + 1) X.A) (ha : PA X (e :: es) t) (hN : X.N[i]? = some y := by rfl) (hv : Vis X.env.scope y := by first | exact Or.inl rfl | exact Or.inr (Or.inl rfl) | exact Or.inr (Or.inr rfl)) (hP : X.prog = P := by rfl) (hw : X.w = w := by rfl) (hK : X.K = K := by rfl) (hmg : X.mg = mg := by rfl) (hbase : X.base = base := by rfl) (hd : (y == ("__debug__" : Str)) = false := by decide) (hcd : (y == ("__classdict__" : Str)) = false := by decide)
    (he : starEach (e :: es) X.env = (false, eval e X.env) :: starEach es X.env := by rfl) (hpl : (backTo pos (starEach es X.env)).any (·.1) = false := by rfl) : PE X (.Call (.Name y p) (e :: es) [] pos) (tMakeL i C sp [] E0 t) := by
  subst hP hw hK hmg hbase
  obtain ⟨f, fd, F, hm, hb⟩ := D.ex
  exact pe_makeL hm F hr hN hv hb .nil pass0 ha hd hcd he hpl
end
end L2.Lx

/-! the text by places, the built-ins, heaps -/
namespace L2.Sg
open PySem PySem.Spec PyProof.Rows L2.Lx

def topS (i : Nat) : Stmt := PySem.Challenge.pw_signoff_k49_whole_settled_nets_never_str.main.body.getD i (.Pass ⟨0, 0, 0, 0⟩)
/-- a comprehension's scope; the value of an assignment -/
def compSc : Expr → Scope
  | .ListComp _ _ sc _ => sc
  | .DictComp _ _ _ sc _ => sc
  | _ => { kind := .function, names := [], isGenerator := false, isCoroutine := false }
def asgVal : Stmt → Expr
  | .Assign _ e _ => e
  | _ => .Constant .none 0 ⟨0, 0, 0, 0⟩

/-- the built-ins that the text uses are the built-ins still -/
structure Bt (mg : Str → Option Value) : Prop where
  len_ : mg "len" = none
  list_ : mg "list" = none
  tuple_ : mg "tuple" = none
  int_ : mg "int" = none
  bool_ : mg "bool" = none
  str_ : mg "str" = none
  range_ : mg "range" = none
  zip_ : mg "zip" = none
  enumerate_ : mg "enumerate" = none
  min_ : mg "min" = none
  max_ : mg "max" = none
  sum_ : mg "sum" = none
  all_ : mg "all" = none
  isinstance_ : mg "isinstance" = none

theorem hu65 {A : Around} {k : Nat} (hr : Room k A) : A.units + 65 < cLine := by
  have := hr.un
  omega

/-! ### heaps -/
theorem same_new {H : Hp} {p : Addr} {o : HO} (h : H p = none) : Same H (upd H p o) := fun b x e => by
  rw [upd_ne (ne_of_none e h)]
  exact e
theorem _root_.L2.Same.ne {H H' : Hp} {p b : Addr} {o : HO} (s : Same H H') (e : H b = some o) (h : H' p = none) : b ≠ p := ne_of_none (s _ _ e) h
theorem _root_.L2.Same.tupK {H H' : Hp} (s : Same H H') : TupK H H' := fun b xs e => s b _ e
theorem TupK.refl (H : Hp) : TupK H H := fun _ _ e => e
theorem TupK.trans {H H1 H2 : Hp} (a : TupK H H1) (b : TupK H1 H2) : TupK H H2 := fun c xs e => b c xs (a c xs e)
/-- all but what stands at M is as it was -/
def But (M : List Addr) (H H' : Hp) : Prop := ∀ b o, H b = some o → b ∉ M → H' b = some o
theorem But.refl (M : List Addr) (H : Hp) : But M H H := fun _ _ h _ => h
theorem But.trans {M : List Addr} {H H1 H2 : Hp} (a : But M H H1) (b : But M H1 H2) : But M H H2 := fun c o h n => b c o (a c o h n) n
theorem But.mono {M M' : List Addr} {H H' : Hp} (a : But M H H') (h : ∀ b ∈ M, b ∈ M') : But M' H H' := fun c o e n => a c o e fun z => n (h c z)
theorem _root_.L2.Same.but {H H' : Hp} (M : List Addr) (s : Same H H') : But M H H' := fun c o e _ => s c o e
theorem But.same {H H' : Hp} (b : But [] H H') : Same H H' := fun c o e => b c o e (by simp)
theorem But.new {M : List Addr} {H : Hp} {p : Addr} {o : HO} (h : H p = none) : But M H (upd H p o) := Same.but M (show Same H (upd H p o) from same_new h)
theorem But.mut {M : List Addr} {H : Hp} {p : Addr} {o : HO} (h : p ∈ M) : But M H (upd H p o) := fun c x e n => by
  rw [upd_ne (fun z => n (by rw [z]; exact h))]
  exact e
/-- a change of something that is new since H0 -/
theorem But.mutN {M : List Addr} {H0 H : Hp} {p : Addr} {o : HO} (b : But M H0 H) (h : H0 p = none) : But M H0 (upd H p o) := fun c x e n => by
  rw [upd_ne (ne_of_none e h)]
  exact b c x e n
theorem But.tupK {M : List Addr} {H H' : Hp} (b : But M H H') (nt : ∀ m ∈ M, ∀ xs, H m ≠ some (.tup xs)) : TupK H H' := fun c xs e => b c _ e fun z => nt c z xs e
theorem _root_.L2.Same.mutN {H0 H : Hp} {p : Addr} {o : HO} (s : Same H0 H) (h : H0 p = none) : Same H0 (upd H p o) := fun c x e => by
  rw [upd_ne (ne_of_none e h)]
  exact s c x e

/-! ### small facts -/
theorem v_ne {x y : V} (h : (!decide (x = y)) = true) : x ≠ y := fun e => by simp [e] at h
theorem v_nne {x y : V} (h : ¬(!decide (x = y)) = true) : x = y := by
  by_cases e : x = y
  · exact e
  · exact absurd (by simp [e]) h
theorem v_eq {x y : V} (h : decide (x = y) = true) : x = y := of_decide_eq_true h
theorem v_neq {x y : V} (h : ¬ decide (x = y) = true) : x ≠ y := fun e => h (decide_eq_true e)
theorem i_ne {x y : Int} (h : (!decide (V.int x = V.int y)) = true) : x ≠ y := fun e => v_ne h (by rw [e])
theorem i_nne {x y : Int} (h : ¬(!decide (V.int x = V.int y)) = true) : x = y := V.int.inj (v_nne h)
theorem i_eq {x y : Int} (h : decide (V.int x = V.int y) = true) : x = y := V.int.inj (v_eq h)
theorem i_neq {x y : Int} (h : ¬ decide (V.int x = V.int y) = true) : x ≠ y := fun e => v_neq h (by rw [e])
theorem szl {n : Nat} (h : n ≤ 100000) : n ≤ sizeLine := Nat.le_trans h (by decide)
theorem szlt {n : Nat} (h : n < 100000) : n < sizeLine := Nat.lt_of_lt_of_le h (by decide)
theorem atI_map {α : Type} {f : α → V} {xs : List α} {i : Nat} {x : α} (h : xs[i]? = some x) : atI (xs.map f) (i : Int) = some (f x) := atI_nat (by rw [List.getElem?_map, h]; rfl)
theorem get_map {α : Type} {f : α → V} {xs : List α} {i : Nat} {v : V} (h : (xs.map f)[i]? = some v) : ∃ x, xs[i]? = some x ∧ v = f x := by
  rw [List.getElem?_map] at h
  cases e : xs[i]? with
  | none => rw [e] at h; cases h
  | some x => rw [e] at h; exact ⟨x, rfl, (Option.some.inj h).symm⟩
theorem take_snoc {α : Type} {xs : List α} {i : Nat} {x : α} (h : xs[i]? = some x) : xs.take (i + 1) = xs.take i ++ [x] := by
  rw [List.take_add_one, h]
  rfl
end L2.Sg

/-! tables -/
namespace L2.Sg
open PySem PySem.Spec PyProof.Rows L2.Lx
abbrev slook_up : Stmt := topS 10
theorem sclook_up : FnScope ["table", "bits", "index", "k", "bit"] ["table", "bits"] (defScope slook_up) := ⟨rfl, rfl, rfl, by decide +kernel, rfl, by decide +kernel, by decide +kernel⟩
abbrev sagrees : Stmt := topS 11
theorem scagrees : FnScope ["index", "partial", "k", "mark"] ["index", "partial"] (defScope sagrees) := ⟨rfl, rfl, rfl, by decide +kernel, rfl, by decide +kernel, by decide +kernel⟩
abbrev sforced : Stmt := topS 12
theorem scforced : FnScope ["table", "partial", "shown", "index", "row"] ["table", "partial"] (defScope sforced) := ⟨rfl, rfl, rfl, by decide +kernel, rfl, by decide +kernel, by decide +kernel⟩

/-! ### the mathematics -/
/-- the index of an assignment -/
def idx : List Bool → Nat
  | [] => 0
  | b :: r => (if b = true then 1 else 0) + 2 * idx r
theorem idx_snoc (b : Bool) : ∀ l : List Bool, idx (l ++ [b]) = idx l + (if b = true then 2 ^ l.length else 0)
  | [] => by cases b <;> rfl
  | a :: r => by
    show (if a = true then 1 else 0) + 2 * idx (r ++ [b]) = ((if a = true then 1 else 0) + 2 * idx r) + (if b = true then 2 ^ (r.length + 1) else 0)
    rw [idx_snoc b r]
    cases b
    · simp
    · simp only [if_true]
      rw [Nat.pow_succ]
      omega
theorem idx_lt : ∀ l : List Bool, idx l < 2 ^ l.length
  | [] => by decide
  | a :: r => by
    have := idx_lt r
    show (if a = true then 1 else 0) + 2 * idx r < 2 ^ (r.length + 1)
    rw [Nat.pow_succ]
    split <;> omega
section
variable {P : Program} {w : World} {K : PySem.W.Frag} {mg : Str → Option Value} {base : Heap} {f : Addr} {fd : FuncData}
def spLookUp : Sp := fun vs H Q _ => ∃ (t b : Addr) (tab bs : List Bool), vs = [.ref t, .ref b] ∧ H t = some (.tup (tab.map V.bl)) ∧ H b = some (.lst (bs.map V.bl)) ∧ bs.length ≤ 20 ∧ idx bs < tab.length ∧
  ∀ H', Same H H' → Q (.bl (tab.getD (idx bs) false)) H'
theorem ok_look_up (F : Fun K "look_up" "look_up" slook_up f fd) (B : Bt mg) : FnOk P w K mg base CX0 1 f fd ["table", "bits"] spLookUp := by
  refine F.ok sclook_up (fun vs H Q E h => ?_) (fun cdv A outer s H vs Q E hr h => ?_)
  · obtain ⟨_, _, _, _, rfl, _⟩ := h
    rfl
  obtain ⟨t, b, tab, bs, rfl, ht, hb, hl, hi, q⟩ := h
  refine ⟨_, (pss_cons (ps_set (i := 2) sclook_up.nd rfl (Or.inl rfl) pe_int)
      (pss_cons (ps_for PassesOwn.never rfl (wEn false K B.enumerate_ (pa_cons (pv 1) pa_nil)) (wTupG K rfl (pgs_cons (pg_name (i := 3) sclook_up.nd rfl (Or.inl rfl)) (pgs_cons (pg_name (i := 4) sclook_up.nd rfl (Or.inl rfl)) pgs_nil))) (pss_one (ps_if (pt_val (pv 4)) (pss_one (ps_aug (i := 2) sclook_up.nd rfl (Or.inl rfl) (pe_op op_shl pe_int (pv 3)) ip_add)) pss_nil)))
      (pss_one (ps_ret (wIxT K (pv 0) (pv 2)))))), ?_⟩
  -- index = 0; enumerate(bits)
  refine ⟨_, rfl, b, bs.map V.bl, rfl, SqL.of hb, for_it (walk_en (List.length_map _)) (fun i σ H1 => ∃ y3 y4, σ = [some (.ref t), some (.ref b), some (.int (idx (bs.take i))), y3, y4] ∧ Same H H1)
    ⟨none, none, rfl, Same.refl H⟩ (fun i σ H1 _ ⟨_, _, _, s⟩ => SqL.of (s _ _ hb)) ?_ ?_⟩
  · rintro i x σ H1 H2 hi ⟨y3, y4, rfl, s⟩ ⟨T, x1, x2, rfl, nT, rfl, e1, e2⟩
    cases (Option.some.inj e1).symm
    obtain ⟨bit, eb, rfl⟩ := get_map e2
    refine ⟨T, _, rfl, SqT.of upd_same, rfl, _, _, rfl, _, _, rfl, rfl, ?_⟩
    refine ⟨.bl bit, rfl, bit, rfl, ite2 (fun hb1 => ?_) (fun hb0 => ?_)⟩
    · refine ⟨_, rfl, .int i, rfl, 1, i, rfl, rfl, ⟨Int.natCast_nonneg _, by omega, by decide⟩, _, _, rfl, rfl, ?_⟩
      refine ⟨some (.int i), some (.bl bit), ?_, s.trans (same_new nT)⟩
      rw [take_snoc eb, idx_snoc, if_pos hb1, List.length_take, Nat.min_eq_left (by omega)]
      simp
    · refine ⟨some (.int i), some (.bl bit), ?_, s.trans (same_new nT)⟩
      rw [take_snoc eb, idx_snoc, if_neg hb0]
      rfl
  · rintro σ H1 ⟨y3, y4, rfl, s⟩
    refine ⟨_, rfl, _, rfl, t, _, _, .bl (tab.getD (idx bs) false), rfl, rfl, SqT.of (s _ _ ht), ?_, q _ s⟩
    rw [List.take_of_length_le (Nat.le_refl _)]
    exact atI_map (by rw [List.getElem?_eq_getElem hi, List.getD_eq_getElem?_getD, List.getElem?_eq_getElem hi]; rfl)

/-! ### agrees, forced -/
def okAt (n : Nat) (marks : List Int) (k : Nat) : Bool := match marks[k]? with
  | some m => decide (m < 0) || decide (((n / 2 ^ k % 2 : Nat) : Int) = m)
  | none => true
/-- the assignment with the index n agrees with the marks -/
def agr (n : Nat) (marks : List Int) : Bool := (List.range marks.length).all (okAt n marks)
def spAgrees : Sp := fun vs H Q _ => ∃ (n : Nat) (b : Addr) (marks : List Int), vs = [.int n, .ref b] ∧ H b = some (.tup (marks.map V.int)) ∧ ∀ H', Same H H' → Q (.bl (agr n marks)) H'
theorem bit_of (n k : Nat) : Builtin.bitAnd ((n : Int) / 2 ^ (k : Int).toNat) 1 = ((n / 2 ^ k % 2 : Nat) : Int) := by
  rw [bitAnd_m1]
  simp
theorem ok_agrees (F : Fun K "agrees" "agrees" sagrees f fd) (B : Bt mg) : FnOk P w K mg base CX0 1 f fd ["index", "partial"] spAgrees := by
  refine F.ok scagrees (fun vs H Q E h => ?_) (fun cdv A outer s H vs Q E hr h => ?_)
  · obtain ⟨_, _, _, rfl, _⟩ := h
    rfl
  obtain ⟨n, b, marks, rfl, hb, q⟩ := h
  refine ⟨_, (pss_cons (ps_for PassesOwn.never rfl (wEn true K B.enumerate_ (pa_cons (pv 1) pa_nil)) (wTupG K rfl (pgs_cons (pg_name (i := 2) scagrees.nd rfl (Or.inl rfl)) (pgs_cons (pg_name (i := 3) scagrees.nd rfl (Or.inl rfl)) pgs_nil))) (pss_one (ps_if (PW.pt (pw_and (pt_cmpR op_ge (pv 3) pe_int (nomark _)) (pw_and1 (pt_cmpR op_ne (pe_op op_and (pe_op op_shr (pv 0) (pv 2)) pe_int) (pv 3) (nomark _))))) (pss_one (ps_ret pe_bl)) pss_nil)))
      (pss_one (ps_ret pe_bl))), ?_⟩
  refine ⟨_, rfl, b, marks.map V.int, rfl, SqT.of hb, for_it (walk_en (List.length_map _)) (fun i σ H1 => ∃ y3 y4, σ = [some (.int n), some (.ref b), y3, y4] ∧ Same H H1 ∧ ∀ j, j < i → okAt n marks j = true)
    ⟨none, none, rfl, Same.refl H, fun j h => absurd h (by omega)⟩ (fun i σ H1 _ ⟨_, _, _, s, _⟩ => SqT.of (s _ _ hb)) ?_ ?_⟩
  · rintro i x σ H1 H2 hi ⟨y3, y4, rfl, s, ok⟩ ⟨T, x1, x2, rfl, nT, rfl, e1, e2⟩
    cases (Option.some.inj e1).symm
    obtain ⟨m, eb, rfl⟩ := get_map e2
    have s2 := s.trans (same_new (o := .tup [.int i, .int m]) nT)
    have more : okAt n marks i = true → ∀ j, j < i + 1 → okAt n marks j = true := fun h j hj => by
      by_cases e : j = i
      · rw [e]; exact h
      · exact ok j (by omega)
    refine ⟨T, _, rfl, SqT.of upd_same, rfl, _, _, rfl, _, _, rfl, rfl, ?_⟩
    refine ⟨.int m, rfl, m, 0, rfl, rfl, _, rfl, ite2 (fun h0 => ?_) (fun h0 => ?_)⟩
    · refine ⟨_, rfl, .int i, rfl, n, i, rfl, rfl, Int.natCast_nonneg _, _, 1, rfl, rfl, .int m, rfl, rfl, _, rfl, ite2 (fun h1 => ?_) (fun h1 => ?_)⟩
      · have ne : okAt n marks i = false := by
          have h1' := i_ne h1
          rw [bit_of] at h1'
          have h0' : 0 ≤ m := of_decide_eq_true h0
          simp only [okAt, eb]
          rw [decide_eq_false h1', decide_eq_false (by omega)]
          rfl
        have e : agr n marks = false := by
          unfold agr
          rw [List.all_eq_false]
          exact ⟨i, List.mem_range.mpr (by simpa using hi), by rw [ne]; decide⟩
        have r := q _ s2
        rw [e] at r
        exact r
      · refine ⟨some (.int i), some (.int m), rfl, s2, more ?_⟩
        have h1' := i_nne h1
        rw [bit_of] at h1'
        simp only [okAt, eb]
        rw [decide_eq_true h1', Bool.or_true]
    · refine ⟨some (.int i), some (.int m), rfl, s2, more ?_⟩
      have h0' : ¬ 0 ≤ m := fun z => h0 (decide_eq_true z)
      simp only [okAt, eb]
      rw [decide_eq_true (by omega), Bool.true_or]
  · rintro σ H1 ⟨y3, y4, rfl, s, ok⟩
    have e : agr n marks = true := by
      unfold agr
      rw [List.all_eq_true]
      exact fun j hj => ok j (by simpa using hj)
    have r := q _ s
    rw [e] at r
    exact r
/-- the rows that are shown, of the first i -/
def shownN (tab : List Bool) (marks : List Int) (i : Nat) : List Bool := ((List.range i).filter fun j => agr j marks).map fun j => tab.getD j false
theorem shownN_snoc (tab : List Bool) (marks : List Int) (i : Nat) : shownN tab marks (i + 1) = if agr i marks = true then shownN tab marks i ++ [tab.getD i false] else shownN tab marks i := by
  unfold shownN
  rw [List.range_succ, List.filter_append, List.map_append]
  by_cases h : agr i marks = true
  · rw [if_pos h]
    simp [h]
  · rw [if_neg h]
    simp [h]
theorem shownN_len (tab : List Bool) (marks : List Int) (i : Nat) : (shownN tab marks i).length ≤ i := by
  unfold shownN
  rw [List.length_map]
  exact Nat.le_trans (List.length_filter_le _ _) (by simp)
/-- what forced gives -/
def forcedV (tab : List Bool) (marks : List Int) : V := if (shownN tab marks tab.length).contains true && (shownN tab marks tab.length).contains false then .non else .bl ((shownN tab marks tab.length).getD 0 false)
theorem inV_bl (b : Bool) (bs : List Bool) : inV (.bl b) (bs.map V.bl) = bs.contains b := by
  unfold inV
  rw [List.any_map, List.contains_eq_any_beq]
  congr 1
  funext y
  show (y == b) = (b == y)
  cases y <;> cases b <;> rfl
theorem flat_bls (bs : List Bool) : (bs.map V.bl).all flatV = true := by
  rw [List.all_map, List.all_eq_true]
  intro x _
  rfl
def spForced : Sp := fun vs H Q _ => ∃ (t b : Addr) (tab : List Bool) (marks : List Int), vs = [.ref t, .ref b] ∧ H t = some (.tup (tab.map V.bl)) ∧ H b = some (.tup (marks.map V.int)) ∧ tab.length ≤ 1000 ∧ shownN tab marks tab.length ≠ [] ∧
  ∀ H', Same H H' → Q (forcedV tab marks) H'
theorem ok_forced (F : Fun K "forced" "forced" sforced f fd) (B : Bt mg) (D_agrees : Ok P w K mg base "agrees" 1 ["index", "partial"] spAgrees) : FnOk P w K mg base CX0 2 f fd ["table", "partial"] spForced := by
  refine F.ok scforced (fun vs H Q E h => ?_) (fun cdv A outer s H vs Q E hr h => ?_)
  · obtain ⟨_, _, _, _, rfl, _⟩ := h
    rfl
  obtain ⟨t, b, tab, marks, rfl, ht, hb, hl, hne, q⟩ := h
  refine ⟨_, (pss_cons (ps_setLc (i := 2) (own := [("index", 3), ("row", 4)]) (g := (gTup K 2 (gCons (gName 3) (gCons (gName 4) gNil)))) rfl scforced.nd rfl rfl (sw_true rfl rfl rfl (by decide +kernel)) (wEn true K B.enumerate_ (pa_cons (pv 0) pa_nil)) (blkOk_by (N := ["table", "partial", "shown", "index", "row"]) (sc := defScope sforced) (by decide +kernel)) (fun _ _ _ _ _ => (wTupG K rfl (pgs_cons (pg_name (i := 3) scforced.nd rfl (Or.inl rfl)) (pgs_cons (pg_name (i := 4) scforced.nd rfl (Or.inl rfl)) pgs_nil)))) (fun _ _ _ _ _ => (pts_one (pt_val (wCall D_agrees (hr.mono (by decide)) (pa_cons (pv 3) (pa_cons (pv 1) pa_nil)))))) (fun _ _ _ _ _ => (pv 4)))
      (pss_cons (ps_if (PW.pt (pw_and (tIn' K pe_bl (pv 2)) (pw_and1 (tIn' K pe_bl (pv 2))))) (pss_one (ps_ret pe_non)) pss_nil)
      (pss_one (ps_ret (wIxL K (pv 2) pe_int))))), ?_⟩
  refine ⟨_, rfl, t, tab.map V.bl, rfl, SqT.of ht, fun D nD => lc_it (walk_en (List.length_map _)) (fun i H1 => Same H H1 ∧ H1 D = some (.lst ((shownN tab marks i).map V.bl)))
    ⟨same_new nD, upd_same⟩ (fun i H1 _ ⟨s, _⟩ => SqT.of (s _ _ ht)) ?_ ?_⟩
  · rintro i x H1 H2 hi ⟨s, hD⟩ ⟨T, x1, x2, rfl, nT, rfl, e1, e2⟩
    cases (Option.some.inj e1).symm
    obtain ⟨r, er, rfl⟩ := get_map e2
    have nDT : D ≠ T := ne_of_none hD nT
    refine ⟨T, _, rfl, SqT.of upd_same, rfl, _, _, rfl, _, _, rfl, rfl, rfl, ?_⟩
    refine ⟨.int i, rfl, .ref b, rfl, i, b, marks, rfl, ?_, fun H3 s3 => ⟨_, rfl, ite2 (fun ha => ?_) (fun ha => ?_)⟩⟩
    · exact same_new nT _ _ (s _ _ hb)
    · have s4 : Same H H3 := s.trans (Same.trans (same_new nT) s3)
      refine ⟨.bl r, rfl, _, s3 _ _ (same_new nT _ _ hD), ?_, s4.mutN nD, ?_⟩
      · rw [List.length_map]
        have := shownN_len tab marks i
        exact szlt (by omega)
      · rw [upd_same, shownN_snoc, if_pos ha, List.map_append, List.getD_eq_getElem?_getD, er]
        rfl
    · have s4 : Same H H3 := s.trans (Same.trans (same_new nT) s3)
      refine ⟨s4, ?_⟩
      rw [shownN_snoc, if_neg ha]
      exact s3 _ _ (same_new nT _ _ hD)
  · rintro H1 ⟨s, hD⟩
    have last : ¬ ((shownN tab marks tab.length).contains true && (shownN tab marks tab.length).contains false) = true → tRet (tOp (rIxL K) (tVar 2) (tC (.int 0))) { nx := fun _ H' => Q .non H', rt := Q } [some (.ref t), some (.ref b), some (.ref D), none, none] H1 := fun hn => by
      have r := q _ s
      unfold forcedV at r
      rw [if_neg hn] at r
      cases e : shownN tab marks tab.length with
      | nil => exact absurd e hne
      | cons x rest =>
        rw [e] at r hD
        exact ⟨.ref D, rfl, D, _, 0, .bl x, rfl, rfl, SqL.of hD, atI_nat (j := 0) rfl, r⟩
    refine ⟨.ref D, rfl, D, _, rfl, .inl (SqL.of hD), rfl, flat_bls _, _, rfl, ?_⟩
    have e1 := inV_bl true (shownN tab marks tab.length)
    have e2 := inV_bl false (shownN tab marks tab.length)
    have r := q _ s
    unfold forcedV at r
    refine ite2 (fun h1 => ?_) (fun h1 => ?_)
    · refine ⟨.ref D, rfl, D, _, rfl, .inl (SqL.of hD), rfl, flat_bls _, _, rfl, ?_⟩
      refine ite2 (fun h2 => ?_) (fun h2 => ?_)
      · have h1' : (shownN tab marks tab.length).contains true = true := e1.symm.trans h1
        have h2' : (shownN tab marks tab.length).contains false = true := e2.symm.trans h2
        rw [if_pos (by rw [h1', h2']; rfl)] at r
        exact r
      · refine last fun z => h2 ?_
        rw [Bool.and_eq_true] at z
        exact e2.trans z.2
    · refine last fun z => h1 ?_
      rw [Bool.and_eq_true] at z
      exact e1.trans z.1
end
end L2.Sg

/-! circuits: the model, sources, all_nets, check_net, drivers -/
namespace L2.Sg
open PySem PySem.Spec PyProof.Rows L2.Lx
abbrev ssources : Stmt := topS 14
theorem scsources : FnScope ["circuit", "row"] ["circuit"] (defScope ssources) := ⟨rfl, rfl, rfl, by decide +kernel, rfl, by decide +kernel, by decide +kernel⟩
abbrev sall_nets : Stmt := topS 15
theorem scall_nets : FnScope ["circuit", "gate"] ["circuit"] (defScope sall_nets) := ⟨rfl, rfl, rfl, by decide +kernel, rfl, by decide +kernel, by decide +kernel⟩
abbrev scheck_net : Stmt := topS 16
theorem sccheck_net : FnScope ["circuit", "net"] ["circuit", "net"] (defScope scheck_net) := ⟨rfl, rfl, rfl, by decide +kernel, rfl, by decide +kernel, by decide +kernel⟩
abbrev sdrivers : Stmt := topS 17
theorem scdrivers : FnScope ["circuit", "index", "gate"] ["circuit"] (defScope sdrivers) := ⟨rfl, rfl, rfl, by decide +kernel, rfl, by decide +kernel, by decide +kernel⟩

structure Gate where
  name : Str
  tab : List Bool
  nets : List Str
  spans : List (Int × Int)
structure Circ where
  ins : List Str
  gates : List Gate
  regs : List Str
abbrev Circ.srcs (C : Circ) : List Str := C.ins ++ C.regs
abbrev Circ.nets (C : Circ) : List Str := C.srcs ++ C.gates.map Gate.name
def SpanAt (H : Hp) (a : Addr) (sp : Int × Int) : Prop := H a = some (.tup [.int sp.1, .int sp.2])
def GateAt (H : Hp) (a : Addr) (g : Gate) : Prop := ∃ (t n r : Addr) (sa : List Addr), H a = some (.tup [.str g.name, .ref t, .ref n, .ref r]) ∧ H t = some (.tup (g.tab.map V.bl)) ∧ H n = some (.tup (g.nets.map V.str)) ∧ H r = some (.tup (sa.map V.ref)) ∧ Paired (SpanAt H) sa g.spans
def RegAt (H : Hp) (a : Addr) (x : Str) : Prop := ∃ rest, H a = some (.tup (.str x :: rest))
def CircAt (H : Hp) (c : Addr) (C : Circ) : Prop := ∃ (ci cg cr co : Addr) (ga ra : List Addr), H c = some (.tup [.ref ci, .ref cg, .ref cr, .ref co]) ∧ H ci = some (.tup (C.ins.map V.str)) ∧ H cg = some (.tup (ga.map V.ref)) ∧ Paired (GateAt H) ga C.gates ∧
  H cr = some (.tup (ra.map V.ref)) ∧ Paired (RegAt H) ra C.regs
theorem GateAt.keep {H H' : Hp} {a : Addr} {g : Gate} (t : TupK H H') (x : GateAt H a g) : GateAt H' a g := by
  obtain ⟨t1, n, r, sa, h1, h2, h3, h4, h5⟩ := x
  exact ⟨t1, n, r, sa, t _ _ h1, t _ _ h2, t _ _ h3, t _ _ h4, Paired.mapP h5 fun _ _ q => t _ _ q⟩
theorem RegAt.keep {H H' : Hp} {a : Addr} {g : Str} (t : TupK H H') (x : RegAt H a g) : RegAt H' a g := let ⟨r, h⟩ := x; ⟨r, t _ _ h⟩
theorem CircAt.keep {H H' : Hp} {c : Addr} {C : Circ} (t : TupK H H') (x : CircAt H c C) : CircAt H' c C := by
  obtain ⟨ci, cg, cr, co, ga, ra, h1, h2, h3, h4, h5, h6⟩ := x
  exact ⟨ci, cg, cr, co, ga, ra, t _ _ h1, t _ _ h2, t _ _ h3, Paired.mapP h4 fun _ _ q => q.keep t, t _ _ h5, Paired.mapP h6 fun _ _ q => q.keep t⟩
theorem pget {α β : Type} {G : α → β → Prop} {l1 : List α} {l2 : List β} (h : Paired G l1 l2) {i : Nat} {a : α} (e : l1[i]? = some a) : ∃ b, l2[i]? = some b ∧ G a b := paired_get h e
theorem pget2 {α β : Type} {G : α → β → Prop} {l1 : List α} {l2 : List β} (h : Paired G l1 l2) : ∀ {i : Nat} {b : β}, l2[i]? = some b → ∃ a, l1[i]? = some a ∧ G a b := by
  induction h with
  | nil => intro i b e; simp at e
  | cons r t ih =>
    intro i b e
    cases i with
    | zero => simp at e; subst e; exact ⟨_, rfl, r⟩
    | succ i => exact ih (by simpa using e)
section
variable {P : Program} {w : World} {K : PySem.W.Frag} {mg : Str → Option Value} {base : Heap} {f : Addr} {fd : FuncData}
/-- a new list of texts comes back -/
def NewStrs (H : Hp) (xs : List Str) (Q : VK) : Prop := ∀ p H', Same H H' → H p = none → H' p = some (.lst (xs.map V.str)) → Q (.ref p) H'
def spSources : Sp := fun vs H Q _ => ∃ (c : Addr) (C : Circ), vs = [.ref c] ∧ CircAt H c C ∧ C.srcs.length ≤ 1000 ∧ NewStrs H C.srcs Q
theorem ok_sources (F : Fun K "sources" "sources" ssources f fd) (B : Bt mg) : FnOk P w K mg base CX0 1 f fd ["circuit"] spSources := by
  refine F.ok scsources (fun vs H Q E h => ?_) (fun cdv A outer s H vs Q E hr h => ?_)
  · obtain ⟨_, _, rfl, _⟩ := h
    rfl
  obtain ⟨c, C, rfl, ⟨ci, cg, cr, co, ga, ra, h1, h2, h3, h4, h5, h6⟩, hl, q⟩ := h
  refine ⟨_, (pss_one (ps_ret (pe_op op_cat (pe_callTy (cList K) (by rfl) B.list_ boot_list' (pa_cons (wIxT K (pv 0) pe_int) pa_nil)) (pe_lc (own := [("row", 1)]) (g := (gName 1)) (tt := tYes) rfl scsources.nd (wForT K (wIxT K (pv 0) pe_int)) (blkOk_by (N := ["circuit", "row"]) (sc := defScope ssources) (by decide +kernel)) (fun _ _ _ _ _ => (pg_name (i := 1) scsources.nd rfl (Or.inl rfl))) (fun _ _ _ _ _ => pts_nil) (fun _ _ _ _ _ => (wIxT K (pv 1) pe_int)))))), ?_⟩
  refine ⟨_, rfl, c, _, 0, _, rfl, rfl, SqT.of h1, atI_nat (j := 0) rfl, ci, _, rfl, .inr (SqT.of h2), fun l nl => ?_⟩
  have s1 : Same H (upd H l (.lst (C.ins.map V.str))) := same_new nl
  have lr := Paired.length h6
  rw [List.length_append] at hl
  refine ⟨_, rfl, c, _, 2, _, rfl, rfl, SqT.of (s1 _ _ h1), atI_nat (j := 2) rfl, cr, rfl, ⟨_, SqT.of (s1 _ _ h5)⟩, fun D nD => lc_it walk_tup
    (fun i H1 => Same H H1 ∧ H1 l = some (.lst (C.ins.map V.str)) ∧ H1 D = some (.lst ((C.regs.take i).map V.str)) ∧ D ≠ l ∧ H D = none)
    ⟨s1.trans (same_new nD), same_new nD _ _ upd_same, upd_same, (ne_of_none upd_same nD).symm, s1.free nD⟩ (fun i H1 _ ⟨s, _⟩ => SqT.of (s _ _ h5)) ?_ ?_⟩
  · rintro i x H1 H2 hi ⟨s, hl1, hD, ne, nD0⟩ ⟨rfl, ex⟩
    obtain ⟨a, ea, rfl⟩ := get_map ex
    obtain ⟨y, ey, rest, hy⟩ := pget h6 ea
    refine ⟨rfl, ⟨_, rfl, a, _, 0, _, rfl, rfl, SqT.of (s _ _ hy), atI_nat (j := 0) rfl, _, hD, ?_, s.mutN nD0, ?_, ?_, ne, nD0⟩⟩
    · rw [List.length_map, List.length_take]
      exact szlt (by omega)
    · rw [upd_ne ne.symm]
      exact hl1
    · rw [upd_same, take_snoc ey, List.map_append]
      rfl
  · rintro H1 ⟨s, hl1, hD, ne, nD0⟩
    refine ⟨l, D, _, _, rfl, rfl, hl1, hD, ?_, fun p np => ?_⟩
    · rw [List.length_map, List.length_map, List.length_take]
      exact szl (by omega)
    refine q p _ (s.trans (same_new np)) (s.free np) ?_
    rw [upd_same, List.length_map, List.take_of_length_le (by omega), ← List.map_append]
def spAllNets : Sp := fun vs H Q _ => ∃ (c : Addr) (C : Circ), vs = [.ref c] ∧ CircAt H c C ∧ C.nets.length ≤ 1000 ∧ NewStrs H C.nets Q
theorem ok_all_nets (F : Fun K "all_nets" "all_nets" sall_nets f fd) (B : Bt mg) (D_sources : Ok P w K mg base "sources" 1 ["circuit"] spSources) : FnOk P w K mg base CX0 2 f fd ["circuit"] spAllNets := by
  refine F.ok scall_nets (fun vs H Q E h => ?_) (fun cdv A outer s H vs Q E hr h => ?_)
  · obtain ⟨_, _, rfl, _⟩ := h
    rfl
  obtain ⟨c, C, rfl, hc, hl, q⟩ := h
  refine ⟨_, (pss_one (ps_ret (pe_op op_cat (wCall D_sources (hr.mono (by decide)) (pa_cons (pv 0) pa_nil)) (pe_lc (own := [("gate", 1)]) (g := (gName 1)) (tt := tYes) rfl scall_nets.nd (wForT K (wIxT K (pv 0) pe_int)) (blkOk_by (N := ["circuit", "gate"]) (sc := defScope sall_nets) (by decide +kernel)) (fun _ _ _ _ _ => (pg_name (i := 1) scall_nets.nd rfl (Or.inl rfl))) (fun _ _ _ _ _ => pts_nil) (fun _ _ _ _ _ => (wIxT K (pv 1) pe_int)))))), ?_⟩
  rw [List.length_append, List.length_map] at hl
  refine ⟨_, rfl, c, C, rfl, hc, by omega, fun l H0 s1 nl hl0 => ?_⟩
  obtain ⟨ci, cg, cr, co, ga, ra, h1, h2, h3, h4, h5, h6⟩ := hc
  have lr := Paired.length h4
  refine ⟨_, rfl, c, _, 1, _, rfl, rfl, SqT.of (s1 _ _ h1), atI_nat (j := 1) rfl, cg, rfl, ⟨_, SqT.of (s1 _ _ h3)⟩, fun D nD => lc_it walk_tup
    (fun i H1 => Same H H1 ∧ H1 l = some (.lst (C.srcs.map V.str)) ∧ H1 D = some (.lst ((C.gates.take i).map (fun g => V.str g.name))) ∧ D ≠ l ∧ H D = none)
    ⟨s1.trans (same_new nD), same_new nD _ _ hl0, upd_same, (ne_of_none hl0 nD).symm, s1.free nD⟩ (fun i H1 _ ⟨s, _⟩ => SqT.of (s _ _ h3)) ?_ ?_⟩
  · rintro i x H1 H2 hi ⟨s, hl1, hD, ne, nD0⟩ ⟨rfl, ex⟩
    obtain ⟨a, ea, rfl⟩ := get_map ex
    obtain ⟨g, eg, _, _, _, _, hy, _⟩ := pget h4 ea
    refine ⟨rfl, ⟨_, rfl, a, _, 0, _, rfl, rfl, SqT.of (s _ _ hy), atI_nat (j := 0) rfl, _, hD, ?_, s.mutN nD0, ?_, ?_, ne, nD0⟩⟩
    · rw [List.length_map, List.length_take]
      exact szlt (by omega)
    · rw [upd_ne ne.symm]
      exact hl1
    · rw [upd_same, take_snoc eg, List.map_append]
      rfl
  · rintro H1 ⟨s, hl1, hD, ne, nD0⟩
    refine ⟨l, D, _, _, rfl, rfl, hl1, hD, ?_, fun p np => ?_⟩
    · rw [List.length_map, List.length_map, List.length_take]
      exact szl (by omega)
    refine q p _ (s.trans (same_new np)) (s.free np) ?_
    rw [upd_same, List.length_map, List.take_of_length_le (by omega)]
    simp [Circ.nets, Circ.srcs, Function.comp_def]
theorem inV_str (x : Str) (xs : List Str) : inV (.str x) (xs.map V.str) = decide (x ∈ xs) := by
  unfold inV
  rw [List.any_map]
  by_cases h : x ∈ xs
  · rw [decide_eq_true h, List.any_eq_true]
    exact ⟨x, h, by show (x == x) = true; simp⟩
  · rw [decide_eq_false h, List.any_eq_false]
    intro y hy e
    have e' : (y == x) = true := e
    exact h (by rw [← beq_iff_eq.mp e']; exact hy)
theorem flat_strs (bs : List Str) : (bs.map V.str).all flatV = true := by
  rw [List.all_map, List.all_eq_true]
  intro x _
  rfl
def spCheckNet : Sp := fun vs H Q _ => ∃ (c : Addr) (C : Circ) (x : Str), vs = [.ref c, .str x] ∧ CircAt H c C ∧ C.nets.length ≤ 1000 ∧ x ∈ C.nets ∧ ∀ H', Same H H' → Q .non H'
theorem ok_check_net (F : Fun K "check_net" "check_net" scheck_net f fd) (B : Bt mg) (D_all_nets : Ok P w K mg base "all_nets" 2 ["circuit"] spAllNets) : FnOk P w K mg base CX0 3 f fd ["circuit", "net"] spCheckNet := by
  refine F.ok sccheck_net (fun vs H Q E h => ?_) (fun cdv A outer s H vs Q E hr h => ?_)
  · obtain ⟨_, _, _, rfl, _⟩ := h
    rfl
  obtain ⟨c, C, x, rfl, hc, hl, hx, q⟩ := h
  refine ⟨_, (pss_one (ps_if (tNi' K (pv 1) (wCall D_all_nets (hr.mono (by decide)) (pa_cons (pv 0) pa_nil))) (pss_one ps_never) pss_nil)), ?_⟩
  refine ⟨_, rfl, _, rfl, c, C, rfl, hc, hl, fun l H1 s1 nl hl1 => ⟨l, _, rfl, .inl (SqL.of hl1), rfl, flat_strs _, _, rfl, ?_⟩⟩
  refine ite2 (fun h => ?_) (fun _ => q _ s1)
  have e := inV_str x C.nets
  rw [decide_eq_true hx] at e
  have h' : (!inV (.str x) (C.nets.map V.str)) = true := h
  rw [e] at h'
  cases h'
/-- the dict of drivers -/
def DrvAt (H : Hp) (d : Addr) (C : Circ) (n : Nat) : Prop := ∃ kvs, H d = some (.dK kvs) ∧ kvs.length ≤ n ∧ ∀ x : Str, (∀ v, valV kvs (Sum.inr x) = some v → ∃ i g, i < n ∧ C.gates[i]? = some g ∧ g.name = x ∧ v = .int (i : Nat)) ∧ (∀ (i : Nat) g, i < n → C.gates[i]? = some g → g.name = x → (valV kvs (Sum.inr x)).isSome = true)
def spDrivers : Sp := fun vs H Q _ => ∃ (c : Addr) (C : Circ), vs = [.ref c] ∧ CircAt H c C ∧ C.gates.length ≤ 1000 ∧ ∀ d H', Same H H' → H d = none → DrvAt H' d C C.gates.length → Q (.ref d) H'
theorem ok_drivers (F : Fun K "drivers" "drivers" sdrivers f fd) (B : Bt mg) : FnOk P w K mg base CX0 1 f fd ["circuit"] spDrivers := by
  refine F.ok scdrivers (fun vs H Q E h => ?_) (fun cdv A outer s H vs Q E hr h => ?_)
  · obtain ⟨_, _, rfl, _⟩ := h
    rfl
  obtain ⟨c, C, rfl, ⟨ci, cg, cr, co, ga, ra, h1, h2, h3, h4, h5, h6⟩, hl, q⟩ := h
  refine ⟨_, (pss_one (ps_ret (pe_dc (own := [("index", 1), ("gate", 2)]) (g := (gTup K 2 (gCons (gName 1) (gCons (gName 2) gNil)))) (tt := tYes) rfl scdrivers.nd (wEn true K B.enumerate_ (pa_cons (wIxT K (pv 0) pe_int) pa_nil)) (blkOk_by (N := ["circuit", "index", "gate"]) (sc := defScope sdrivers) (by decide +kernel)) (fun _ _ _ _ _ => (wTupG K rfl (pgs_cons (pg_name (i := 1) scdrivers.nd rfl (Or.inl rfl)) (pgs_cons (pg_name (i := 2) scdrivers.nd rfl (Or.inl rfl)) pgs_nil)))) (fun _ _ _ _ _ => pts_nil) (fun _ _ _ _ _ => (wIxT K (pv 2) pe_int)) (fun _ _ _ _ _ => (pv 1))))), ?_⟩
  have lr := Paired.length h4
  refine ⟨_, rfl, c, _, 1, _, rfl, rfl, SqT.of h1, atI_nat (j := 1) rfl, cg, _, rfl, SqT.of h3, fun D nD => dc_it (walk_en (n := C.gates.length) (by rw [List.length_map]; exact lr))
    (fun i H1 => Same H H1 ∧ DrvAt H1 D C i) ⟨same_new nD, [], upd_same, Nat.le_refl _, fun x => ⟨fun v h => by simp [valV] at h, fun i g h => absurd h (by omega)⟩⟩ (fun i H1 _ ⟨s, _⟩ => SqT.of (s _ _ h3)) ?_ ?_⟩
  · rintro i x H1 H2 hi ⟨s, kvs, hD, hk, hv⟩ ⟨T, x1, x2, rfl, nT, rfl, e1, e2⟩
    cases (Option.some.inj e1).symm
    obtain ⟨a, ea, rfl⟩ := get_map e2
    obtain ⟨g, eg, _, _, _, _, hy, _⟩ := pget h4 ea
    have s2 : Same H (upd H1 T (.tup [.int i, .ref a])) := s.trans (same_new nT)
    have hD2 := same_new (o := .tup [.int i, .ref a]) nT _ _ hD
    refine ⟨T, _, rfl, SqT.of upd_same, rfl, _, _, rfl, _, _, rfl, rfl, rfl, ?_⟩
    refine ⟨.ref a, rfl, a, _, 0, .str g.name, rfl, rfl, SqT.of (s2 _ _ hy), atI_nat (j := 0) rfl, .int i, rfl, kvs, Sum.inr g.name, rfl, hD2, szlt (by omega), s2.mutN nD, ?_⟩
    refine ⟨putK kvs (Sum.inr g.name) (.int i), upd_same, Nat.le_trans (length_putK _ _ _) (by omega), fun y => ⟨fun v hvv => ?_, fun j g' hj ej en => ?_⟩⟩
    · rw [valV_put] at hvv
      by_cases e : (Sum.inr y : Key) = Sum.inr g.name
      · rw [if_pos e] at hvv
        exact ⟨i, g, Nat.lt_succ_self i, eg, (Sum.inr.inj e).symm, (Option.some.inj hvv).symm⟩
      · rw [if_neg e] at hvv
        obtain ⟨j, g', h1, h2, h3, h4⟩ := (hv y).1 v hvv
        exact ⟨j, g', by omega, h2, h3, h4⟩
    · rw [valV_put]
      by_cases e : (Sum.inr y : Key) = Sum.inr g.name
      · rw [if_pos e]; rfl
      · rw [if_neg e]
        refine (hv y).2 j g' ?_ ej en
        by_cases z : j = i
        · subst z
          rw [eg] at ej
          cases ej
          exact absurd (by rw [en]) e
        · omega
  · rintro H1 ⟨s, hd⟩
    exact q D H1 s nD hd
end
end L2.Sg

/-! plain mathematics of circuits: orders, values by the equations of the gates -/
namespace L2.Sg
open PySem

/-- a sound circuit with an order in which each gate stands behind what it reads -/
structure Wf (C : Circ) (ord : List Gate) : Prop where
  nd : C.nets.Nodup
  perm : ord.Perm C.gates
  topo : ∀ (i : Nat) g, ord[i]? = some g → ∀ n ∈ g.nets, n ∈ C.srcs ∨ ∃ (j : Nat) (g' : Gate), j < i ∧ ord[j]? = some g' ∧ g'.name = n
  shape : ∀ g ∈ C.gates, g.spans.length = g.nets.length ∧ g.tab.length = 2 ^ g.nets.length ∧ g.nets.length ≤ 3 ∧ ∀ sp ∈ g.spans, 0 ≤ sp.1 ∧ sp.1 + 2 ≤ sp.2 ∧ sp.2 ≤ 10
  few : C.gates.length ≤ 6
  few2 : C.srcs.length ≤ 10
/-- a net within the first k gates of the order -/
def Lv (C : Circ) (ord : List Gate) (k : Nat) (n : Str) : Prop := n ∈ C.srcs ∨ ∃ (j : Nat) (g : Gate), j < k ∧ ord[j]? = some g ∧ g.name = n
theorem Lv.mono {C : Circ} {ord : List Gate} {k m : Nat} {n : Str} (h : Lv C ord k n) (hk : k ≤ m) : Lv C ord m n := by
  rcases h with h | ⟨j, g, hj, e, en⟩
  · exact .inl h
  · exact .inr ⟨j, g, by omega, e, en⟩
section
variable {C : Circ} {ord : List Gate}
theorem Wf.mem (W : Wf C ord) (g : Gate) : g ∈ ord ↔ g ∈ C.gates := W.perm.mem_iff
theorem Wf.len (W : Wf C ord) : ord.length = C.gates.length := W.perm.length_eq
theorem Wf.small (W : Wf C ord) : C.nets.length ≤ 1000 := by
  have h1 := W.few
  have h2 := W.few2
  rw [List.length_append] at h2
  rw [List.length_append, List.length_append, List.length_map]
  omega
theorem Wf.gnd (W : Wf C ord) : (C.gates.map Gate.name).Nodup := (List.nodup_append.mp W.nd).2.1
theorem Wf.apart (W : Wf C ord) {g : Gate} (hg : g ∈ C.gates) : g.name ∉ C.srcs := fun h =>
  (List.nodup_append.mp W.nd).2.2 _ h _ (List.mem_map.mpr ⟨g, hg, rfl⟩) rfl
theorem find_name : ∀ {l : List Gate} {g : Gate}, (l.map Gate.name).Nodup → g ∈ l → l.find? (fun x => x.name == g.name) = some g
  | [], g, _, h => by cases h
  | a :: r, g, hn, h => by
    rw [List.map_cons, List.nodup_cons] at hn
    rw [List.find?_cons]
    rcases List.mem_cons.mp h with e | h
    · subst e; simp
    · have ne : (a.name == g.name) = false := beq_eq_false_iff_ne.mpr fun e => hn.1 (by rw [e]; exact List.mem_map.mpr ⟨g, h, rfl⟩)
      rw [ne]
      exact find_name hn.2 h
theorem Wf.find (W : Wf C ord) {g : Gate} (hg : g ∈ C.gates) : C.gates.find? (fun x => x.name == g.name) = some g := find_name W.gnd hg
theorem Wf.nofind (W : Wf C ord) {n : Str} (hn : n ∈ C.srcs) : C.gates.find? (fun x => x.name == n) = none := by
  rw [List.find?_eq_none]
  intro g hg e
  have e' := beq_iff_eq.mp e
  exact W.apart hg (by rw [e']; exact hn)
theorem Wf.uniq (W : Wf C ord) {g g' : Gate} (h : g ∈ C.gates) (h' : g' ∈ C.gates) (e : g.name = g'.name) : g = g' := by
  have q := W.find h
  rw [e, W.find h'] at q
  exact (Option.some.inj q).symm
theorem Wf.at (W : Wf C ord) {g : Gate} (hg : g ∈ C.gates) : ∃ j : Nat, j < C.gates.length ∧ ord[j]? = some g := by
  obtain ⟨j, hj, e⟩ := List.mem_iff_getElem.mp ((W.mem g).mpr hg)
  exact ⟨j, by rw [← W.len]; exact hj, by rw [← e]; exact List.getElem?_eq_getElem hj⟩
theorem Wf.lv (W : Wf C ord) {n : Str} (h : n ∈ C.nets) : Lv C ord C.gates.length n := by
  rcases List.mem_append.mp h with h | h
  · exact .inl h
  · obtain ⟨g, hg, e⟩ := List.mem_map.mp h
    obtain ⟨j, hj, ej⟩ := W.at hg
    exact .inr ⟨j, g, hj, ej, e⟩
theorem Wf.in_of (W : Wf C ord) {j : Nat} {g : Gate} (e : ord[j]? = some g) : g ∈ C.gates := (W.mem g).mp (List.mem_of_getElem? e)
theorem Wf.of_lv (W : Wf C ord) {k : Nat} {n : Str} (h : Lv C ord k n) : n ∈ C.nets := by
  rcases h with h | ⟨j, g, _, e, en⟩
  · exact List.mem_append_left _ h
  · exact List.mem_append_right _ (List.mem_map.mpr ⟨g, W.in_of e, en⟩)
theorem Wf.netIn (W : Wf C ord) {g : Gate} (hg : g ∈ C.gates) {n : Str} (hn : n ∈ g.nets) : n ∈ C.nets := by
  obtain ⟨j, _, e⟩ := W.at hg
  exact W.of_lv (k := j) (W.topo j g e n hn)
/-- a gate within level k + 1 reads nets within level k -/
theorem Wf.down (W : Wf C ord) {k : Nat} {g : Gate} (hg : g ∈ C.gates) (h : Lv C ord (k + 1) g.name) : ∀ n ∈ g.nets, Lv C ord k n := by
  rcases h with h | ⟨j, g', hj, e, en⟩
  · exact absurd h (W.apart hg)
  · have q := W.uniq (W.in_of e) hg en
    subst q
    intro n hn
    exact Lv.mono (k := j) (W.topo j g' e n hn) (by omega)

/-! ### values by the gates' equations -/
variable {α : Type} {step : Gate → (Str → α) → α} {base : Str → α}
def evF (C : Circ) (step : Gate → (Str → α) → α) (base : Str → α) : Nat → Str → α
  | 0, n => base n
  | k + 1, n => match C.gates.find? (fun g => g.name == n) with
    | some g => step g (evF C step base k)
    | none => base n
def ev (C : Circ) (step : Gate → (Str → α) → α) (base : Str → α) (n : Str) : α := evF C step base C.gates.length n
/-- a step sees the nets of its gate alone -/
def Sees (step : Gate → (Str → α) → α) : Prop := ∀ g e e', (∀ n ∈ g.nets, e n = e' n) → step g e = step g e'
theorem evF_src (W : Wf C ord) {n : Str} (hn : n ∈ C.srcs) : ∀ k, evF C step base k n = base n
  | 0 => rfl
  | k + 1 => by rw [evF, W.nofind hn]
theorem evF_st (W : Wf C ord) (S : Sees step) : ∀ (k : Nat) (n : Str), Lv C ord k n → ∀ m, k ≤ m → evF C step base m n = evF C step base k n
  | 0, n, h, m, _ => by
    rcases h with h | ⟨j, g, hj, _⟩
    · rw [evF_src W h, evF_src W h]
    · omega
  | k + 1, n, h, m, hm => by
    have h0 := h
    rcases h with h | ⟨j, g, hj, e, en⟩
    · rw [evF_src W h, evF_src W h]
    · subst en
      have hg := W.in_of e
      obtain ⟨m', rfl⟩ : ∃ m', m = m' + 1 := ⟨m - 1, by omega⟩
      rw [evF, evF, W.find hg]
      exact S g _ _ fun x hx => evF_st W S k x (W.down hg h0 x hx) m' (by omega)
theorem ev_src (W : Wf C ord) {n : Str} (hn : n ∈ C.srcs) : ev C step base n = base n := evF_src W hn _
theorem ev_gate (W : Wf C ord) (S : Sees step) {g : Gate} (hg : g ∈ C.gates) : ev C step base g.name = step g (ev C step base) := by
  obtain ⟨j, hj, e⟩ := W.at hg
  obtain ⟨m, hm⟩ : ∃ m, C.gates.length = m + 1 := ⟨C.gates.length - 1, by omega⟩
  unfold ev
  rw [hm, evF, W.find hg]
  refine S g _ _ fun x hx => ?_
  have hl : Lv C ord j x := W.topo j g e x hx
  rw [evF_st W S j x hl m (by omega), evF_st W S j x hl (m + 1) (by omega)]
/-- what holds of the sources, and of a gate if of its nets, holds of all nets -/
theorem topo_ind (W : Wf C ord) {p : Str → Prop} (h0 : ∀ n ∈ C.srcs, p n) (h1 : ∀ g ∈ C.gates, (∀ n ∈ g.nets, p n) → p g.name) : ∀ (k : Nat) (n : Str), Lv C ord k n → p n
  | 0, n, h => by
    rcases h with h | ⟨j, g, hj, _⟩
    · exact h0 n h
    · omega
  | k + 1, n, h => by
    have h' := h
    rcases h with h | ⟨j, g, hj, e, en⟩
    · exact h0 n h
    · subst en
      exact h1 g (W.in_of e) fun x hx => topo_ind W h0 h1 k x (W.down (W.in_of e) h' x hx)
end

/-! ### settled values -/
/-- the value of a source in a vector -/
def srcVal (srcs : List Str) (vec : List Bool) (n : Str) : Bool := vec.getD (srcs.findIdx (· == n)) false
def svStep (g : Gate) (e : Str → Bool) : Bool := g.tab.getD (idx (g.nets.map e)) false
theorem svSees : Sees svStep := fun g e e' h => by
  unfold svStep
  rw [List.map_congr_left h]
def sv (C : Circ) (vec : List Bool) : Str → Bool := ev C svStep (srcVal C.srcs vec)
theorem findIdx_nd : ∀ {l : List Str} {i : Nat} {x : Str}, l.Nodup → l[i]? = some x → l.findIdx (· == x) = i
  | [], i, x, _, h => by simp at h
  | a :: r, 0, x, _, h => by
    simp at h; subst h
    rw [List.findIdx_cons]; simp
  | a :: r, i + 1, x, hn, h => by
    rw [List.nodup_cons] at hn
    have h' : r[i]? = some x := by simpa using h
    have ne : (a == x) = false := beq_eq_false_iff_ne.mpr fun e => hn.1 (by rw [e]; exact List.mem_of_getElem? h')
    rw [List.findIdx_cons, ne, findIdx_nd hn.2 h']
    rfl
theorem srcVal_at {srcs : List Str} {vec : List Bool} {i : Nat} {x : Str} {b : Bool} (hn : srcs.Nodup) (h : srcs[i]? = some x) (hb : vec[i]? = some b) : srcVal srcs vec x = b := by
  unfold srcVal
  rw [findIdx_nd hn h, List.getD_eq_getElem?_getD, hb]
  rfl
theorem Wf.snd {C : Circ} {ord : List Gate} (W : Wf C ord) : C.srcs.Nodup := (List.nodup_append.mp W.nd).1
theorem sv_src {C : Circ} {ord : List Gate} (W : Wf C ord) {vec : List Bool} {i : Nat} {x : Str} {b : Bool} (h : C.srcs[i]? = some x) (hb : vec[i]? = some b) : sv C vec x = b := by
  unfold sv
  rw [ev_src W (List.mem_of_getElem? h)]
  exact srcVal_at W.snd h hb
theorem sv_gate {C : Circ} {ord : List Gate} (W : Wf C ord) {vec : List Bool} {g : Gate} (hg : g ∈ C.gates) : sv C vec g.name = svStep g (sv C vec) := ev_gate W svSees hg

/-! ### lists -/
theorem nd_sub {α : Type} [DecidableEq α] : ∀ {l m : List α}, l.Nodup → (∀ x ∈ l, x ∈ m) → l.length ≤ m.length
  | [], m, _, _ => Nat.zero_le _
  | a :: r, m, hn, hs => by
    rw [List.nodup_cons] at hn
    have ha := hs a List.mem_cons_self
    have h := nd_sub (l := r) (m := m.erase a) hn.2 fun x hx => (List.mem_erase_of_ne (fun e => hn.1 (by rw [← e]; exact hx))).mpr (hs x (List.mem_cons_of_mem _ hx))
    rw [List.length_erase_of_mem ha] at h
    have : 0 < m.length := List.length_pos_of_mem ha
    rw [List.length_cons]
    omega
/-- the index of the gate that drives a net -/
def dIx (C : Circ) (n : Str) : Option Nat := C.gates.findIdx? (fun g => g.name == n)
theorem dIx_some {C : Circ} {n : Str} {i : Nat} (h : dIx C n = some i) : ∃ g, C.gates[i]? = some g ∧ g.name = n := by
  unfold dIx at h
  rw [List.findIdx?_eq_some_iff_getElem] at h
  obtain ⟨hi, e, _⟩ := h
  exact ⟨C.gates[i], List.getElem?_eq_getElem hi, beq_iff_eq.mp e⟩
theorem dIx_none {C : Circ} {n : Str} (h : dIx C n = none) : ∀ g ∈ C.gates, g.name ≠ n := by
  unfold dIx at h
  rw [List.findIdx?_eq_none_iff] at h
  intro g hg e
  have := h g hg
  rw [e] at this
  simp at this
theorem dIx_at {C : Circ} {ord : List Gate} (W : Wf C ord) {i : Nat} {g : Gate} (e : C.gates[i]? = some g) : dIx C g.name = some i := by
  cases h : dIx C g.name with
  | none => exact absurd rfl (dIx_none h g (List.mem_of_getElem? e))
  | some j =>
    obtain ⟨g', ej, en⟩ := dIx_some h
    have q : (C.gates.map Gate.name)[j]? = some g.name := by rw [List.getElem?_map, ej]; simp [en]
    have q2 : (C.gates.map Gate.name)[i]? = some g.name := by rw [List.getElem?_map, e]; rfl
    have := findIdx_nd W.gnd q
    rw [findIdx_nd W.gnd q2] at this
    rw [this]
theorem dIx_src {C : Circ} {ord : List Gate} (W : Wf C ord) {n : Str} (h : n ∈ C.srcs) : dIx C n = none := by
  cases q : dIx C n with
  | none => rfl
  | some i =>
    obtain ⟨g, e, en⟩ := dIx_some q
    exact absurd (by rw [en]; exact h) (W.apart (List.mem_of_getElem? e))
end L2.Sg

/-! gate_order -/
namespace L2.Sg
open PySem PySem.Spec PyProof.Rows L2.Lx
abbrev sgate_order : Stmt := topS 18
theorem scgate_order : FnScope ["circuit", "driven", "waits", "order", "placed", "ready", "index", "before", "gate", "net", "k"] ["circuit"] (defScope sgate_order) := ⟨rfl, rfl, rfl, by decide +kernel, rfl, by decide +kernel, by decide +kernel⟩

/-- the dict of drivers, told by dIx -/
def DrvD (H : Hp) (d : Addr) (C : Circ) : Prop := ∃ kvs, H d = some (.dK kvs) ∧ ∀ x : Str, valV kvs (Sum.inr x) = (dIx C x).map fun i => V.int (i : Nat)
theorem DrvAt.told {H : Hp} {d : Addr} {C : Circ} {ord : List Gate} (W : Wf C ord) (x : DrvAt H d C C.gates.length) : DrvD H d C := by
  obtain ⟨kvs, h, _, hv⟩ := x
  refine ⟨kvs, h, fun y => ?_⟩
  cases e : valV kvs (Sum.inr y) with
  | none =>
    cases q : dIx C y with
    | none => rfl
    | some i =>
      obtain ⟨g, eg, en⟩ := dIx_some q
      have := (hv y).2 i g (List.getElem?_eq_some_iff.mp eg).1 eg en
      rw [e] at this
      cases this
  | some v =>
    obtain ⟨i, g, hi, eg, en, ev⟩ := (hv y).1 v e
    have := dIx_at W eg
    rw [en] at this
    rw [this, ev]
    rfl
theorem DrvD.keep {H H' : Hp} {d : Addr} {C : Circ} (x : DrvD H d C) (s : ∀ o, H d = some o → H' d = some o) : DrvD H' d C := let ⟨kvs, h, r⟩ := x; ⟨kvs, s _ h, r⟩
/-- what a gate waits for -/
def deps (C : Circ) (g : Gate) : List Nat := g.nets.filterMap (dIx C)
def nI (a : Nat) : V := .int a
/-- each gate of the list stands behind what it reads -/
def TopoI (C : Circ) (idxs : List Nat) : Prop := ∀ (i : Nat) a, idxs[i]? = some a → ∃ g, C.gates[a]? = some g ∧ ∀ b ∈ deps C g, ∃ j, j < i ∧ idxs[j]? = some b
def Rdy (C : Circ) (idxs : List Nat) (j : Nat) (g : Gate) : Prop := j ∉ idxs ∧ ∀ b ∈ deps C g, b ∈ idxs
theorem all_placed {C : Circ} {ord : List Gate} (W : Wf C ord) {idxs : List Nat} (h : ∀ (j : Nat) g, C.gates[j]? = some g → ¬ Rdy C idxs j g) : ∀ (k : Nat) (j : Nat) g, ord[k]? = some g → C.gates[j]? = some g → j ∈ idxs := by
  intro k
  induction k using Nat.strongRecOn with
  | _ k ih =>
    intro j g ek ej
    apply Classical.byContradiction
    intro hn
    refine h j g ej ⟨hn, fun b hb => ?_⟩
    obtain ⟨n, hn, en⟩ := List.mem_filterMap.mp hb
    obtain ⟨g', eg, enm⟩ := dIx_some en
    rcases W.topo k g ek n hn with hs | ⟨k', g2, hk, e2, en2⟩
    · rw [dIx_src W hs] at en; cases en
    · have := W.uniq (W.in_of e2) (List.mem_of_getElem? eg) (en2.trans enm.symm)
      subst this
      exact ih k' hk b g2 e2 eg
theorem some_ready {C : Circ} {ord : List Gate} (W : Wf C ord) {idxs : List Nat} (hl : idxs.length < C.gates.length) : ∃ (j : Nat) (g : Gate), C.gates[j]? = some g ∧ Rdy C idxs j g := by
  apply Classical.byContradiction
  intro hn
  have h : ∀ (j : Nat) g, C.gates[j]? = some g → ¬ Rdy C idxs j g := fun j g e r => hn ⟨j, g, e, r⟩
  have hall : ∀ x ∈ List.range C.gates.length, x ∈ idxs := fun x hx => by
    have hx' := List.mem_range.mp hx
    obtain ⟨k, _, ek⟩ := W.at (List.getElem_mem hx')
    exact all_placed W h k x _ ek (List.getElem?_eq_getElem hx')
  have := nd_sub List.nodup_range hall
  rw [List.length_range] at this
  omega
theorem TopoI.snoc {C : Circ} {idxs : List Nat} {r : Nat} {g : Gate} (t : TopoI C idxs) (e : C.gates[r]? = some g) (hr : ∀ b ∈ deps C g, b ∈ idxs) : TopoI C (idxs ++ [r]) := by
  intro i a h
  by_cases hi : i < idxs.length
  · rw [List.getElem?_append_left hi] at h
    obtain ⟨g', e', hd⟩ := t i a h
    refine ⟨g', e', fun b hb => ?_⟩
    obtain ⟨j, hj, ej⟩ := hd b hb
    exact ⟨j, hj, by rw [List.getElem?_append_left (by omega)]; exact ej⟩
  · rw [List.getElem?_append_right (by omega)] at h
    have hz : i - idxs.length = 0 := by
      have := (List.getElem?_eq_some_iff.mp h).1
      simp at this
      omega
    rw [hz] at h
    simp at h
    subst h
    refine ⟨g, e, fun b hb => ?_⟩
    obtain ⟨j, hj, ej⟩ := List.mem_iff_getElem.mp (hr b hb)
    exact ⟨j, by omega, by rw [List.getElem?_append_left hj, List.getElem?_eq_getElem hj, ej]⟩
/-- the dict of what is placed -/
def PlcAt (H : Hp) (d : Addr) (idxs : List Nat) : Prop := ∃ kvs, H d = some (.dK kvs) ∧ kvs.length ≤ idxs.length ∧ ∀ a : Nat, (valV kvs (Sum.inl (a : Int))).isSome = decide (a ∈ idxs)
section
variable {P : Program} {w : World} {K : PySem.W.Frag} {mg : Str → Option Value} {base : Heap} {f : Addr} {fd : FuncData}
def spGateOrder : Sp := fun vs H Q _ => ∃ (c : Addr) (C : Circ) (ord : List Gate), vs = [.ref c] ∧ CircAt H c C ∧ Wf C ord ∧
  ∀ p H' idxs, Same H H' → H p = none → H' p = some (.lst (idxs.map nI)) → TopoI C idxs → idxs.length = C.gates.length → (∀ j, j < C.gates.length → j ∈ idxs) → Q (.ref p) H'
theorem ok_gate_order (F : Fun K "gate_order" "gate_order" sgate_order f fd) (B : Bt mg) (D_drivers : Ok P w K mg base "drivers" 1 ["circuit"] spDrivers) : FnOk P w K mg base CX0 2 f fd ["circuit"] spGateOrder := by
  refine F.ok scgate_order (fun vs H Q E h => ?_) (fun cdv A outer s H vs Q E hr h => ?_)
  · obtain ⟨_, _, _, rfl, _⟩ := h
    rfl
  obtain ⟨c, C, ord, rfl, hc, W, q⟩ := h
  refine ⟨_, (pss_cons (ps_set (i := 1) scgate_order.nd rfl (Or.inr rfl) (wCall D_drivers (hr.mono (by decide)) (pa_cons (pv 0) pa_nil)))
      (pss_cons (ps_setLc (i := 2) (own := [("gate", 8)]) (g := (gName 8)) (tt := tYes) rfl scgate_order.nd rfl rfl (sw_true rfl rfl rfl (by decide +kernel)) (wForT K (wIxT K (pv 0) pe_int)) (blkOk_by (N := ["circuit", "driven", "waits", "order", "placed", "ready", "index", "before", "gate", "net", "k"]) (sc := defScope sgate_order) (by decide +kernel)) (fun _ _ _ _ _ => (pg_name (i := 8) scgate_order.nd rfl (Or.inl rfl))) (fun _ _ _ _ _ => pts_nil) (fun _ _ _ _ _ => (pe_lc (own := [("net", 9)]) (g := (gName 9)) rfl scgate_order.nd (wForT K (wIxT K (pv 8) pe_int)) (blkOk_by (N := ["circuit", "driven", "waits", "order", "placed", "ready", "index", "before", "gate", "net", "k"]) (sc := relS (compSc (asgVal ((defBody sgate_order).getD 1 (.Pass ⟨0, 0, 0, 0⟩)))) (defScope sgate_order)) (by decide +kernel)) (fun _ _ _ _ _ => (pg_name (i := 9) scgate_order.nd rfl (Or.inl rfl))) (fun _ _ _ _ _ => (pts_one (tDIn' hr.units (pv 9) (pv 1)))) (fun _ _ _ _ _ => (wDG hr.units (pv 1) (pv 9))))))
      (pss_cons (ps_set (i := 3) scgate_order.nd rfl (Or.inl rfl) (pe_lst pa_nil))
      (pss_cons (ps_set (i := 4) scgate_order.nd rfl (Or.inr rfl) pe_dnewK)
      (pss_cons (ps_while PassesOwn.never (pt_cmpR op_lt (pe_callB (cLen K) (by rfl) B.len_ PySem.boot_len (pa_cons (pv 3) pa_nil)) (pe_callB (cLen K) (by rfl) B.len_ PySem.boot_len (pa_cons (wIxT K (pv 0) pe_int) pa_nil)) (nomark _)) (pss_cons (ps_set (i := 5) scgate_order.nd rfl (Or.inl rfl) (pe_un un_neg pe_int))
      (pss_cons (ps_for PassesOwn.never rfl (wEn false K B.enumerate_ (pa_cons (pv 2) pa_nil)) (wTupG K rfl (pgs_cons (pg_name (i := 6) scgate_order.nd rfl (Or.inl rfl)) (pgs_cons (pg_name (i := 7) scgate_order.nd rfl (Or.inl rfl)) pgs_nil))) (pss_one (ps_if (PW.pt (pw_and (pt_cmpR op_lt (pv 5) pe_int (nomark _)) (pw_and (tDNi' hr.units (pv 6) (pv 4)) (pw_and1 (pt_val (pe_callB (cAll K) (by rfl) B.all_ boot_all' (pa_cons (pe_lc (own := [("k", 10)]) (g := (gName 10)) (tt := tYes) rfl scgate_order.nd (wForL K (pv 7)) (blkOk_by (N := ["circuit", "driven", "waits", "order", "placed", "ready", "index", "before", "gate", "net", "k"]) (sc := defScope sgate_order) (by decide +kernel)) (fun _ _ _ _ _ => (pg_name (i := 10) scgate_order.nd rfl (Or.inl rfl))) (fun _ _ _ _ _ => pts_nil) (fun _ _ _ _ _ => (wDIn hr.units (pv 10) (pv 4)))) pa_nil))))))) (pss_one (ps_set (i := 5) scgate_order.nd rfl (Or.inl rfl) (pv 6))) pss_nil)))
      (pss_cons (ps_if (pt_cmpR op_lt (pv 5) pe_int (nomark _)) (pss_one ps_never) pss_nil)
      (pss_cons (wDP hr.units (pv 4) (pv 5) pe_bl)
      (pss_one (ps_expr (pe_bm PySem.F.plainAttrs_list PySem.F.slot_list_append PySem.F.type_list_append mt_append (pv 3) (pa_cons (pv 5) pa_nil)))))))))
      (pss_one (ps_ret (pv 3)))))))), ?_⟩
  have few := W.few
  refine ⟨_, rfl, c, C, rfl, hc, by omega, fun d H1 s1 nd hd0 => ?_⟩
  have hd : DrvD H1 d C := hd0.told W
  clear hd0
  obtain ⟨ci, cg, cr, co, ga, ra, h1, h2, h3, h4, h5, h6⟩ := hc
  have lg := Paired.length h4
  -- waits
  refine ⟨_, rfl, c, _, 1, _, rfl, rfl, SqT.of (s1 _ _ h1), atI_nat (j := 1) rfl, cg, rfl, ⟨_, SqT.of (s1 _ _ h3)⟩, fun D nD => lc_it walk_tup
    (fun i H2 => Same H1 H2 ∧ ∃ was : List Addr, H2 D = some (.lst (was.map V.ref)) ∧ Paired (fun a g => H2 a = some (.lst ((deps C g).map nI)) ∧ a ≠ D) was (C.gates.take i))
    ⟨same_new nD, [], upd_same, .nil⟩ (fun i H2 _ ⟨s, _⟩ => SqT.of (s _ _ (s1 _ _ h3))) ?_ ?_⟩
  · rintro i x H2 H3 hi ⟨s, was, hD, hp⟩ ⟨rfl, ex⟩
    obtain ⟨a, ea, rfl⟩ := get_map ex
    obtain ⟨g, eg, t1, n1, r1, sa, hy, hy2, hy3, hy4, hy5⟩ := pget h4 ea
    have s2 := s1.trans s
    refine ⟨rfl, ⟨_, rfl, a, _, 2, _, rfl, rfl, SqT.of (s2 _ _ hy), atI_nat (j := 2) rfl, n1, rfl, ⟨_, SqT.of (s2 _ _ hy3)⟩, fun D2 nD2 => lc_it walk_tup
      (fun k H4 => Same H3 H4 ∧ H4 D2 = some (.lst (((g.nets.take k).filterMap (dIx C)).map nI))) ⟨same_new nD2, upd_same⟩ (fun k H4 _ ⟨s, _⟩ => SqT.of (s _ _ (s2 _ _ hy3))) ?_ ?_⟩⟩
    · rintro k x H4 H5 hk ⟨s4, hD2⟩ ⟨rfl, ex⟩
      obtain ⟨n, en, rfl⟩ := get_map ex
      obtain ⟨kvs, hd1, hd2⟩ := hd
      have hd4 := s4 _ _ (s _ _ hd1)
      refine ⟨rfl, _, rfl, .ref d, rfl, d, _, rfl, DGet.k (k := Sum.inr n) hd4, _, rfl, ite2 (fun hs => ?_) (fun hs => ?_)⟩
      · rw [hd2, Option.isSome_map] at hs
        obtain ⟨j, ej⟩ := Option.isSome_iff_exists.mp hs
        have ev : valV kvs (Sum.inr n) = some (nI j) := by rw [hd2, ej]; rfl
        refine ⟨.ref d, rfl, .str n, rfl, d, nI j, rfl, (by rw [← ev]; exact DGet.k (k := Sum.inr n) hd4), _, hD2, ?_, s4.mutN nD2, ?_⟩
        · rw [List.length_map]
          have z := List.length_filterMap_le (dIx C) (g.nets.take k)
          rw [List.length_take] at z
          have := (W.shape g (List.mem_of_getElem? eg)).2.2.1
          exact szlt (by omega)
        · rw [upd_same, take_snoc en, List.filterMap_append, List.map_append]
          simp [ej, nI]
      · refine ⟨s4, ?_⟩
        have ej : dIx C n = none := by
          cases z : dIx C n with
          | none => rfl
          | some j => exact absurd (by rw [hd2, z]; rfl) hs
        rw [take_snoc en, List.filterMap_append]
        simp [ej]
        exact hD2
    · rintro H4 ⟨s4, hD2⟩
      refine ⟨_, s4 _ _ hD, ?_, Same.mutN (Same.trans s s4) nD, was ++ [D2], ?_, ?_⟩
      · rw [List.length_map, Paired.length hp, List.length_take]
        exact szlt (by omega)
      · rw [upd_same, List.map_append]
        rfl
      · rw [take_snoc eg]
        have nDD : D ≠ D2 := ne_of_none hD nD2
        refine Paired.snoc (Paired.mapP hp fun b g' ⟨z1, z2⟩ => ⟨?_, z2⟩) ⟨?_, nDD.symm⟩
        · rw [upd_ne z2]
          exact s4 _ _ z1
        · rw [upd_ne nDD.symm, hD2]
          rw [List.length_map, List.take_of_length_le (Nat.le_refl _)]
          rfl
  rintro Hw ⟨sw, was, hD, hp⟩
  rw [List.length_map, List.take_of_length_le (by omega)] at hp
  have lw := Paired.length hp
  -- order = [], placed = {}
  refine ⟨Nat.zero_le _, fun o no => ?_⟩
  intro pd npd
  have nwo : Hw pd = none := (same_new no).free npd
  have npo : pd ≠ o := fun e => by rw [e, upd_same] at npd; cases npd
  -- the while
  refine ⟨fun m σ H2 => ∃ idxs rd ix bf, σ = [some (.ref c), some (.ref d), some (.ref D), some (.ref o), some (.ref pd), rd, ix, bf, none, none, none] ∧ m = C.gates.length - idxs.length ∧ Same Hw H2 ∧ H2 o = some (.lst (idxs.map nI)) ∧ PlcAt H2 pd idxs ∧ TopoI C idxs ∧ idxs.Nodup ∧ idxs.length ≤ C.gates.length,
    ⟨_, [], none, none, none, rfl, rfl, Same.trans (same_new no) (same_new npd), (same_new npd _ _ upd_same), ⟨[], upd_same, Nat.le_refl _, fun a => rfl⟩, fun i a h => by simp at h, List.nodup_nil, Nat.zero_le _⟩, ?_⟩
  rintro m σ H2 ⟨idxs, rd, ix, bf, rfl, rfl, s2, ho, ⟨kvs, hpd, hpl, hpv⟩, ht, hnd, hle⟩
  have sc : Same H H2 := Same.trans (Same.trans s1 sw) s2
  refine ⟨.ref o, rfl, o, _, rfl, .inl (SqL.of ho), .ref c, rfl, c, _, 1, _, rfl, rfl, SqT.of (sc _ _ h1), atI_nat (j := 1) rfl, cg, _, rfl, .inr (SqT.of (sc _ _ h3)), _, _, rfl, rfl, _, rfl, ite2 (fun hlt => ?_) (fun hlt => ?_)⟩
  rotate_left
  · have hlt' := of_decide_eq_false (Bool.eq_false_iff.mpr hlt)
    rw [List.length_map, List.length_map] at hlt'
    have el : idxs.length = C.gates.length := by omega
    refine ⟨.ref o, rfl, q o H2 idxs sc ((Same.trans s1 sw).free no) ho ht el fun j hj => ?_⟩
    apply Classical.byContradiction
    intro hn
    have hall : ∀ x ∈ idxs, x < C.gates.length := fun x hx => by
      obtain ⟨i, hi, e⟩ := List.mem_iff_getElem.mp hx
      obtain ⟨g, eg, _⟩ := ht i x (by rw [← e]; exact List.getElem?_eq_getElem hi)
      exact (List.getElem?_eq_some_iff.mp eg).1
    have := nd_sub (l := j :: idxs) (m := List.range C.gates.length) (List.nodup_cons.mpr ⟨hn, hnd⟩) fun x hx => by
      rcases List.mem_cons.mp hx with e | hx
      · rw [e]; exact List.mem_range.mpr hj
      · exact List.mem_range.mpr (hall x hx)
    rw [List.length_cons, List.length_range] at this
    omega
  · have hlt' := of_decide_eq_true hlt
    rw [List.length_map, List.length_map] at hlt'
    have hlt2 : idxs.length < C.gates.length := by omega
    clear hlt
    refine ⟨fun σ' H' => ∃ idxs' rd ix bf, σ' = [some (.ref c), some (.ref d), some (.ref D), some (.ref o), some (.ref pd), rd, ix, bf, none, none, none] ∧ idxs'.length = idxs.length + 1 ∧ Same Hw H' ∧ H' o = some (.lst (idxs'.map nI)) ∧ PlcAt H' pd idxs' ∧ TopoI C idxs' ∧ idxs'.Nodup,
      fun σ' H' ⟨idxs', rd, ix, bf, e1, e2, e3, e4, e5, e6, e7⟩ => ⟨C.gates.length - idxs'.length, by omega, idxs', rd, ix, bf, e1, rfl, e3, e4, e5, e6, e7, by omega⟩, ?_⟩
    refine ⟨1, rfl, .ref D, rfl, D, _, rfl, SqL.of (s2 _ _ hD), for_it (walk_en (n := C.gates.length) (by rw [List.length_map]; exact lw))
      (fun i σ H3 => ∃ rv ix bf, σ = [some (.ref c), some (.ref d), some (.ref D), some (.ref o), some (.ref pd), some (.int rv), ix, bf, none, none, none] ∧ Same H2 H3 ∧ ((rv = -1 ∧ ∀ (j : Nat) g, j < i → C.gates[j]? = some g → ¬ Rdy C idxs j g) ∨ ∃ (r : Nat) (g : Gate), rv = r ∧ C.gates[r]? = some g ∧ Rdy C idxs r g))
      ⟨-1, ix, bf, rfl, Same.refl _, .inl ⟨rfl, fun j g hj => absurd hj (by omega)⟩⟩ (fun i σ H3 _ ⟨_, _, _, _, s, _⟩ => SqL.of (s _ _ (s2 _ _ hD))) ?_ ?_⟩
    · rintro i x σ H3 H4 hi ⟨rv, ix, bf, rfl, s3, hrv⟩ ⟨T, x1, x2, rfl, nT, rfl, e1, e2⟩
      cases (Option.some.inj e1).symm
      obtain ⟨wa, ewa, rfl⟩ := get_map e2
      obtain ⟨g, eg, hwa, _⟩ := pget hp ewa
      have s4 : Same H2 (upd H3 T (.tup [.int i, .ref wa])) := s3.trans (same_new nT)
      refine ⟨T, _, rfl, SqT.of upd_same, rfl, _, _, rfl, _, _, rfl, rfl, ?_⟩
      have keep : ∀ H5, Same H2 H5 → (rv < 0 → ¬ Rdy C idxs i g) → ∃ rv' ix bf, [some (V.ref c), some (.ref d), some (.ref D), some (.ref o), some (.ref pd), some (.int rv), some (.int i), some (.ref wa), none, none, none] = [some (.ref c), some (.ref d), some (.ref D), some (.ref o), some (.ref pd), some (.int rv'), ix, bf, none, none, none] ∧ Same H2 H5 ∧ ((rv' = -1 ∧ ∀ (j : Nat) g, j < i + 1 → C.gates[j]? = some g → ¬ Rdy C idxs j g) ∨ ∃ (r : Nat) (g : Gate), rv' = r ∧ C.gates[r]? = some g ∧ Rdy C idxs r g) := by
        intro H5 s5 hn
        refine ⟨rv, _, _, rfl, s5, ?_⟩
        rcases hrv with ⟨e, h⟩ | h
        · refine .inl ⟨e, fun j g' hj ej => ?_⟩
          by_cases z : j = i
          · subst z
            rw [eg] at ej
            cases ej
            exact hn (by omega)
          · exact h j g' (by omega) ej
        · exact .inr h
      refine ⟨.int rv, rfl, rv, 0, rfl, rfl, _, rfl, ite2 (fun h0 => ?_) (fun h0 => ?_)⟩
      rotate_left
      · exact keep _ s4 fun z => absurd (decide_eq_true z) h0
      have h0' : rv < 0 := of_decide_eq_true h0
      refine ⟨.int i, rfl, .ref pd, rfl, pd, _, rfl, DGet.k (k := Sum.inl (i : Int)) (s4 _ _ hpd), _, rfl, ite2 (fun hni => ?_) (fun hni => ?_)⟩
      rotate_left
      · refine keep _ s4 fun _ r => hni ?_
        rw [hpv, decide_eq_false r.1]
        rfl
      have hni' : i ∉ idxs := fun z => by
        rw [hpv, decide_eq_true z] at hni
        cases hni
      -- all([k in placed for k in before])
      refine ⟨.ref wa, rfl, wa, rfl, ⟨_, SqL.of (s4 _ _ (s2 _ _ hwa))⟩, fun D3 nD3 => lc_it walk_list
        (fun k H5 => Same H2 H5 ∧ H5 D3 = some (.lst (((deps C g).take k).map fun b => V.bl (decide (b ∈ idxs)))))
        ⟨s4.trans (same_new nD3), upd_same⟩ (fun k H5 _ ⟨s, _⟩ => SqL.of (s _ _ (s2 _ _ hwa))) ?_ ?_⟩
      · rintro k x H5 H6 hk ⟨s5, hD3⟩ ⟨rfl, ex⟩
        obtain ⟨b, eb, rfl⟩ := get_map ex
        refine ⟨rfl, ⟨.int b, rfl, .ref pd, rfl, pd, _, rfl, DGet.k (k := Sum.inl (b : Int)) (s5 _ _ hpd), _, hD3, ?_, s5.mutN ((s4).free nD3), ?_⟩⟩
        · have z := List.length_filterMap_le (dIx C) g.nets
          have := (W.shape g (List.mem_of_getElem? eg)).2.2.1
          rw [List.length_map, List.length_take]
          have : (deps C g).length ≤ g.nets.length := z
          exact szlt (by omega)
        · rw [upd_same, take_snoc eb, List.map_append, hpv]
          rfl
      · rintro H5 ⟨s5, hD3⟩
        refine ⟨D3, (deps C g).map fun b => decide (b ∈ idxs), rfl, SqL.of ?_, _, rfl, ite2 (fun hall => ?_) (fun hall => ?_)⟩
        · rw [hD3, List.length_map, List.take_of_length_le (Nat.le_refl _), List.map_map]
          rfl
        · refine ⟨_, rfl, (i : Int), _, _, rfl, s5, .inr ⟨i, g, rfl, eg, hni', fun b hb => ?_⟩⟩
          rw [List.all_map, List.all_eq_true] at hall
          exact of_decide_eq_true (hall b hb)
        · refine keep _ s5 fun _ r => hall ?_
          rw [List.all_map, List.all_eq_true]
          intro b hb
          exact decide_eq_true (r.2 b hb)
    · rintro σ H3 ⟨rv, ix, bf, rfl, s3, hrv⟩
      obtain ⟨r, g, rfl, eg, hr1, hr2⟩ : ∃ (r : Nat) (g : Gate), rv = r ∧ C.gates[r]? = some g ∧ Rdy C idxs r g := by
        rcases hrv with ⟨e, h⟩ | h
        · obtain ⟨j, g, ej, r⟩ := some_ready W hlt2
          exact absurd r (h j g (List.getElem?_eq_some_iff.mp ej).1 ej)
        · exact h
      have ho3 := s3 _ _ ho
      have hpd3 := s3 _ _ hpd
      refine ⟨.int r, rfl, r, 0, rfl, rfl, _, rfl, ite2 (fun h0 => ?_) (fun _ => ?_)⟩
      · have h0' : (r : Int) < 0 := of_decide_eq_true h0
        omega
      refine ⟨.ref pd, rfl, .int r, rfl, pd, _, rfl, DPut.k (k := Sum.inl (r : Int)) hpd3 (szlt (by omega)), ?_⟩
      have nop : o ≠ pd := npo.symm
      have ho4 : (upd H3 pd (.dK (putK kvs (Sum.inl (r : Int)) (.bl true)))) o = some (.lst (idxs.map nI)) := by rw [upd_ne nop]; exact ho3
      refine ⟨.ref o, rfl, .inl ⟨rfl, _, SqL.of ho4⟩, .int r, rfl, o, _, _, rfl, rfl, ho4, ?_, ?_⟩
      · rw [List.length_map]
        exact szlt (by omega)
      refine ⟨idxs ++ [r], _, _, _, rfl, by rw [List.length_append]; rfl, ?_, ?_, ⟨putK kvs (Sum.inl (r : Int)) (.bl true), ?_, ?_, fun a => ?_⟩, ht.snoc eg hr2, ?_⟩
      · exact Same.mutN (Same.mutN (Same.trans s2 s3) nwo) no
      · rw [upd_same, List.map_append]
        rfl
      · rw [upd_ne npo, upd_same]
      · have := length_putK kvs (Sum.inl (r : Int)) (.bl true)
        rw [List.length_append, List.length_singleton]
        omega
      · rw [valV_put]
        by_cases e : (Sum.inl (a : Int) : Key) = Sum.inl (r : Int)
        · have e' : a = r := Int.ofNat.inj (Sum.inl.inj e)
          rw [if_pos e, e']
          simp
        · have e' : a ≠ r := fun z => e (by rw [z])
          rw [if_neg e, hpv]
          simp [e']
      · exact List.nodup_append.mpr ⟨hnd, by simp, fun a ha b hb e => by
          rw [List.mem_singleton.mp hb] at e
          rw [e] at ha
          exact hr1 ha⟩
end
end L2.Sg

/-! settle -/
namespace L2.Sg
open PySem PySem.Spec PyProof.Rows L2.Lx
abbrev ssettle : Stmt := topS 21
theorem scsettle : FnScope ["circuit", "vector", "known", "index", "name", "table", "nets", "_", "net", "bit"] ["circuit", "vector"] (defScope ssettle) := ⟨rfl, rfl, rfl, by decide +kernel, rfl, by decide +kernel, by decide +kernel⟩

/-- the dict of settled values -/
def SvAt (H : Hp) (d : Addr) (C : Circ) (vec : List Bool) : Prop := ∃ kvs, H d = some (.dK kvs) ∧ ∀ n ∈ C.nets, valV kvs (Sum.inr n) = some (.bl (sv C vec n))
theorem SvAt.keep {H H' : Hp} {d : Addr} {C : Circ} {vec : List Bool} (x : SvAt H d C vec) (s : ∀ o, H d = some o → H' d = some o) : SvAt H' d C vec := let ⟨kvs, h, r⟩ := x; ⟨kvs, s _ h, r⟩
theorem nd_get {l : List Str} (hn : l.Nodup) {i j : Nat} {x : Str} (a : l[i]? = some x) (b : l[j]? = some x) : i = j := by
  rw [← findIdx_nd hn a, ← findIdx_nd hn b]
theorem idx_fits {C : Circ} {ord : List Gate} (W : Wf C ord) {g : Gate} (hg : g ∈ C.gates) (e : Str → Bool) : idx (g.nets.map e) < g.tab.length := by
  have h := idx_lt (g.nets.map e)
  rw [List.length_map] at h
  rw [(W.shape g hg).2.1]
  exact h
/-- what the nets of the i-th gate of an order are -/
theorem TopoI.nets {C : Circ} {ord : List Gate} (W : Wf C ord) {idxs : List Nat} (t : TopoI C idxs) {i a : Nat} {g : Gate} (e : idxs[i]? = some a) (eg : C.gates[a]? = some g) {n : Str} (hn : n ∈ g.nets) :
    n ∈ C.srcs ∨ ∃ j b g', j < i ∧ idxs[j]? = some b ∧ C.gates[b]? = some g' ∧ g'.name = n := by
  have hin := W.netIn (List.mem_of_getElem? eg) hn
  rcases List.mem_append.mp hin with h | h
  · exact .inl h
  · obtain ⟨g', hg', en⟩ := List.mem_map.mp h
    obtain ⟨b, hb, eb⟩ := List.mem_iff_getElem.mp hg'
    have eb' : C.gates[b]? = some g' := by rw [← eb]; exact List.getElem?_eq_getElem hb
    have hd : b ∈ deps C g := List.mem_filterMap.mpr ⟨n, hn, by rw [← en]; exact dIx_at W eb'⟩
    obtain ⟨g2, eg2, hj⟩ := t i a e
    rw [eg] at eg2
    cases eg2
    obtain ⟨j, hj1, hj2⟩ := hj b hd
    exact .inr ⟨j, b, g', hj1, hj2, eb', en⟩
section
variable {P : Program} {w : World} {K : PySem.W.Frag} {mg : Str → Option Value} {base : Heap} {f : Addr} {fd : FuncData}
def spSettle : Sp := fun vs H Q _ => ∃ (c v : Addr) (C : Circ) (ord : List Gate) (vec : List Bool), vs = [.ref c, .ref v] ∧ CircAt H c C ∧ Wf C ord ∧ H v = some (.tup (vec.map V.bl)) ∧ vec.length = C.srcs.length ∧
  ∀ d H', Same H H' → H d = none → SvAt H' d C vec → Q (.ref d) H'
theorem ok_settle (F : Fun K "settle" "settle" ssettle f fd) (B : Bt mg) (D_sources : Ok P w K mg base "sources" 1 ["circuit"] spSources) (D_gate_order : Ok P w K mg base "gate_order" 2 ["circuit"] spGateOrder)
    (D_look_up : Ok P w K mg base "look_up" 1 ["table", "bits"] spLookUp) : FnOk P w K mg base CX0 3 f fd ["circuit", "vector"] spSettle := by
  refine F.ok scsettle (fun vs H Q E h => ?_) (fun cdv A outer s H vs Q E hr h => ?_)
  · obtain ⟨_, _, _, _, _, rfl, _⟩ := h
    rfl
  obtain ⟨c, v, C, ord, vec, rfl, hc, W, hv, hvl, q⟩ := h
  refine ⟨_, (pss_cons (ps_set (i := 2) scsettle.nd rfl (Or.inr rfl) (pe_dc (own := [("net", 8), ("bit", 9)]) (g := (gTup K 2 (gCons (gName 8) (gCons (gName 9) gNil)))) (tt := tYes) rfl scsettle.nd (wZ2 false true K B.zip_ (pa_cons (wCall D_sources (hr.mono (by decide)) (pa_cons (pv 0) pa_nil)) (pa_cons (pv 1) pa_nil))) (blkOk_by (N := ["circuit", "vector", "known", "index", "name", "table", "nets", "_", "net", "bit"]) (sc := defScope ssettle) (by decide +kernel)) (fun _ _ _ _ _ => (wTupG K rfl (pgs_cons (pg_name (i := 8) scsettle.nd rfl (Or.inl rfl)) (pgs_cons (pg_name (i := 9) scsettle.nd rfl (Or.inl rfl)) pgs_nil)))) (fun _ _ _ _ _ => pts_nil) (fun _ _ _ _ _ => (pv 8)) (fun _ _ _ _ _ => (pv 9))))
      (pss_cons (ps_for PassesOwn.never rfl (wForL K (wCall D_gate_order (hr.mono (by decide)) (pa_cons (pv 0) pa_nil))) (pg_name (i := 3) scsettle.nd rfl (Or.inl rfl)) (pss_cons (ps_asg (wIxT K (wIxT K (pv 0) pe_int) (pv 3)) (wTupG K rfl (pgs_cons (pg_name (i := 4) scsettle.nd rfl (Or.inl rfl)) (pgs_cons (pg_name (i := 5) scsettle.nd rfl (Or.inl rfl)) (pgs_cons (pg_name (i := 6) scsettle.nd rfl (Or.inl rfl)) (pgs_cons (pg_name (i := 7) scsettle.nd rfl (Or.inl rfl)) pgs_nil))))))
      (pss_one (wDP hr.units (pv 2) (pv 4) (wCall D_look_up (hr.mono (by decide)) (pa_cons (pv 5) (pa_cons (pe_lc (own := [("net", 8)]) (g := (gName 8)) (tt := tYes) rfl scsettle.nd (wForT K (pv 6)) (blkOk_by (N := ["circuit", "vector", "known", "index", "name", "table", "nets", "_", "net", "bit"]) (sc := defScope ssettle) (by decide +kernel)) (fun _ _ _ _ _ => (pg_name (i := 8) scsettle.nd rfl (Or.inl rfl))) (fun _ _ _ _ _ => pts_nil) (fun _ _ _ _ _ => (wDG hr.units (pv 2) (pv 8)))) pa_nil)))))))
      (pss_one (ps_ret (pv 2))))), ?_⟩
  have few := W.few
  have sm := W.small
  have few2 := W.few2
  have hc0 := hc
  obtain ⟨ci, cg, cr, co, ga, ra, h1, h2, h3, h4, h5, h6⟩ := hc0
  refine ⟨.ref c, rfl, c, C, rfl, hc, by omega, fun p H1 s1 np hp => ⟨.ref v, rfl, p, v, _, _, rfl, SqL.of hp, SqT.of (s1 _ _ hv), fun D nD =>
    dc_it (walk_z2 (n := C.srcs.length) (List.length_map _) (by rw [List.length_map]; exact hvl))
    (fun i H2 => Same H1 H2 ∧ ∃ kvs, H2 D = some (.dK kvs) ∧ kvs.length ≤ i ∧ ∀ (j : Nat) x, j < i → C.srcs[j]? = some x → valV kvs (Sum.inr x) = some (.bl (sv C vec x)))
    ⟨same_new nD, [], upd_same, Nat.le_refl _, fun j x hj => absurd hj (by omega)⟩ (fun i H2 _ ⟨s, _⟩ => ⟨SqL.of (s _ _ hp), SqT.of (s _ _ (s1 _ _ hv))⟩) ?_ ?_⟩⟩
  · rintro i x H2 H3 hi ⟨s2, kvs, hD, hk, hval⟩ ⟨T, x1, x2, rfl, nT, rfl, e1, e2⟩
    obtain ⟨n, en, rfl⟩ := get_map e1
    obtain ⟨b, eb, rfl⟩ := get_map e2
    have s3 := s2.trans (same_new (o := .tup [.str n, .bl b]) nT)
    refine ⟨T, _, rfl, SqT.of upd_same, rfl, _, _, rfl, _, _, rfl, rfl, rfl, ?_⟩
    refine ⟨.str n, rfl, .bl b, rfl, kvs, Sum.inr n, rfl, same_new nT _ _ hD, szlt (by omega), s3.mutN nD, _, upd_same, Nat.le_trans (length_putK _ _ _) (by omega), fun j y hj ej => ?_⟩
    rw [valV_put]
    by_cases e : j = i
    · subst e
      rw [en] at ej
      cases ej
      rw [if_pos rfl, sv_src W en eb]
    · have ne : ¬ (Sum.inr y : Key) = Sum.inr n := fun z => e (nd_get W.snd ej (by rw [Sum.inr.inj z]; exact en))
      rw [if_neg ne]
      exact hval j y (by omega) ej
  rintro Hk ⟨sk, kvs0, hD0, hk0, hv0⟩
  have sHk := s1.trans sk
  refine ⟨.ref c, rfl, c, C, ord, rfl, hc.keep sHk.tupK, W, fun o H2 idxs s2 no ho ht hil hcov => ⟨o, rfl, ⟨_, SqL.of ho⟩, for_it walk_list
    (fun i σ H3 => ∃ y3 y4 y5 y6 y7, σ = [some (.ref c), some (.ref v), some (.ref D), y3, y4, y5, y6, y7, none, none] ∧ Same H1 H3 ∧ H3 o = some (.lst (idxs.map nI)) ∧ ∃ kvs, H3 D = some (.dK kvs) ∧ kvs.length ≤ 10 + i ∧
      (∀ x ∈ C.srcs, valV kvs (Sum.inr x) = some (.bl (sv C vec x))) ∧ ∀ (j b : Nat) g, j < i → idxs[j]? = some b → C.gates[b]? = some g → valV kvs (Sum.inr g.name) = some (.bl (sv C vec g.name)))
    ⟨none, none, none, none, none, rfl, sk.trans s2, ho, kvs0, s2 _ _ hD0, by omega, fun x hx => ?_, fun j b g hj => absurd hj (by omega)⟩ (fun i σ H3 _ ⟨_, _, _, _, _, _, _, h, _⟩ => SqL.of h) ?_ ?_⟩⟩
  · obtain ⟨j, hj, ej⟩ := List.mem_iff_getElem.mp hx
    exact hv0 j x hj (by rw [← ej]; exact List.getElem?_eq_getElem hj)
  · rintro i x σ H3 H4 hi ⟨y3, y4, y5, y6, y7, rfl, s3, ho3, kvs, hD3, hk3, hv3, hg3⟩ ⟨rfl, ex⟩
    obtain ⟨a, ea, rfl⟩ := get_map ex
    have sc := s1.trans s3
    obtain ⟨g, eg, _⟩ := ht i a ea
    have hg := List.mem_of_getElem? eg
    obtain ⟨gad, ega, t1, n1, r1, sa, hy1, hy2, hy3, hy4, hy5⟩ := pget2 h4 eg
    have nDo : D ≠ o := ne_of_none hD0 no
    refine ⟨.ref c, rfl, c, _, 1, _, rfl, rfl, SqT.of (sc _ _ h1), atI_nat (j := 1) rfl, .int a, rfl, cg, _, a, .ref gad, rfl, rfl, SqT.of (sc _ _ h3), atI_map ega, ?_⟩
    refine ⟨gad, _, rfl, SqT.of (sc _ _ hy1), rfl, _, _, rfl, _, _, rfl, _, _, rfl, _, _, rfl, rfl, ?_⟩
    have nets3 := (W.shape g hg).2.2.1
    refine ⟨.ref t1, rfl, .ref n1, rfl, n1, rfl, ⟨_, SqT.of (sc _ _ hy3)⟩, fun D3 nD3 => lc_it walk_tup
      (fun k H5 => Same H4 H5 ∧ H5 D3 = some (.lst (((g.nets.take k).map (sv C vec)).map V.bl)))
      ⟨same_new nD3, upd_same⟩ (fun k H5 _ ⟨s, _⟩ => SqT.of (s _ _ (sc _ _ hy3))) ?_ ?_⟩
    · rintro k x H5 H6 hk ⟨s5, hD5⟩ ⟨rfl, ex⟩
      obtain ⟨n, en, rfl⟩ := get_map ex
      have hval : valV kvs (Sum.inr n) = some (.bl (sv C vec n)) := by
        rcases ht.nets W ea eg (List.mem_of_getElem? en) with h | ⟨j, b, g', hj, ej, eg', hn'⟩
        · exact hv3 n h
        · rw [← hn']
          exact hg3 j b g' hj ej eg'
      refine ⟨rfl, ⟨.ref D, rfl, .str n, rfl, D, .bl (sv C vec n), rfl, (by rw [← hval]; exact DGet.k (k := Sum.inr n) (s5 _ _ hD3)), _, hD5, ?_, s5.mutN nD3, ?_⟩⟩
      · rw [List.length_map, List.length_map, List.length_take]
        exact szlt (by omega)
      · rw [upd_same, take_snoc en, List.map_append, List.map_append]
        rfl
    · rintro H5 ⟨s5, hD5⟩
      rw [List.length_map, List.take_of_length_le (Nat.le_refl _)] at hD5
      refine ⟨t1, D3, g.tab, g.nets.map (sv C vec), rfl, s5 _ _ (sc _ _ hy2), hD5, by rw [List.length_map]; omega, idx_fits W hg _, fun H6 s6 => ?_⟩
      have s56 := s5.trans s6
      refine ⟨.ref D, rfl, .str g.name, rfl, D, _, rfl, DPut.k (k := Sum.inr g.name) (s56 _ _ hD3) ?_, ?_⟩
      · rw [List.length_map] at hi
        exact szlt (by omega)
      refine ⟨_, _, _, _, _, rfl, (s3.trans s56).mutN nD, ?_, _, upd_same, Nat.le_trans (length_putK _ _ _) (by omega), fun x hx => ?_, fun j b g' hj ej eg' => ?_⟩
      · rw [upd_ne nDo.symm]
        exact s56 _ _ ho3
      · rw [valV_put]
        have ne : ¬ (Sum.inr x : Key) = Sum.inr g.name := fun z => W.apart hg (by rw [← Sum.inr.inj z]; exact hx)
        rw [if_neg ne]
        exact hv3 x hx
      · rw [valV_put]
        by_cases e : (Sum.inr g'.name : Key) = Sum.inr g.name
        · rw [if_pos e]
          have e' := W.uniq (List.mem_of_getElem? eg') hg (Sum.inr.inj e)
          subst e'
          rw [sv_gate W hg]
          rfl
        · rw [if_neg e]
          refine hg3 j b g' ?_ ej eg'
          by_cases z : j = i
          · subst z
            rw [ea] at ej
            cases ej
            rw [eg] at eg'
            cases eg'
            exact absurd rfl e
          · omega
  · rintro σ H3 ⟨y3, y4, y5, y6, y7, rfl, s3, ho3, kvs, hD3, hk3, hv3, hg3⟩
    refine ⟨.ref D, rfl, q D H3 (s1.trans s3) (s1.free nD) ⟨kvs, hD3, fun n hn => ?_⟩⟩
    rcases List.mem_append.mp hn with h | h
    · exact hv3 n h
    · obtain ⟨g, hg, en⟩ := List.mem_map.mp h
      obtain ⟨b, hb, eb⟩ := List.mem_iff_getElem.mp hg
      obtain ⟨j, hj, ej⟩ := List.mem_iff_getElem.mp (hcov b hb)
      rw [← en]
      exact hg3 j b g (by rw [List.length_map]; exact hj) (by rw [← ej]; exact List.getElem?_eq_getElem hj) (by rw [← eb]; exact List.getElem?_eq_getElem hb)
end
end L2.Sg

/-! the law's own sources, nets, sorted gates, settled values -/
namespace L2.Sg
open PySem PySem.Spec PyProof.Rows L2.Lx
abbrev s_law_sources : Stmt := topS 43
theorem sc_law_sources : FnScope ["_law_circuit_here", "_law_row"] ["_law_circuit_here"] (defScope s_law_sources) := ⟨rfl, rfl, rfl, by decide +kernel, rfl, by decide +kernel, by decide +kernel⟩
abbrev s_law_nets : Stmt := topS 44
theorem sc_law_nets : FnScope ["_law_circuit_here", "_law_gate_here"] ["_law_circuit_here"] (defScope s_law_nets) := ⟨rfl, rfl, rfl, by decide +kernel, rfl, by decide +kernel, by decide +kernel⟩
abbrev s_law_sorted_gates : Stmt := topS 45
theorem sc_law_sorted_gates : FnScope ["_law_circuit_here", "_law_placed", "_law_found", "_law_k", "_law_gate_here", "_law_net"] ["_law_circuit_here"] (defScope s_law_sorted_gates) := ⟨rfl, rfl, rfl, by decide +kernel, rfl, by decide +kernel, by decide +kernel⟩
abbrev s_law_settle : Stmt := topS 46
theorem sc_law_settle : FnScope ["_law_circuit_here", "_law_vector_here", "_law_names_here", "_law_values", "_law_k", "_law_gate_here", "_law_index"] ["_law_circuit_here", "_law_vector_here"] (defScope s_law_settle) := ⟨rfl, rfl, rfl, by decide +kernel, rfl, by decide +kernel, by decide +kernel⟩

section
variable {P : Program} {w : World} {K : PySem.W.Frag} {mg : Str → Option Value} {base : Heap} {f : Addr} {fd : FuncData}
theorem ok_law_sources (F : Fun K "_law_sources" "_law_sources" s_law_sources f fd) (B : Bt mg) : FnOk P w K mg base CX0 1 f fd ["_law_circuit_here"] spSources := by
  refine F.ok sc_law_sources (fun vs H Q E h => ?_) (fun cdv A outer s H vs Q E hr h => ?_)
  · obtain ⟨_, _, rfl, _⟩ := h
    rfl
  obtain ⟨c, C, rfl, ⟨ci, cg, cr, co, ga, ra, h1, h2, h3, h4, h5, h6⟩, hl, q⟩ := h
  refine ⟨_, (pss_one (ps_ret (pe_op op_cat (pe_callTy (cList K) (by rfl) B.list_ boot_list' (pa_cons (wIxT K (pv 0) pe_int) pa_nil)) (pe_lc (own := [("_law_row", 1)]) (g := (gName 1)) (tt := tYes) rfl sc_law_sources.nd (wForT K (wIxT K (pv 0) pe_int)) (blkOk_by (N := ["_law_circuit_here", "_law_row"]) (sc := defScope s_law_sources) (by decide +kernel)) (fun _ _ _ _ _ => (pg_name (i := 1) sc_law_sources.nd rfl (Or.inl rfl))) (fun _ _ _ _ _ => pts_nil) (fun _ _ _ _ _ => (wIxT K (pv 1) pe_int)))))), ?_⟩
  refine ⟨_, rfl, c, _, 0, _, rfl, rfl, SqT.of h1, atI_nat (j := 0) rfl, ci, _, rfl, .inr (SqT.of h2), fun l nl => ?_⟩
  have s1 : Same H (upd H l (.lst (C.ins.map V.str))) := same_new nl
  have lr := Paired.length h6
  rw [List.length_append] at hl
  refine ⟨_, rfl, c, _, 2, _, rfl, rfl, SqT.of (s1 _ _ h1), atI_nat (j := 2) rfl, cr, rfl, ⟨_, SqT.of (s1 _ _ h5)⟩, fun D nD => lc_it walk_tup
    (fun i H1 => Same H H1 ∧ H1 l = some (.lst (C.ins.map V.str)) ∧ H1 D = some (.lst ((C.regs.take i).map V.str)) ∧ D ≠ l ∧ H D = none)
    ⟨s1.trans (same_new nD), same_new nD _ _ upd_same, upd_same, (ne_of_none upd_same nD).symm, s1.free nD⟩ (fun i H1 _ ⟨s, _⟩ => SqT.of (s _ _ h5)) ?_ ?_⟩
  · rintro i x H1 H2 hi ⟨s, hl1, hD, ne, nD0⟩ ⟨rfl, ex⟩
    obtain ⟨a, ea, rfl⟩ := get_map ex
    obtain ⟨y, ey, rest, hy⟩ := pget h6 ea
    refine ⟨rfl, ⟨_, rfl, a, _, 0, _, rfl, rfl, SqT.of (s _ _ hy), atI_nat (j := 0) rfl, _, hD, ?_, s.mutN nD0, ?_, ?_, ne, nD0⟩⟩
    · rw [List.length_map, List.length_take]
      exact szlt (by omega)
    · rw [upd_ne ne.symm]
      exact hl1
    · rw [upd_same, take_snoc ey, List.map_append]
      rfl
  · rintro H1 ⟨s, hl1, hD, ne, nD0⟩
    refine ⟨l, D, _, _, rfl, rfl, hl1, hD, ?_, fun p np => ?_⟩
    · rw [List.length_map, List.length_map, List.length_take]
      exact szl (by omega)
    refine q p _ (s.trans (same_new np)) (s.free np) ?_
    rw [upd_same, List.length_map, List.take_of_length_le (by omega), ← List.map_append]
theorem ok_law_nets (F : Fun K "_law_nets" "_law_nets" s_law_nets f fd) (B : Bt mg) (D__law_sources : Ok P w K mg base "_law_sources" 1 ["_law_circuit_here"] spSources) : FnOk P w K mg base CX0 2 f fd ["_law_circuit_here"] spAllNets := by
  refine F.ok sc_law_nets (fun vs H Q E h => ?_) (fun cdv A outer s H vs Q E hr h => ?_)
  · obtain ⟨_, _, rfl, _⟩ := h
    rfl
  obtain ⟨c, C, rfl, hc, hl, q⟩ := h
  refine ⟨_, (pss_one (ps_ret (pe_op op_cat (wCall D__law_sources (hr.mono (by decide)) (pa_cons (pv 0) pa_nil)) (pe_lc (own := [("_law_gate_here", 1)]) (g := (gName 1)) (tt := tYes) rfl sc_law_nets.nd (wForT K (wIxT K (pv 0) pe_int)) (blkOk_by (N := ["_law_circuit_here", "_law_gate_here"]) (sc := defScope s_law_nets) (by decide +kernel)) (fun _ _ _ _ _ => (pg_name (i := 1) sc_law_nets.nd rfl (Or.inl rfl))) (fun _ _ _ _ _ => pts_nil) (fun _ _ _ _ _ => (wIxT K (pv 1) pe_int)))))), ?_⟩
  rw [List.length_append, List.length_map] at hl
  refine ⟨_, rfl, c, C, rfl, hc, by omega, fun l H0 s1 nl hl0 => ?_⟩
  obtain ⟨ci, cg, cr, co, ga, ra, h1, h2, h3, h4, h5, h6⟩ := hc
  have lr := Paired.length h4
  refine ⟨_, rfl, c, _, 1, _, rfl, rfl, SqT.of (s1 _ _ h1), atI_nat (j := 1) rfl, cg, rfl, ⟨_, SqT.of (s1 _ _ h3)⟩, fun D nD => lc_it walk_tup
    (fun i H1 => Same H H1 ∧ H1 l = some (.lst (C.srcs.map V.str)) ∧ H1 D = some (.lst ((C.gates.take i).map (fun g => V.str g.name))) ∧ D ≠ l ∧ H D = none)
    ⟨s1.trans (same_new nD), same_new nD _ _ hl0, upd_same, (ne_of_none hl0 nD).symm, s1.free nD⟩ (fun i H1 _ ⟨s, _⟩ => SqT.of (s _ _ h3)) ?_ ?_⟩
  · rintro i x H1 H2 hi ⟨s, hl1, hD, ne, nD0⟩ ⟨rfl, ex⟩
    obtain ⟨a, ea, rfl⟩ := get_map ex
    obtain ⟨g, eg, _, _, _, _, hy, _⟩ := pget h4 ea
    refine ⟨rfl, ⟨_, rfl, a, _, 0, _, rfl, rfl, SqT.of (s _ _ hy), atI_nat (j := 0) rfl, _, hD, ?_, s.mutN nD0, ?_, ?_, ne, nD0⟩⟩
    · rw [List.length_map, List.length_take]
      exact szlt (by omega)
    · rw [upd_ne ne.symm]
      exact hl1
    · rw [upd_same, take_snoc eg, List.map_append]
      rfl
  · rintro H1 ⟨s, hl1, hD, ne, nD0⟩
    refine ⟨l, D, _, _, rfl, rfl, hl1, hD, ?_, fun p np => ?_⟩
    · rw [List.length_map, List.length_map, List.length_take]
      exact szl (by omega)
    refine q p _ (s.trans (same_new np)) (s.free np) ?_
    rw [upd_same, List.length_map, List.take_of_length_le (by omega)]
    simp [Circ.nets, Circ.srcs, Function.comp_def]

/-! ### sorted gates -/
/-- gates in an order in which each stands behind what it reads -/
def TopoG (C : Circ) (fg : List Gate) : Prop := ∀ (i : Nat) g, fg[i]? = some g → g ∈ C.gates ∧ ∀ n ∈ g.nets, n ∈ C.srcs ++ (fg.take i).map Gate.name
theorem TopoG.snoc {C : Circ} {fg : List Gate} {g : Gate} (t : TopoG C fg) (hg : g ∈ C.gates) (h : ∀ n ∈ g.nets, n ∈ C.srcs ++ fg.map Gate.name) : TopoG C (fg ++ [g]) := by
  intro i x e
  by_cases hi : i < fg.length
  · rw [List.getElem?_append_left hi] at e
    obtain ⟨h1, h2⟩ := t i x e
    refine ⟨h1, fun n hn => ?_⟩
    rw [List.take_append_of_le_length (by omega)]
    exact h2 n hn
  · rw [List.getElem?_append_right (by omega)] at e
    have hz : i - fg.length = 0 := by
      have := (List.getElem?_eq_some_iff.mp e).1
      simp at this
      omega
    rw [hz] at e
    simp at e
    subst e
    refine ⟨hg, fun n hn => ?_⟩
    rw [List.take_append, List.take_of_length_le (by omega), hz]
    simpa using h n hn
theorem TopoG.few {C : Circ} {ord : List Gate} (W : Wf C ord) {fg : List Gate} (t : TopoG C fg) (hn : (fg.map Gate.name).Nodup) : fg.length ≤ C.gates.length := by
  have := nd_sub (l := fg.map Gate.name) (m := C.gates.map Gate.name) hn fun x hx => by
    obtain ⟨g, hg, e⟩ := List.mem_map.mp hx
    obtain ⟨i, hi, ei⟩ := List.mem_iff_getElem.mp hg
    exact List.mem_map.mpr ⟨g, (t i g (by rw [← ei]; exact List.getElem?_eq_getElem hi)).1, e⟩
  simpa using this
def spSorted : Sp := fun vs H Q _ => ∃ (c : Addr) (C : Circ) (ord : List Gate), vs = [.ref c] ∧ CircAt H c C ∧ Wf C ord ∧
  ∀ p H' (fa : List Addr) fg, Same H H' → H p = none → H' p = some (.lst (fa.map V.ref)) → Paired (GateAt H') fa fg → TopoG C fg → (∀ g ∈ C.gates, g ∈ fg) → fg.length ≤ C.gates.length → Q (.ref p) H'
/-- what stands between two turns: placed, found -/
structure SrtSt (H0 H : Hp) (C : Circ) (pl fo : Addr) (fg : List Gate) : Prop where
  same : Same H0 H
  hpl : H pl = some (.lst ((C.srcs ++ fg.map Gate.name).map V.str))
  hfo : ∃ fa : List Addr, H fo = some (.lst (fa.map V.ref)) ∧ Paired (GateAt H0) fa fg
  topo : TopoG C fg
  nd : (fg.map Gate.name).Nodup
theorem ok_sorted (F : Fun K "_law_sorted_gates" "_law_sorted_gates" s_law_sorted_gates f fd) (B : Bt mg) (D__law_sources : Ok P w K mg base "_law_sources" 1 ["_law_circuit_here"] spSources) : FnOk P w K mg base CX0 2 f fd ["_law_circuit_here"] spSorted := by
  refine F.ok sc_law_sorted_gates (fun vs H Q E h => ?_) (fun cdv A outer s H vs Q E hr h => ?_)
  · obtain ⟨_, _, _, rfl, _⟩ := h
    rfl
  obtain ⟨c, C, ord, rfl, hc, W, q⟩ := h
  refine ⟨_, (pss_cons (ps_set (i := 1) sc_law_sorted_gates.nd rfl (Or.inr rfl) (wCall D__law_sources (hr.mono (by decide)) (pa_cons (pv 0) pa_nil)))
      (pss_cons (ps_set (i := 2) sc_law_sorted_gates.nd rfl (Or.inl rfl) (pe_lst pa_nil))
      (pss_cons (ps_for PassesOwn.never rfl (pi_range1 rfl B.range_ (pa_cons (pe_callB (cLen K) (by rfl) B.len_ PySem.boot_len (pa_cons (wIxT K (pv 0) pe_int) pa_nil)) pa_nil)) (pg_name (i := 3) sc_law_sorted_gates.nd rfl (Or.inl rfl)) (pss_one (ps_for PassesOwn.never rfl (wForT K (wIxT K (pv 0) pe_int)) (pg_name (i := 4) sc_law_sorted_gates.nd rfl (Or.inl rfl)) (pss_one (ps_if (PW.pt (pw_and (tNi' K (wIxT K (pv 4) pe_int) (pv 1)) (pw_and1 (pt_cmpR op_eq (pe_callB (cLen K) (by rfl) B.len_ PySem.boot_len (pa_cons (pe_lc (own := [("_law_net", 5)]) (g := (gName 5)) rfl sc_law_sorted_gates.nd (wForT K (wIxT K (pv 4) pe_int)) (blkOk_by (N := ["_law_circuit_here", "_law_placed", "_law_found", "_law_k", "_law_gate_here", "_law_net"]) (sc := defScope s_law_sorted_gates) (by decide +kernel)) (fun _ _ _ _ _ => (pg_name (i := 5) sc_law_sorted_gates.nd rfl (Or.inl rfl))) (fun _ _ _ _ _ => (pts_one (tNi' K (pv 5) (pv 1)))) (fun _ _ _ _ _ => (pv 5))) pa_nil)) pe_int (nomark _))))) (pss_cons (ps_expr (pe_bm PySem.F.plainAttrs_list PySem.F.slot_list_append PySem.F.type_list_append mt_append (pv 1) (pa_cons (wIxT K (pv 4) pe_int) pa_nil)))
      (pss_one (ps_expr (pe_bm PySem.F.plainAttrs_list PySem.F.slot_list_append PySem.F.type_list_append mt_append (pv 2) (pa_cons (pv 4) pa_nil))))) pss_nil)))))
      (pss_one (ps_ret (pv 2)))))), ?_⟩
  have few := W.few
  have sm := W.small
  have few2 := W.few2
  have hc0 := hc
  obtain ⟨ci, cg, cr, co, ga, ra, h1, h2, h3, h4, h5, h6⟩ := hc0
  have lg := Paired.length h4
  refine ⟨.ref c, rfl, c, C, rfl, hc, by omega, fun pl H1 s1 npl hpl => ⟨Nat.zero_le _, fun fo nfo => ?_⟩⟩
  have npf : pl ≠ fo := ne_of_none hpl nfo
  refine ⟨.ref c, rfl, c, _, 1, _, rfl, rfl, SqT.of (same_new nfo _ _ (s1 _ _ h1)), atI_nat (j := 1) rfl, cg, _, rfl, .inr (SqT.of (same_new nfo _ _ (s1 _ _ h3))), (ga.map V.ref).length, rfl, by rw [List.length_map]; omega, by rw [List.length_map]; omega, ?_⟩
  rw [List.length_map, lg]
  refine for_range (fun k σ H2 => ∃ y3 y4 fg, σ = [some (.ref c), some (.ref pl), some (.ref fo), y3, y4, none] ∧ SrtSt H H2 C pl fo fg ∧ ∀ (j : Nat) g, j < k → ord[j]? = some g → g ∈ fg)
    ⟨none, none, [], rfl, ⟨s1.trans (same_new nfo), (by rw [upd_ne npf, hpl]; simp), ⟨[], upd_same, .nil⟩, (fun i g e => by simp at e), by simp⟩, fun j g hj => absurd hj (by omega)⟩ ?_ ?_
  · rintro k σ H2 hk ⟨y3, y4, fg, rfl, S, hcov⟩
    refine ⟨.ref c, rfl, c, _, 1, _, rfl, rfl, SqT.of (S.same _ _ h1), atI_nat (j := 1) rfl, cg, rfl, ⟨_, SqT.of (S.same _ _ h3)⟩, for_it walk_tup
      (fun i σ H3 => ∃ y4 fg, σ = [some (.ref c), some (.ref pl), some (.ref fo), some (.int (0 + k)), y4, none] ∧ SrtSt H H3 C pl fo fg ∧ (∀ (j : Nat) g, j < k → ord[j]? = some g → g ∈ fg) ∧ ∀ (j : Nat) g, j < i → C.gates[j]? = some g → ord[k]? = some g → g ∈ fg)
      ⟨y4, fg, rfl, S, hcov, fun j g hj => absurd hj (by omega)⟩ (fun i σ H3 _ ⟨_, _, _, S, _⟩ => SqT.of (S.same _ _ h3)) ?_ ?_⟩
    · rintro i x σ H3 H4 hi ⟨y4, fg, rfl, S, hcov, hin⟩ ⟨rfl, ex⟩
      obtain ⟨a, ea, rfl⟩ := get_map ex
      obtain ⟨g, eg, hga⟩ := pget h4 ea
      have hga0 := hga
      obtain ⟨t1, n1, r1, sa, hy1, hy2, hy3, hy4, hy5⟩ := hga0
      have hg := List.mem_of_getElem? eg
      have keep : ∀ H5, SrtSt H H5 C pl fo fg → (ord[k]? = some g → g ∈ fg) → ∃ y4 fg, [some (V.ref c), some (.ref pl), some (.ref fo), some (.int (0 + k)), some (.ref a), none] = [some (.ref c), some (.ref pl), some (.ref fo), some (.int (0 + k)), y4, none] ∧ SrtSt H H5 C pl fo fg ∧ (∀ (j : Nat) g, j < k → ord[j]? = some g → g ∈ fg) ∧ ∀ (j : Nat) g, j < i + 1 → C.gates[j]? = some g → ord[k]? = some g → g ∈ fg := by
        intro H5 S5 hh
        refine ⟨_, fg, rfl, S5, hcov, fun j g' hj ej ek => ?_⟩
        by_cases z : j = i
        · subst z
          rw [eg] at ej
          cases ej
          exact hh ek
        · exact hin j g' (by omega) ej ek
      refine ⟨.ref a, rfl, a, _, 0, _, rfl, rfl, SqT.of (S.same _ _ hy1), atI_nat (j := 0) rfl, .ref pl, rfl, pl, _, rfl, .inl (SqL.of S.hpl), rfl, flat_strs _, _, rfl, ite2 (fun hni => ?_) (fun hni => ?_)⟩
      rotate_left
      · refine keep _ S fun _ => ?_
        have h' : ¬ (!inV (.str g.name) ((C.srcs ++ fg.map Gate.name).map V.str)) = true := hni
        rw [inV_str] at h'
        have hm : g.name ∈ C.srcs ++ fg.map Gate.name := by
          apply Classical.byContradiction
          intro z
          rw [decide_eq_false z] at h'
          exact h' rfl
        rcases List.mem_append.mp hm with z | z
        · exact absurd z (W.apart hg)
        · obtain ⟨g', hg', en⟩ := List.mem_map.mp z
          obtain ⟨j, hj, ej⟩ := List.mem_iff_getElem.mp hg'
          have := W.uniq (S.topo j g' (by rw [← ej]; exact List.getElem?_eq_getElem hj)).1 hg en
          rw [← this]
          exact hg'
      have hnew : g.name ∉ C.srcs ++ fg.map Gate.name := fun z => by
        have h' : (!inV (.str g.name) ((C.srcs ++ fg.map Gate.name).map V.str)) = true := hni
        rw [inV_str, decide_eq_true z] at h'
        cases h'
      have nets3 := (W.shape g hg).2.2.1
      refine ⟨.ref a, rfl, a, _, 2, _, rfl, rfl, SqT.of (S.same _ _ hy1), atI_nat (j := 2) rfl, n1, rfl, ⟨_, SqT.of (S.same _ _ hy3)⟩, fun D nD => lc_it walk_tup
        (fun m H5 => Same H4 H5 ∧ H5 D = some (.lst (((g.nets.take m).filter fun n => decide (n ∉ C.srcs ++ fg.map Gate.name)).map V.str)))
        ⟨same_new nD, upd_same⟩ (fun m H5 _ ⟨s, _⟩ => SqT.of (s _ _ (S.same _ _ hy3))) ?_ ?_⟩
      · rintro m x H5 H6 hm ⟨s5, hD⟩ ⟨rfl, ex⟩
        obtain ⟨n, en, rfl⟩ := get_map ex
        refine ⟨rfl, ⟨.str n, rfl, .ref pl, rfl, pl, _, rfl, .inl (SqL.of (s5 _ _ S.hpl)), rfl, flat_strs _, _, rfl, ite2 (fun hn => ?_) (fun hn => ?_)⟩⟩
        · have h' : (!inV (.str n) ((C.srcs ++ fg.map Gate.name).map V.str)) = true := hn
          rw [inV_str] at h'
          have hd : decide (n ∉ C.srcs ++ fg.map Gate.name) = true := by
            rw [decide_not]
            exact h'
          refine ⟨.str n, rfl, _, hD, ?_, s5.mutN nD, ?_⟩
          · have z := List.length_filter_le (fun n => decide (n ∉ C.srcs ++ fg.map Gate.name)) (g.nets.take m)
            rw [List.length_take] at z
            rw [List.length_map]
            exact szlt (by omega)
          · rw [upd_same, take_snoc en, List.filter_append, List.map_append, List.filter_cons, if_pos hd]
            rfl
        · have h' : ¬ (!inV (.str n) ((C.srcs ++ fg.map Gate.name).map V.str)) = true := hn
          rw [inV_str, ← decide_not] at h'
          refine ⟨s5, ?_⟩
          rw [take_snoc en, List.filter_append, List.map_append, List.filter_cons, if_neg h']
          simpa using hD
      rintro H5 ⟨s5, hD⟩
      rw [List.length_map, List.take_of_length_le (Nat.le_refl _)] at hD
      have S5 : SrtSt H H5 C pl fo fg := ⟨S.same.trans s5, s5 _ _ S.hpl, let ⟨fa, h, p⟩ := S.hfo; ⟨fa, s5 _ _ h, p⟩, S.topo, S.nd⟩
      refine ⟨D, _, rfl, .inl (SqL.of hD), rfl, _, rfl, ite2 (fun h0 => ?_) (fun h0 => ?_)⟩
      · have h0' := i_eq h0
        have hnets : ∀ n ∈ g.nets, n ∈ C.srcs ++ fg.map Gate.name := fun n hn => by
          apply Classical.byContradiction
          intro z
          have hmem : n ∈ g.nets.filter fun n => decide (n ∉ C.srcs ++ fg.map Gate.name) := List.mem_filter.mpr ⟨hn, decide_eq_true z⟩
          have := List.length_pos_of_mem hmem
          rw [List.length_map] at h0'
          omega
        have tp := S5.topo.snoc hg hnets
        have nd' : ((fg ++ [g]).map Gate.name).Nodup := by
          rw [List.map_append]
          exact List.nodup_append.mpr ⟨S5.nd, by simp, fun x hx y hy e => by
            have hy' : y = g.name := by simpa using hy
            rw [hy'] at e
            rw [e] at hx
            exact hnew (List.mem_append_right _ hx)⟩
        have fw := S5.topo.few W S5.nd
        obtain ⟨fa, hfa, hpa⟩ := S5.hfo
        have nf0 : H fo = none := s1.free nfo
        have hfo2 : (upd H5 pl (.lst ((C.srcs ++ fg.map Gate.name).map V.str ++ [.str g.name]))) fo = some (.lst (fa.map V.ref)) := by rw [upd_ne npf.symm]; exact hfa
        refine ⟨.ref pl, rfl, .inl ⟨rfl, _, SqL.of S5.hpl⟩, .ref a, rfl, a, _, 0, _, rfl, rfl, SqT.of (S5.same _ _ hy1), atI_nat (j := 0) rfl, pl, _, _, rfl, rfl, S5.hpl, ?_, ?_⟩
        · rw [List.length_map, List.length_append, List.length_map]
          exact szlt (by omega)
        refine ⟨.ref fo, rfl, .inl ⟨rfl, _, SqL.of hfo2⟩, .ref a, rfl, fo, _, _, rfl, rfl, hfo2, ?_, ?_⟩
        · rw [List.length_map, Paired.length hpa]
          exact szlt (by omega)
        refine ⟨_, fg ++ [g], rfl, ⟨(S5.same.mutN npl).mutN nf0, ?_, ⟨fa ++ [a], ?_, Paired.snoc hpa hga⟩, tp, nd'⟩, fun j g' hj ej => List.mem_append_left _ (hcov j g' hj ej), fun j g' hj ej ek => ?_⟩
        · rw [upd_ne npf, upd_same]
          simp
        · rw [upd_same, List.map_append]
          rfl
        · by_cases z : j = i
          · subst z
            rw [eg] at ej
            cases ej
            simp
          · exact List.mem_append_left _ (hin j g' (by omega) ej ek)
      · refine keep _ S5 fun ek => absurd ?_ h0
        have e : g.nets.filter (fun n => decide (n ∉ C.srcs ++ fg.map Gate.name)) = [] := by
          rw [List.filter_eq_nil_iff]
          intro n hn hd
          refine of_decide_eq_true hd ?_
          rcases W.topo k g ek n hn with z | ⟨j, g', hj, ej, en⟩
          · exact List.mem_append_left _ z
          · exact List.mem_append_right _ (List.mem_map.mpr ⟨g', hcov j g' hj ej, en⟩)
        have e2 : ((g.nets.filter (fun n => decide (n ∉ C.srcs ++ fg.map Gate.name))).map V.str).length = 0 := by rw [e]; rfl
        show decide (V.int ((((g.nets.filter (fun n => decide (n ∉ C.srcs ++ fg.map Gate.name))).map V.str).length : Nat) : Int) = V.int 0) = true
        rw [e2]
        rfl
    · rintro σ H3 ⟨y4, fg, rfl, S, hcov, hin⟩
      refine ⟨_, y4, fg, rfl, S, fun j g hj ej => ?_⟩
      by_cases z : j = k
      · subst z
        obtain ⟨i, hi, ei⟩ := List.mem_iff_getElem.mp (W.in_of ej)
        exact hin i g (by rw [List.length_map]; omega) (by rw [← ei]; exact List.getElem?_eq_getElem hi) ej
      · exact hcov j g (by omega) ej
  · rintro σ H2 ⟨y3, y4, fg, rfl, S, hcov⟩
    obtain ⟨fa, hfa, hpa⟩ := S.hfo
    refine ⟨.ref fo, rfl, q fo H2 fa fg S.same (s1.free nfo) hfa (Paired.mapP hpa fun _ _ z => z.keep S.same.tupK) S.topo (fun g hg => ?_) (S.topo.few W S.nd)⟩
    obtain ⟨j, hj, ej⟩ := W.at hg
    exact hcov j g hj ej
end
end L2.Sg

/-! the law's own settled values -/
namespace L2.Sg
open PySem PySem.Spec PyProof.Rows L2.Lx
section
variable {P : Program} {w : World} {K : PySem.W.Frag} {mg : Str → Option Value} {base : Heap} {f : Addr} {fd : FuncData}
theorem isum_take (e : Str → Bool) (l : List Str) : ∀ m, m ≤ l.length → ((List.range m).map fun k => if ((l[k]?).map e) = some true then ((2 : Int) ^ k) else 0).sum = (idx ((l.take m).map e) : Int)
  | 0, _ => rfl
  | m + 1, h => by
    have em : l[m]? = some (l[m]'h) := List.getElem?_eq_getElem h
    generalize l[m]'h = a at em
    rw [List.range_succ, List.map_append, List.sum_append, isum_take e l m (by omega), take_snoc em, List.map_append]
    show _ + _ = ((idx ((l.take m).map e ++ [e a]) : Nat) : Int)
    rw [idx_snoc, List.length_map, List.length_take, Nat.min_eq_left (by omega)]
    simp only [List.map_cons, List.map_nil, em]
    cases h : e a <;> simp [h]
theorem isum_snoc (e : Str → Bool) (l : List Str) : ((List.range l.length).map fun k => if ((l[k]?).map e) = some true then ((2 : Int) ^ k) else 0).sum = (idx (l.map e) : Int) := by
  rw [isum_take e l l.length (Nat.le_refl _), List.take_of_length_le (Nat.le_refl _)]
theorem ok_law_settle (F : Fun K "_law_settle" "_law_settle" s_law_settle f fd) (B : Bt mg) (D__law_sources : Ok P w K mg base "_law_sources" 1 ["_law_circuit_here"] spSources) (D__law_sorted_gates : Ok P w K mg base "_law_sorted_gates" 2 ["_law_circuit_here"] spSorted) :
    FnOk P w K mg base CX0 3 f fd ["_law_circuit_here", "_law_vector_here"] spSettle := by
  refine F.ok sc_law_settle (fun vs H Q E h => ?_) (fun cdv A outer s H vs Q E hr h => ?_)
  · obtain ⟨_, _, _, _, _, rfl, _⟩ := h
    rfl
  obtain ⟨c, v, C, ord, vec, rfl, hc, W, hv, hvl, q⟩ := h
  refine ⟨_, (pss_cons (ps_set (i := 2) sc_law_settle.nd rfl (Or.inl rfl) (wCall D__law_sources (hr.mono (by decide)) (pa_cons (pv 0) pa_nil)))
      (pss_cons (ps_set (i := 3) sc_law_settle.nd rfl (Or.inr rfl) pe_dnewK)
      (pss_cons (ps_for PassesOwn.never rfl (pi_range1 rfl B.range_ (pa_cons (pe_callB (cLen K) (by rfl) B.len_ PySem.boot_len (pa_cons (pv 2) pa_nil)) pa_nil)) (pg_name (i := 4) sc_law_settle.nd rfl (Or.inl rfl)) (pss_one (wDP hr.units (pv 3) (wIxL K (pv 2) (pv 4)) (wIxT K (pv 1) (pv 4)))))
      (pss_cons (ps_for PassesOwn.never rfl (wForL K (wCall D__law_sorted_gates (hr.mono (by decide)) (pa_cons (pv 0) pa_nil))) (pg_name (i := 5) sc_law_settle.nd rfl (Or.inr rfl)) (pss_cons (ps_set (i := 6) sc_law_settle.nd rfl (Or.inl rfl) (pe_callB (cSum K) (by rfl) B.sum_ boot_sum' (pa_cons (pe_lc (own := [("_law_k", 4)]) (g := (gName 4)) (tt := tYes) rfl sc_law_settle.nd (pi_range1 rfl B.range_ (pa_cons (pe_callB (cLen K) (by rfl) B.len_ PySem.boot_len (pa_cons (wIxT K (pv 5) pe_int) pa_nil)) pa_nil)) (blkOk_by (N := ["_law_circuit_here", "_law_vector_here", "_law_names_here", "_law_values", "_law_k", "_law_gate_here", "_law_index"]) (sc := defScope s_law_settle) (by decide +kernel)) (fun _ _ _ _ _ => (pg_name (i := 4) sc_law_settle.nd rfl (Or.inl rfl))) (fun _ _ _ _ _ => pts_nil) (fun _ _ _ _ _ => (pe_op op_shl (pe_callTy (call_int1) (by rfl) B.int_ boot_int' (pa_cons (wDG hr.units (pv 3) (wIxT K (wIxT K (pv 5) pe_int) (pv 4))) pa_nil)) (pv 4)))) pa_nil)))
      (pss_one (wDP hr.units (pv 3) (wIxT K (pv 5) pe_int) (wIxT K (wIxT K (pv 5) pe_int) (pv 6))))))
      (pss_one (ps_ret (pv 3))))))), ?_⟩
  have few := W.few
  have sm := W.small
  have few2 := W.few2
  have hc0 := hc
  obtain ⟨ci, cg, cr, co, ga, ra, h1, h2, h3, h4, h5, h6⟩ := hc0
  refine ⟨.ref c, rfl, c, C, rfl, hc, by omega, fun p H1 s1 np hp => ?_⟩
  intro D nD
  refine ⟨.ref p, rfl, p, _, rfl, .inl (SqL.of (same_new nD _ _ hp)), _, rfl, by rw [List.length_map]; omega, by rw [List.length_map]; omega, ?_⟩
  rw [List.length_map, Int.toNat_natCast]
  refine for_range
    (fun i σ H2 => ∃ y4, σ = [some (.ref c), some (.ref v), some (.ref p), some (.ref D), y4, none, none] ∧ Same H1 H2 ∧ ∃ kvs, H2 D = some (.dK kvs) ∧ kvs.length ≤ i ∧ ∀ (j : Nat) x, j < i → C.srcs[j]? = some x → valV kvs (Sum.inr x) = some (.bl (sv C vec x)))
    ⟨none, rfl, same_new nD, [], upd_same, Nat.le_refl _, fun j x hj => absurd hj (by omega)⟩ ?_ ?_
  · rintro i σ H2 hi ⟨y4, rfl, s2, kvs, hD, hk, hval⟩
    have en : C.srcs[i]? = some C.srcs[i] := List.getElem?_eq_getElem hi
    have eb : vec[i]? = some vec[i] := List.getElem?_eq_getElem (by omega)
    generalize C.srcs[i] = n at en
    generalize vec[i] = b at eb
    refine ⟨.ref v, rfl, _, rfl, v, _, _, .bl b, rfl, rfl, SqT.of (s2 _ _ (s1 _ _ hv)), (by rw [Int.zero_add]; exact atI_map eb), .ref D, rfl, .ref p, rfl, _, rfl, p, _, _, .str n, rfl, rfl, SqL.of (s2 _ _ hp), (by rw [Int.zero_add]; exact atI_map en), D, _, rfl, DPut.k (k := Sum.inr n) hD (szlt (by omega)), ?_⟩
    refine ⟨_, rfl, s2.mutN nD, _, upd_same, Nat.le_trans (length_putK _ _ _) (by omega), fun j y hj ej => ?_⟩
    rw [valV_put]
    by_cases e : j = i
    · subst e
      rw [en] at ej
      cases ej
      rw [if_pos rfl, sv_src W en eb]
    · have ne : ¬ (Sum.inr y : Key) = Sum.inr n := fun z => e (nd_get W.snd ej (by rw [Sum.inr.inj z]; exact en))
      rw [if_neg ne]
      exact hval j y (by omega) ej
  rintro σ Hk ⟨y4, rfl, sk, kvs0, hD0, hk0, hv0⟩
  have sHk := s1.trans sk
  refine ⟨.ref c, rfl, c, C, ord, rfl, hc.keep sHk.tupK, W, fun o H2 fa fg s2 no ho hpg ht hall hfl => ⟨o, rfl, ⟨_, SqL.of ho⟩, for_it walk_list
    (fun i σ H3 => ∃ y4 y5 y6, σ = [some (.ref c), some (.ref v), some (.ref p), some (.ref D), y4, y5, y6] ∧ Same H1 H3 ∧ Same H2 (upd H3 D (.dK kvs0)) ∧ H3 o = some (.lst (fa.map V.ref)) ∧ ∃ kvs, H3 D = some (.dK kvs) ∧ kvs.length ≤ 10 + i ∧
      ∀ x ∈ C.srcs ++ (fg.take i).map Gate.name, valV kvs (Sum.inr x) = some (.bl (sv C vec x)))
    ⟨y4, none, none, rfl, sk.trans s2, ?_, ho, kvs0, s2 _ _ hD0, by omega, fun x hx => ?_⟩ (fun i σ H3 _ ⟨_, _, _, _, _, _, h, _⟩ => SqL.of h) ?_ ?_⟩⟩
  · intro b x e
    by_cases z : b = D
    · subst z
      rw [s2 _ _ hD0] at e
      cases e
      exact upd_same
    · rw [upd_ne z]
      exact e
  · obtain ⟨j, hj, ej⟩ := List.mem_iff_getElem.mp (show x ∈ C.srcs by simpa using hx)
    exact hv0 j x hj (by rw [← ej]; exact List.getElem?_eq_getElem hj)
  · rintro i x σ H3 H4 hi ⟨y4, y5, y6, rfl, s3, s3', ho3, kvs, hD3, hk3, hv3⟩ ⟨rfl, ex⟩
    obtain ⟨a, ea, rfl⟩ := get_map ex
    obtain ⟨g, eg, hga⟩ := pget hpg ea
    have sc := s1.trans s3
    obtain ⟨hg, hnets⟩ := ht i g eg
    obtain ⟨t1, n1, r1, sa, hy1, hy2, hy3, hy4, hy5⟩ := hga
    have k1 : ∀ (b : Addr) xs, H2 b = some (.tup xs) → H4 b = some (.tup xs) := fun b xs e => by
      have z : b ≠ D := fun z => by rw [z, s2 _ _ hD0] at e; cases e
      have := s3' _ _ e
      rw [upd_ne z] at this
      exact this
    have nDo : D ≠ o := ne_of_none hD0 no
    have nets3 := (W.shape g hg).2.2.1
    -- the comprehension
    refine ⟨.ref a, rfl, a, _, 2, _, rfl, rfl, SqT.of (k1 _ _ hy1), atI_nat (j := 2) rfl, n1, _, rfl, .inr (SqT.of (k1 _ _ hy3)), _, rfl, by rw [List.length_map]; omega, by rw [List.length_map]; omega, ?_⟩
    rw [List.length_map, Int.toNat_natCast]
    refine fun D3 nD3 => lc_it walk_range
      (fun k H5 => Same H4 H5 ∧ H5 D3 = some (.lst (((List.range k).map fun k => if ((g.nets[k]?).map (sv C vec)) = some true then ((2 : Int) ^ k) else 0).map V.int)))
      ⟨same_new nD3, upd_same⟩ (fun k H5 _ _ => True.intro) ?_ ?_
    · rintro k x H5 H6 hk ⟨s5, hD5⟩ ⟨rfl, rfl⟩
      have en : g.nets[k]? = some g.nets[k] := List.getElem?_eq_getElem hk
      generalize g.nets[k] = n at en
      have hval := hv3 n (hnets n (List.mem_of_getElem? en))
      refine ⟨rfl, .ref D, rfl, .ref a, rfl, a, _, 2, _, rfl, rfl, SqT.of (s5 _ _ (k1 _ _ hy1)), atI_nat (j := 2) rfl, _, rfl, n1, _, _, .str n, rfl, rfl, SqT.of (s5 _ _ (k1 _ _ hy3)), (by rw [Int.zero_add]; exact atI_map en), D, .bl (sv C vec n), rfl, (by rw [← hval]; exact DGet.k (k := Sum.inr n) (s5 _ _ hD3)), ?_⟩
      refine .inr ⟨_, rfl, _, rfl, _, _, rfl, rfl, ⟨by omega, by omega, by split <;> decide⟩, _, hD5, ?_, s5.mutN nD3, ?_⟩
      · rw [List.length_map, List.length_map, List.length_range]
        exact szlt (by omega)
      · rw [upd_same, List.range_succ, List.map_append, List.map_append]
        simp only [List.map_cons, List.map_nil]
        congr 4
        rw [en, Int.zero_add, Int.toNat_natCast]
        show _ = V.int (if some (sv C vec n) = some true then _ else _)
        cases sv C vec n <;> simp
    · rintro H5 ⟨s5, hD5⟩
      refine ⟨D3, _, rfl, SqL.of hD5, ?_⟩
      rw [isum_snoc (sv C vec) g.nets]
      refine ⟨.ref a, rfl, a, _, 1, _, rfl, rfl, SqT.of (s5 _ _ (k1 _ _ hy1)), atI_nat (j := 1) rfl, _, rfl, t1, _, _, .bl (sv C vec g.name), rfl, rfl, SqT.of (s5 _ _ (k1 _ _ hy2)), ?_, ?_⟩
      · refine atI_map ?_
        have z := idx_fits W hg (sv C vec)
        rw [sv_gate W hg, List.getElem?_eq_getElem z]
        unfold svStep
        rw [List.getD_eq_getElem?_getD, List.getElem?_eq_getElem z]
        rfl
      refine ⟨.ref D, rfl, .ref a, rfl, a, _, 0, _, rfl, rfl, SqT.of (s5 _ _ (k1 _ _ hy1)), atI_nat (j := 0) rfl, D, _, rfl, DPut.k (k := Sum.inr g.name) (s5 _ _ hD3) ?_, ?_⟩
      · rw [List.length_map, Paired.length hpg] at hi
        exact szlt (by omega)
      refine ⟨_, _, _, rfl, (s3.trans s5).mutN nD, ?_, ?_, _, upd_same, Nat.le_trans (length_putK _ _ _) (by omega), fun x hx => ?_⟩
      · intro b x e
        by_cases z : b = D
        · subst z
          rw [s2 _ _ hD0] at e
          cases e
          exact upd_same
        · have := s3' _ _ e
          rw [upd_ne z] at this
          rw [upd_ne z, upd_ne z]
          exact s5 _ _ this
      · rw [upd_ne nDo.symm]
        exact s5 _ _ ho3
      · rw [valV_put]
        by_cases e : (Sum.inr x : Key) = Sum.inr g.name
        · rw [if_pos e, Sum.inr.inj e]
        · rw [if_neg e]
          refine hv3 x ?_
          rw [take_snoc eg, List.map_append, ← List.append_assoc] at hx
          rcases List.mem_append.mp hx with z | z
          · exact z
          · exact absurd (by rw [List.mem_singleton.mp (show x ∈ [g.name] from z)]) e
  · rintro σ H3 ⟨y4, y5, y6, rfl, s3, s3', ho3, kvs, hD3, hk3, hv3⟩
    refine ⟨.ref D, rfl, q D H3 (s1.trans s3) (s1.free nD) ⟨kvs, hD3, fun n hn => hv3 n ?_⟩⟩
    rw [List.length_map, Paired.length hpg, List.take_of_length_le (Nat.le_refl _)]
    rcases List.mem_append.mp hn with h | h
    · exact List.mem_append_left _ h
    · obtain ⟨g, hg, en⟩ := List.mem_map.mp h
      exact List.mem_append_right _ (List.mem_map.mpr ⟨g, hall g hg, en⟩)
end
end L2.Sg

/-! waveforms -/
namespace L2.Sg
open PySem PySem.Spec PyProof.Rows L2.Lx
abbrev sWaveformU_initU : Stmt := inClass (topS 23) 0
theorem scWaveformU_initU : FnScope ["self", "start", "changes", "first", "second"] ["self", "start", "changes"] (defScope sWaveformU_initU) := ⟨rfl, rfl, rfl, by decide +kernel, rfl, by decide +kernel, by decide +kernel⟩
abbrev sWaveform_changes : Stmt := inClass (topS 23) 2
theorem scWaveform_changes : FnScope ["self"] ["self"] (defScope sWaveform_changes) := ⟨rfl, rfl, rfl, by decide +kernel, rfl, by decide +kernel, by decide +kernel⟩
abbrev sWaveform_value_at : Stmt := inClass (topS 23) 3
theorem scWaveform_value_at : FnScope ["self", "time", "many", "change"] ["self", "time"] (defScope sWaveform_value_at) := ⟨rfl, rfl, rfl, by decide +kernel, rfl, by decide +kernel, by decide +kernel⟩
abbrev sin_window : Stmt := topS 25
theorem scin_window : FnScope ["window", "time", "since", "until"] ["window", "time"] (defScope sin_window) := ⟨rfl, rfl, rfl, by decide +kernel, rfl, by decide +kernel, by decide +kernel⟩

theorem walk_z2m {k1 k2 : Bool} {K : PySem.W.Frag} {a b : Addr} {xs ys : List V} {n : Nat} (h : n = min xs.length ys.length) : Walk (Itz2 k1 k2 K a b) n (fun H => Sq k1 K H a xs ∧ Sq k2 K H b ys) (YPair (fun i => xs[i]?) (fun i => ys[i]?)) := by
  refine ⟨fun i _ hi q => ?_, fun _ q => ⟨xs, ys, q.1, q.2, h⟩, fun i H v H' _ q y => ?_⟩
  · exact ⟨xs, ys, xs[i]'(by omega), ys[i]'(by omega), q.1, q.2, List.getElem?_eq_getElem _, List.getElem?_eq_getElem _⟩
  · obtain ⟨T, x, z, h1, h2, h3, h4, h5⟩ := y
    exact ⟨T, x, z, h1, h2, h3, h4 xs q.1, h5 ys q.2⟩
/-! ### the mathematics -/
def cntW (chs : List Int) (t : Int) : Nat := (chs.filter fun c => decide (c ≤ t)).length
/-- the value of a wave -/
def wval (start : Bool) (chs : List Int) (t : Int) : Bool := start != (cntW chs t % 2 == 1)
abbrev Win := Option Int × Option Int
def wV : Option Int → V
  | none => .non
  | some i => .int i
def inW (x : Win) (t : Int) : Bool := (match x.1 with | none => true | some s => decide (s ≤ t)) && (match x.2 with | none => true | some u => decide (t < u))
def WinAt (H : Hp) (a : Addr) (x : Win) : Prop := H a = some (.tup [wV x.1, wV x.2])
/-- the class Waveform -/
structure WvC (K : PySem.W.Frag) (CW : Addr) : Prop where
  cls : Cls K CW
  nS : NoAttr K CW "_start"
  nC : NoAttr K CW "_changes"
abbrev fget (fs : List (Str × V)) (x : Str) : Option V := fs.lookup x
def WaveAt (CW : Addr) (H : Hp) (a : Addr) (start : Bool) (chs : List Int) : Prop := ∃ (dx t : Addr) (fs : List (Str × V)), H a = some (.ins CW dx fs) ∧ fget fs "_start" = some (.bl start) ∧ fget fs "_changes" = some (.ref t) ∧ fget fs "changes" = none ∧ fget fs "value_at" = none ∧ H t = some (.tup (chs.map V.int))
theorem WaveAt.keep {CW : Addr} {H H' : Hp} {a : Addr} {st : Bool} {chs : List Int} (x : WaveAt CW H a st chs) (t : TupK H H') (s : ∀ o, H a = some o → H' a = some o) : WaveAt CW H' a st chs :=
  let ⟨dx, tt, fs, h1, h2, h3, h4, h5, h6⟩ := x
  ⟨dx, tt, fs, s _ h1, h2, h3, h4, h5, t _ _ h6⟩
section
variable {P : Program} {w : World} {K : PySem.W.Frag} {mg : Str → Option Value} {base : Heap} {f : Addr} {fd : FuncData} {CW : Addr}
def spWInit (CW : Addr) : Sp := fun vs H Q _ => ∃ (x l dx : Addr) (st : Bool) (chs : List Int), vs = [.ref x, .bl st, .ref l] ∧ H x = some (.ins CW dx []) ∧ H l = some (.lst (chs.map V.int)) ∧ chs.Pairwise (· < ·) ∧ chs.length ≤ 1000 ∧
  ∀ H', But [x] H H' → WaveAt CW H' x st chs → Q .non H'
theorem ok_w_init (F : Fun K "__init__" "Waveform.__init__" sWaveformU_initU f fd) (B : Bt mg) (WC : WvC K CW) : FnOk P w K mg base CX0 1 f fd ["self", "start", "changes"] (spWInit CW) := by
  refine F.ok scWaveformU_initU (fun vs H Q E h => ?_) (fun cdv A outer s H vs Q E hr h => ?_)
  · obtain ⟨_, _, _, _, _, rfl, _⟩ := h
    rfl
  obtain ⟨x, l, dx, st, chs, rfl, hx, hl, hasc, hlen, q⟩ := h
  refine ⟨_, (pss_cons (ps_for PassesOwn.never rfl (wZ2 false false K B.zip_ (pa_cons (pv 2) (pa_cons (wSl K (pv 2) (po_some pe_int) po_none) pa_nil))) (wTupG K rfl (pgs_cons (pg_name (i := 3) scWaveformU_initU.nd rfl (Or.inl rfl)) (pgs_cons (pg_name (i := 4) scWaveformU_initU.nd rfl (Or.inl rfl)) pgs_nil))) (pss_one (ps_if (pt_cmpR op_ge (pv 3) (pv 4) (nomark _)) (pss_one ps_never) pss_nil)))
      (pss_cons (wSetF K (pv 0) (pv 1))
      (pss_one (wSetF K (pv 0) (pe_callTy (cTuple K) (by rfl) B.tuple_ boot_tuple' (pa_cons (pv 2) pa_nil)))))), ?_⟩
  refine ⟨.ref l, rfl, .ref l, rfl, ?_⟩
  refine ⟨1, rfl, l, _, rfl, SqL.of hl, fun p np => ⟨l, p, _, _, rfl, SqL.of (same_new np _ _ hl), SqL.of upd_same, ?_⟩⟩
  have nxl : x ≠ l := fun e => by rw [e, hl] at hx; cases hx
  refine for_it (walk_z2m rfl) (fun i σ H1 => ∃ y3 y4, σ = [some (.ref x), some (.bl st), some (.ref l), y3, y4] ∧ Same (upd H p (.lst (cutV (chs.map V.int) (some 1) none))) H1) ⟨none, none, rfl, Same.refl _⟩
    (fun i σ H1 _ ⟨_, _, _, s⟩ => ⟨SqL.of (s _ _ (same_new np _ _ hl)), SqL.of (s _ _ upd_same)⟩) ?_ ?_
  · rintro i y σ H1 H2 hi ⟨y3, y4, rfl, s⟩ ⟨T, x1, x2, rfl, nT, rfl, e1, e2⟩
    obtain ⟨a, ea, rfl⟩ := get_map e1
    have e2' : (chs.map V.int)[1 + i]? = some x2 := by
      unfold cutV at e2
      dsimp only at e2
      rw [List.getElem?_take] at e2
      split at e2
      · rw [List.getElem?_drop] at e2
        have z : HT.sIx (chs.map V.int).length 0 (some 1) = 1 ∨ (chs.map V.int).length = 0 := by
          unfold HT.sIx
          by_cases h0 : (chs.map V.int).length = 0
          · exact .inr h0
          · refine .inl ?_
            simp
            simp at h0
            have := List.length_pos_iff.mpr h0
            omega
        rcases z with z | z
        · rw [z] at e2
          exact e2
        · have := (List.getElem?_eq_some_iff.mp e1).1
          omega
      · cases e2
    obtain ⟨b, eb, rfl⟩ := get_map e2'
    have lt : a < b := by
      obtain ⟨h1, e1⟩ := List.getElem?_eq_some_iff.mp ea
      obtain ⟨h2, e2⟩ := List.getElem?_eq_some_iff.mp eb
      have := List.pairwise_iff_getElem.mp hasc i (1 + i) h1 h2 (by omega)
      omega
    refine ⟨T, _, rfl, SqT.of upd_same, rfl, _, _, rfl, _, _, rfl, rfl, ?_⟩
    refine ⟨.int a, rfl, .int b, rfl, a, b, rfl, rfl, _, rfl, ite2 (fun h => ?_) (fun _ => ?_)⟩
    · have := of_decide_eq_true h
      omega
    · exact ⟨_, _, rfl, s.trans (same_new nT)⟩
  · rintro σ H1 ⟨y3, y4, rfl, s⟩
    have sH : Same H H1 := Same.trans (same_new np) s
    have hx1 := sH _ _ hx
    refine ⟨.bl st, rfl, .ref x, rfl, x, CW, dx, _, rfl, hx1, WC.cls, WC.nS, by decide, ?_⟩
    have hl1 : upd H1 x (.ins CW dx (putF "_start" (.bl st) [])) l = some (.lst (chs.map V.int)) := by rw [upd_ne nxl.symm]; exact sH _ _ hl
    refine ⟨.ref l, rfl, l, _, rfl, .inl ⟨SqL.of hl1, fun t nt => ?_⟩⟩
    have ntx : t ≠ x := fun e => by rw [e, upd_same] at nt; cases nt
    refine ⟨.ref x, rfl, x, CW, dx, _, rfl, (by rw [upd_ne ntx.symm, upd_same]), WC.cls, WC.nC, by show (1 : Nat) < 1000; decide, ?_⟩
    refine q _ (((Same.but [x] sH).trans (But.mut (by simp))).trans ((But.new nt).trans (But.mut (by simp)))) ⟨dx, t, _, upd_same, rfl, rfl, rfl, rfl, ?_⟩
    rw [upd_ne ntx, upd_same]
def spWChanges (CW : Addr) : Sp := fun vs H Q _ => ∃ (x : Addr) (st : Bool) (chs : List Int), vs = [.ref x] ∧ WaveAt CW H x st chs ∧ ∀ p H', Same H H' → H p = none → H' p = some (.lst (chs.map V.int)) → Q (.ref p) H'
theorem ok_w_changes (F : Fun K "changes" "Waveform.changes" sWaveform_changes f fd) (B : Bt mg) (WC : WvC K CW) : FnOk P w K mg base CX0 1 f fd ["self"] (spWChanges CW) := by
  refine F.ok scWaveform_changes (fun vs H Q E h => ?_) (fun cdv A outer s H vs Q E hr h => ?_)
  · obtain ⟨_, _, _, rfl, _⟩ := h
    rfl
  obtain ⟨x, st, chs, rfl, ⟨dx, t, fs, h1, h2, h3, h4, h5, h6⟩, q⟩ := h
  refine ⟨_, (pss_one (ps_ret (pe_callTy (cList K) (by rfl) B.list_ boot_list' (pa_cons (wFld K (pv 0)) pa_nil)))), ?_⟩
  exact ⟨.ref x, rfl, x, CW, dx, fs, _, rfl, h1, WC.cls, WC.nC, h3, t, _, rfl, .inr (SqT.of h6), fun l nl => q l _ (same_new nl) nl upd_same⟩
def spWValueAt (CW : Addr) : Sp := fun vs H Q _ => ∃ (x : Addr) (st : Bool) (chs : List Int) (t : Int), vs = [.ref x, .int t] ∧ WaveAt CW H x st chs ∧ chs.length ≤ 1000 ∧ ∀ H', Same H H' → Q (.bl (wval st chs t)) H'
theorem ok_w_value_at (F : Fun K "value_at" "Waveform.value_at" sWaveform_value_at f fd) (B : Bt mg) (WC : WvC K CW) : FnOk P w K mg base CX0 1 f fd ["self", "time"] (spWValueAt CW) := by
  refine F.ok scWaveform_value_at (fun vs H Q E h => ?_) (fun cdv A outer s H vs Q E hr h => ?_)
  · obtain ⟨_, _, _, _, rfl, _⟩ := h
    rfl
  obtain ⟨x, st, chs, t, rfl, ⟨dx, tt, fs, h1, h2, h3, h4, h5, h6⟩, hl, q⟩ := h
  refine ⟨_, (pss_cons (ps_set (i := 2) scWaveform_value_at.nd rfl (Or.inl rfl) (pe_callB (cLen K) (by rfl) B.len_ PySem.boot_len (pa_cons (pe_lc (own := [("change", 3)]) (g := (gName 3)) rfl scWaveform_value_at.nd (wForT K (wFld K (pv 0))) (blkOk_by (N := ["self", "time", "many", "change"]) (sc := defScope sWaveform_value_at) (by decide +kernel)) (fun _ _ _ _ _ => (pg_name (i := 3) scWaveform_value_at.nd rfl (Or.inl rfl))) (fun _ _ _ _ _ => (pts_one (pt_cmpR op_le (pv 3) (pv 1) (nomark _)))) (fun _ _ _ _ _ => (pv 3))) pa_nil)))
      (pss_one (ps_ret (pe_cmpR op_ne (wFld K (pv 0)) (pe_cmpR op_eq (pe_op op_mod (pv 2) pe_int) pe_int (nomark _)) (nomark _))))), ?_⟩
  refine ⟨.ref x, rfl, x, CW, dx, fs, _, rfl, h1, WC.cls, WC.nC, h3, tt, rfl, ⟨_, SqT.of h6⟩, fun D nD => lc_it walk_tup
    (fun i H1 => Same H H1 ∧ H1 D = some (.lst (((chs.take i).filter fun c => decide (c ≤ t)).map V.int))) ⟨same_new nD, upd_same⟩ (fun i H1 _ ⟨s, _⟩ => SqT.of (s _ _ h6)) ?_ ?_⟩
  · rintro i y H1 H2 hi ⟨s, hD⟩ ⟨rfl, ex⟩
    obtain ⟨c, ec, rfl⟩ := get_map ex
    refine ⟨rfl, .int c, rfl, .int t, rfl, c, t, rfl, rfl, _, rfl, ite2 (fun h => ?_) (fun h => ?_)⟩
    · refine ⟨.int c, rfl, _, hD, ?_, s.mutN nD, ?_⟩
      · have z := List.length_filter_le (fun c => decide (c ≤ t)) (chs.take i)
        rw [List.length_take] at z
        rw [List.length_map]
        exact szlt (by omega)
      · rw [upd_same, take_snoc ec, List.filter_append, List.map_append, List.filter_cons, if_pos h]
        rfl
    · refine ⟨s, ?_⟩
      rw [take_snoc ec, List.filter_append, List.map_append, List.filter_cons, if_neg h]
      simpa using hD
  · rintro H1 ⟨s, hD⟩
    rw [List.length_map, List.take_of_length_le (Nat.le_refl _)] at hD
    refine ⟨D, _, rfl, .inl (SqL.of hD), .ref x, rfl, x, CW, dx, fs, _, rfl, s _ _ h1, WC.cls, WC.nS, h2, _, rfl, _, 2, rfl, rfl, (show (0 : Int) < 2 by decide), rfl, ?_⟩
    have r := q _ s
    have e : wval st chs t = !decide (V.bl st = V.bl (decide (V.int ((((chs.filter fun c => decide (c ≤ t)).map V.int).length : Nat) % 2 : Int) = V.int 1))) := by
      unfold wval cntW
      rw [List.length_map]
      have z : ((chs.filter fun c => decide (c ≤ t)).length % 2 == 1) = decide (V.int (((chs.filter fun c => decide (c ≤ t)).length : Nat) % 2 : Int) = V.int 1) := by
        by_cases h : (chs.filter fun c => decide (c ≤ t)).length % 2 = 1
        · rw [beq_iff_eq.mpr h, decide_eq_true]
          congr 1
          omega
        · rw [beq_eq_false_iff_ne.mpr h, decide_eq_false]
          intro e
          have := V.int.inj e
          omega
      rw [z]
      generalize decide (V.int (((chs.filter fun c => decide (c ≤ t)).length : Nat) % 2 : Int) = V.int 1) = b
      cases st <;> cases b <;> rfl
    rw [e] at r
    exact ⟨rfl, r⟩
def spInWindow : Sp := fun vs H Q _ => ∃ (a : Addr) (x : Win) (t : Int), vs = [.ref a, .int t] ∧ WinAt H a x ∧ Q (.bl (inW x t)) H
theorem ok_in_window (F : Fun K "in_window" "in_window" sin_window f fd) (B : Bt mg) : FnOk P w K mg base CX0 1 f fd ["window", "time"] spInWindow := by
  refine F.ok scin_window (fun vs H Q E h => ?_) (fun cdv A outer s H vs Q E hr h => ?_)
  · obtain ⟨_, _, _, rfl, _⟩ := h
    rfl
  obtain ⟨a, ⟨sx, ux⟩, t, rfl, ha, q⟩ := h
  refine ⟨_, (pss_cons (ps_asg (pv 0) (wTupG K rfl (pgs_cons (pg_name (i := 2) scin_window.nd rfl (Or.inl rfl)) (pgs_cons (pg_name (i := 3) scin_window.nd rfl (Or.inl rfl)) pgs_nil))))
      (pss_one (ps_ret (pe_and (pe_or (pe_cmp (pc_isN (pv 2)) rfl) (pe_one (pe_cmpR op_le (pv 2) (pv 1) (nomark _)))) (pe_one (pe_or (pe_cmp (pc_isN (pv 3)) rfl) (pe_one (pe_cmpR op_lt (pv 1) (pv 3) (nomark _))))))))), ?_⟩
  refine ⟨.ref a, rfl, a, _, rfl, SqT.of ha, rfl, _, _, rfl, _, _, rfl, rfl, ?_⟩
  have isn : ∀ i : Int, ¬ decide (V.int i = V.non) = true := fun i h => nomatch of_decide_eq_true h
  have is0 : decide (V.non = V.non) = true := decide_eq_true rfl
  cases sx with
  | none =>
    refine ⟨.non, rfl, _, rfl, ite2 (fun _ => ⟨true, rfl, ?_⟩) (fun h => absurd is0 h)⟩
    cases ux with
    | none => exact ⟨.non, rfl, _, rfl, ite2 (fun _ => q) (fun h => absurd is0 h)⟩
    | some u => exact ⟨.int u, rfl, _, rfl, ite2 (fun h => absurd h (isn u)) (fun _ => ⟨.int t, rfl, .int u, rfl, t, u, rfl, rfl, q⟩)⟩
  | some s =>
    refine ⟨.int s, rfl, _, rfl, ite2 (fun h => absurd h (isn s)) (fun _ => ⟨.int s, rfl, .int t, rfl, s, t, rfl, rfl, _, rfl, ite2 (fun h => ?_) (fun h => ?_)⟩)⟩
    · cases ux with
      | none =>
        have e : inW (some s, none) t = true := by
          show (decide (s ≤ t) && true) = true
          rw [show decide (s ≤ t) = true from h]; rfl
        rw [e] at q
        exact ⟨.non, rfl, _, rfl, ite2 (fun _ => q) (fun h => absurd is0 h)⟩
      | some u =>
        have e : inW (some s, some u) t = decide (t < u) := by
          show (decide (s ≤ t) && decide (t < u)) = _
          rw [show decide (s ≤ t) = true from h]; rfl
        rw [e] at q
        exact ⟨.int u, rfl, _, rfl, ite2 (fun h => absurd h (isn u)) (fun _ => ⟨.int t, rfl, .int u, rfl, t, u, rfl, rfl, q⟩)⟩
    · have e : inW (some s, ux) t = false := by
        have h' : decide (s ≤ t) = false := Bool.eq_false_iff.mpr h
        show (decide (s ≤ t) && _) = false
        rw [h']; rfl
      rw [e] at q
      exact q
end
end L2.Sg

/-! waveforms: holds, of_bits -/
namespace L2.Sg
open PySem PySem.Spec PyProof.Rows L2.Lx
abbrev sholds : Stmt := topS 26
theorem scholds : FnScope ["waveform", "value", "window", "since", "until", "marks", "time"] ["waveform", "value", "window"] (defScope sholds) := ⟨rfl, rfl, rfl, by decide +kernel, rfl, by decide +kernel, by decide +kernel⟩
abbrev sWaveform_of_bits : Stmt := inClass (topS 23) 12
theorem scWaveform_of_bits : FnScope ["cls", "first", "bits", "before", "after", "changes", "value", "k", "bit"] ["cls", "first", "bits", "before", "after"] (defScope sWaveform_of_bits) := ⟨rfl, rfl, rfl, by decide +kernel, rfl, by decide +kernel, by decide +kernel⟩

theorem cntW_snoc (chs : List Int) (c t : Int) : cntW (chs ++ [c]) t = cntW chs t + if c ≤ t then 1 else 0 := by
  unfold cntW
  rw [List.filter_append, List.length_append]
  by_cases h : c ≤ t
  · rw [if_pos h]; simp [h]
  · rw [if_neg h]; simp [h]
theorem wval_snoc (st : Bool) (chs : List Int) (c t : Int) : wval st (chs ++ [c]) t = if c ≤ t then !wval st chs t else wval st chs t := by
  unfold wval
  rw [cntW_snoc]
  by_cases h : c ≤ t
  · rw [if_pos h, if_pos h]
    rcases Nat.mod_two_eq_zero_or_one (cntW chs t) with e | e
    · rw [show (cntW chs t + 1) % 2 = 1 by omega, e]; cases st <;> rfl
    · rw [show (cntW chs t + 1) % 2 = 0 by omega, e]; cases st <;> rfl
  · rw [if_neg h, if_neg h, Nat.add_zero]
section
variable {P : Program} {w : World} {K : PySem.W.Frag} {mg : Str → Option Value} {base : Heap} {f : Addr} {fd : FuncData} {CW : Addr}
/-- what of_bits makes -/
def bitAt (first : Int) (bits : List Bool) (before after : Bool) (t : Int) : Bool := (before :: (bits ++ [after])).getD (min (t - first + 1).toNat (bits.length + 1)) false
def spOfBits (CW : Addr) : Sp := fun vs H Q _ => ∃ (b : Addr) (first : Int) (bits : List Bool) (before after : Bool), vs = [.ref CW, .int first, .ref b, .bl before, .bl after] ∧ H b = some (.lst (bits.map V.bl)) ∧ bits.length ≤ 500 ∧
  ∀ x H' chs, Same H H' → H x = none → WaveAt CW H' x before chs → chs.length ≤ 1000 → (∀ t, wval before chs t = bitAt first bits before after t) → Q (.ref x) H'
theorem ok_of_bits (F : Fun K "of_bits" "Waveform.of_bits" sWaveform_of_bits f fd) (B : Bt mg) (D_Waveform : COk P w K mg base "Waveform" CW 1 ["self", "start", "changes"] (spWInit CW)) : FnOk P w K mg base CX0 3 f fd ["cls", "first", "bits", "before", "after"] (spOfBits CW) := by
  refine F.ok scWaveform_of_bits (fun vs H Q E h => ?_) (fun cdv A outer s H vs Q E hr h => ?_)
  · obtain ⟨_, _, _, _, _, rfl, _⟩ := h
    rfl
  obtain ⟨b, first, bits, before, after, rfl, hb, hl, q⟩ := h
  refine ⟨_, (pss_cons (ps_set (i := 5) scWaveform_of_bits.nd rfl (Or.inl rfl) (pe_lst pa_nil))
      (pss_cons (ps_set (i := 6) scWaveform_of_bits.nd rfl (Or.inl rfl) (pv 3))
      (pss_cons (ps_for PassesOwn.never rfl (wEn false K B.enumerate_ (pa_cons (pe_op op_cat (pe_callTy (cList K) (by rfl) B.list_ boot_list' (pa_cons (pv 2) pa_nil)) (pe_lst (pa_cons (pv 4) pa_nil))) pa_nil)) (wTupG K rfl (pgs_cons (pg_name (i := 7) scWaveform_of_bits.nd rfl (Or.inl rfl)) (pgs_cons (pg_name (i := 8) scWaveform_of_bits.nd rfl (Or.inl rfl)) pgs_nil))) (pss_one (ps_if (pt_cmpR op_ne (pv 8) (pv 6) (nomark _)) (pss_cons (ps_expr (pe_bm PySem.F.plainAttrs_list PySem.F.slot_list_append PySem.F.type_list_append mt_append (pv 5) (pa_cons (pe_op op_add (pv 1) (pv 7)) pa_nil)))
      (pss_one (ps_set (i := 6) scWaveform_of_bits.nd rfl (Or.inl rfl) (pv 8)))) pss_nil)))
      (pss_one (ps_ret (wMakeL (i := 0) D_Waveform (hr.mono (by decide)) (pa_cons (pv 3) (pa_cons (pv 5) pa_nil)))))))), ?_⟩
  refine ⟨Nat.zero_le _, fun l nl => ⟨_, rfl, ?_⟩⟩
  refine ⟨.ref b, rfl, b, _, rfl, .inl (SqL.of (same_new nl _ _ hb)), fun l2 n2 => ⟨_, rfl, szl (n := 1) (by decide), fun z nz => ?_⟩⟩
  have nz2 : l2 ≠ z := ne_of_none upd_same nz
  refine ⟨l2, z, _, _, rfl, rfl, same_new nz _ _ upd_same, upd_same, ?_, fun m nm => ?_⟩
  · rw [List.length_map]; exact szl (by show bits.length + 1 ≤ 100000; omega)
  have e0 : bits.map V.bl ++ [V.bl after] = (bits ++ [after]).map V.bl := by rw [List.map_append]; rfl
  rw [e0]
  have s0 : Same (upd H l (.lst [])) (upd (upd (upd (upd H l (.lst [])) l2 (.lst (bits.map V.bl))) z (.lst [V.bl after])) m (.lst ((bits ++ [after]).map V.bl))) := ((same_new n2).trans (same_new nz)).trans (same_new nm)
  have nlm : l ≠ m := ne_of_none (((same_new n2).trans (same_new nz)) _ _ upd_same) nm
  refine ⟨m, _, rfl, SqL.of upd_same, for_it (walk_en (List.length_map _)) (fun i σ H1 => ∃ v y7 y8 chs, σ = [some (.ref CW), some (.int first), some (.ref b), some (.bl before), some (.bl after), some (.ref l), some (.bl v), y7, y8] ∧ Same H H1 ∧ H1 m = some (.lst ((bits ++ [after]).map V.bl)) ∧ H1 l = some (.lst (chs.map V.int)) ∧
      v = (before :: (bits ++ [after])).getD i false ∧ chs.length ≤ i ∧ chs.Pairwise (· < ·) ∧ (∀ c ∈ chs, c < first + i) ∧ ∀ t, wval before chs t = (before :: (bits ++ [after])).getD (min (t - first + 1).toNat i) false)
    ⟨before, none, none, [], rfl, (same_new nl).trans s0, upd_same, s0 _ _ upd_same, rfl, Nat.le_refl _, .nil, fun c h => (nomatch h), fun t => ?_⟩ (fun i σ H1 _ ⟨_, _, _, _, _, _, h, _⟩ => SqL.of h) ?_ ?_⟩
  · rw [Nat.min_zero]
    show (before != false) = before
    cases before <;> rfl
  · rintro i x σ H1 H2 hi ⟨v, y7, y8, chs, rfl, s1, hm, hch, hv, hcl, hasc, hbd, hw⟩ ⟨T, x1, x2, rfl, nT, rfl, e1, e2⟩
    cases (Option.some.inj e1).symm
    obtain ⟨bit, eb, rfl⟩ := get_map e2
    have s2 := s1.trans (same_new (o := .tup [.int i, .bl bit]) nT)
    have hm2 := same_new (o := .tup [.int i, .bl bit]) nT _ _ hm
    have hch2 := same_new (o := .tup [.int i, .bl bit]) nT _ _ hch
    have ebit : (before :: (bits ++ [after])).getD (i + 1) false = bit := by
      rw [List.getD_cons_succ, List.getD_eq_getElem?_getD, eb]; rfl
    refine ⟨T, _, rfl, SqT.of upd_same, rfl, _, _, rfl, _, _, rfl, rfl, ?_⟩
    refine ⟨.bl bit, rfl, .bl v, rfl, rfl, _, rfl, ite2 (fun hne => ?_) (fun heq => ?_)⟩
    · have hbv : bit = !v := by
        have := v_ne hne
        cases bit <;> cases v <;> first | rfl | exact absurd rfl this
      refine ⟨.ref l, rfl, .inl ⟨rfl, _, SqL.of hch2⟩, .int first, rfl, .int i, rfl, first, i, rfl, rfl, l, _, _, rfl, rfl, hch2, ?_, ?_⟩
      · rw [List.length_map]
        exact szlt (by simp at hi; omega)
      refine ⟨.bl bit, rfl, bit, _, _, chs ++ [first + i], rfl, s2.mutN nl, ?_, ?_, ebit.symm, ?_, ?_, ?_, fun t => ?_⟩
      · rw [upd_ne nlm.symm]; exact hm2
      · rw [upd_same, List.map_append]; rfl
      · rw [List.length_append, List.length_singleton]; omega
      · refine List.pairwise_append.mpr ⟨hasc, List.pairwise_singleton _ _, fun c hc d hd => ?_⟩
        rw [List.mem_singleton.mp hd]
        exact hbd c hc
      · intro c hc
        rcases List.mem_append.mp hc with z | z
        · have := hbd c z
          omega
        · rw [List.mem_singleton.mp z]
          omega
      · rw [wval_snoc, hw]
        by_cases h : first + i ≤ t
        · rw [if_pos h, show min (t - first + 1).toNat i = i by omega, show min (t - first + 1).toNat (i + 1) = i + 1 by omega, ebit, ← hv, hbv]
        · rw [if_neg h, show min (t - first + 1).toNat i = min (t - first + 1).toNat (i + 1) by omega]
    · have hbv : bit = v := V.bl.inj (v_nne heq)
      refine ⟨v, _, _, chs, rfl, s2, hm2, hch2, by rw [ebit, hbv], by omega, hasc, fun c hc => ?_, fun t => ?_⟩
      · have := hbd c hc
        omega
      · rw [hw]
        by_cases h : first + i ≤ t
        · rw [show min (t - first + 1).toNat i = i by omega, show min (t - first + 1).toNat (i + 1) = i + 1 by omega, ebit, ← hv, hbv]
        · rw [show min (t - first + 1).toNat i = min (t - first + 1).toNat (i + 1) by omega]
  · rintro σ H1 ⟨v, y7, y8, chs, rfl, s1, hm, hch, hv, hcl, hasc, hbd, hw⟩
    rw [List.length_append, List.length_singleton] at hcl
    rw [List.length_append, List.length_singleton] at hw
    refine ⟨rfl, _, rfl, .ref l, rfl, fun x dx nx nd ne => ?_⟩
    have nxn : (upd H1 dx (.own x)) x = none := by rw [upd_ne ne.symm]; exact nx
    have sA : Same H1 (upd (upd H1 dx (.own x)) x (.ins CW dx [])) := (same_new nd).trans (same_new nxn)
    refine ⟨x, l, dx, before, chs, rfl, upd_same, sA _ _ hch, hasc, by omega, fun H3 b3 hwv => ⟨rfl, q x H3 chs (s1.trans ?_) (s1.free nx) hwv (by omega) hw⟩⟩
    exact fun c o e => b3 c o (sA _ _ e) (fun z => by rw [List.mem_singleton.mp z, nx] at e; cases e)
def spHolds (CW : Addr) : Sp := fun vs H Q _ => ∃ (x a : Addr) (st : Bool) (chs : List Int) (v : Bool) (wn : Win), vs = [.ref x, .bl v, .ref a] ∧ WaveAt CW H x st chs ∧ chs.length ≤ 1000 ∧ WinAt H a wn ∧ (∀ t, inW wn t = true → wval st chs t = v) ∧ ∀ H', Same H H' → Q (.bl true) H'
theorem ok_holds (F : Fun K "holds" "holds" sholds f fd) (B : Bt mg) (D_in_window : Ok P w K mg base "in_window" 1 ["window", "time"] spInWindow) (D_changes : MOk P w K mg base CW "changes" 1 ["self"] (spWChanges CW)) (D_value_at : MOk P w K mg base CW "value_at" 1 ["self", "time"] (spWValueAt CW)) :
    FnOk P w K mg base CX0 2 f fd ["waveform", "value", "window"] (spHolds CW) := by
  refine F.ok scholds (fun vs H Q E h => ?_) (fun cdv A outer s H vs Q E hr h => ?_)
  · obtain ⟨_, _, _, _, _, _, rfl, _⟩ := h
    rfl
  obtain ⟨x, a, st, chs, v, ⟨sx, ux⟩, rfl, hw, hl, ha, hin, q⟩ := h
  refine ⟨_, (pss_cons (ps_asg (pv 2) (wTupG K rfl (pgs_cons (pg_name (i := 3) scholds.nd rfl (Or.inl rfl)) (pgs_cons (pg_name (i := 4) scholds.nd rfl (Or.inl rfl)) pgs_nil))))
      (pss_cons (ps_if (PW.pt (pw_and (pt_cmp (pc_notN (pv 3)) rfl) (pw_and (pt_cmp (pc_notN (pv 4)) rfl) (pw_and1 (pt_cmpR op_ge (pv 3) (pv 4) (nomark _)))))) (pss_one (ps_ret pe_bl)) pss_nil)
      (pss_cons (ps_set (i := 5) scholds.nd rfl (Or.inl rfl) (pe_op op_cat (wMeth0 D_changes (pv 0) (hr.mono (by decide))) (pe_lst (pa_cons pe_int pa_nil))))
      (pss_cons (ps_expr (pe_bm PySem.F.plainAttrs_list PySem.F.slot_list_append PySem.F.type_list_append mt_append (pv 5) (pa_cons (pe_op op_sub (pe_callB (cMin K) (by rfl) B.min_ boot_min' (pa_cons (pv 5) pa_nil)) pe_int) pa_nil)))
      (pss_cons (ps_if (pt_cmp (pc_notN (pv 3)) rfl) (pss_one (ps_expr (pe_bm PySem.F.plainAttrs_list PySem.F.slot_list_append PySem.F.type_list_append mt_append (pv 5) (pa_cons (pv 3) pa_nil)))) pss_nil)
      (pss_cons (ps_if (pt_cmp (pc_notN (pv 4)) rfl) (pss_one (ps_expr (pe_bm PySem.F.plainAttrs_list PySem.F.slot_list_append PySem.F.type_list_append mt_append (pv 5) (pa_cons (pe_op op_sub (pv 4) pe_int) pa_nil)))) pss_nil)
      (pss_cons (ps_expr (pe_bm PySem.F.plainAttrs_list PySem.F.slot_list_append PySem.F.type_list_append mt_append (pv 5) (pa_cons (pe_op op_add (pe_callB (cMax K) (by rfl) B.max_ boot_max' (pa_cons (pv 5) pa_nil)) pe_int) pa_nil)))
      (pss_cons (ps_expr (pe_bm PySem.F.plainAttrs_list PySem.F.slot_list_append PySem.F.type_list_append mt_append (pv 5) (pa_cons (pe_op op_sub (pe_callB (cMin K) (by rfl) B.min_ boot_min' (pa_cons (pv 5) pa_nil)) pe_int) pa_nil)))
      (pss_cons (ps_for PassesOwn.never rfl (wForL K (pv 5)) (pg_name (i := 6) scholds.nd rfl (Or.inl rfl)) (pss_one (ps_if (PW.pt (pw_and (pt_val (wCall D_in_window (hr.mono (by decide)) (pa_cons (pv 2) (pa_cons (pv 6) pa_nil)))) (pw_and1 (pt_cmpR op_ne (wMeth D_value_at (pv 0) (hr.mono (by decide)) (pa_cons (pv 6) pa_nil)) (pv 1) (nomark _))))) (pss_one (ps_ret pe_bl)) pss_nil)))
      (pss_one (ps_ret pe_bl))))))))))), ?_⟩
  refine ⟨.ref a, rfl, a, _, rfl, SqT.of ha, rfl, _, _, rfl, _, _, rfl, rfl, ?_⟩
  have isn : ∀ i : Int, ¬ (!decide (V.int i = V.non)) = true → False := fun i h => by
    rw [decide_eq_false (by intro z; cases z)] at h
    exact h rfl
  have is0 : ¬ (!decide (V.non = V.non)) = true := by rw [decide_eq_true rfl]; decide
  have hw0 := hw
  obtain ⟨dx, tt, fs, h1, h2, h3, h4, h5, h6⟩ := hw0
  have part : ∀ (b : Bool), b = true → ¬ (b = false) := fun b h z => by rw [h] at z; cases z
  cases sx <;> cases ux
  · refine ⟨_, rfl, _, rfl, ite2 (fun h => absurd h is0) (fun _ => ite2 (fun h => by cases h) (fun _ => ?_))⟩
    -- marks = waveform.changes() + [0]
    refine ⟨.ref x, rfl, x, dx, fs, rfl, h1, h4, x, st, chs, rfl, hw, fun p H1 s1 np hp => ⟨szl (n := 1) (by decide), fun z nz => ?_⟩⟩
    refine ⟨p, z, _, _, rfl, rfl, same_new nz _ _ hp, upd_same, ?_, fun m nm => ?_⟩
    · rw [List.length_map]; exact szl (by show chs.length + 1 ≤ 100000; omega)
    have e0 : chs.map V.int ++ [V.int 0] = (chs ++ [0]).map V.int := by rw [List.map_append]; rfl
    rw [e0]
    have sm := (s1.trans (same_new (o := .lst [V.int 0]) nz)).trans (same_new (o := .lst ((chs ++ [0]).map V.int)) nm)
    have nmH : H m = none := (s1.trans (same_new (o := .lst [V.int 0]) nz)).free nm
    have ll : (chs ++ [0]).length ≤ 1010 := by rw [List.length_append, List.length_singleton]; omega
    have l0 : 0 < (chs ++ [0]).length := by rw [List.length_append, List.length_singleton]; omega
    generalize hH : upd _ m (.lst ((chs ++ [0]).map V.int)) = H2 at sm ⊢
    have hm : H2 m = some (.lst ((chs ++ [0]).map V.int)) := by rw [← hH]; exact upd_same
    generalize chs ++ [0] = ns at hm ll l0
    clear hH e0 nm nz hp np s1
    refine ⟨.ref m, rfl, .inl ⟨rfl, _, SqL.of hm⟩, .ref m, rfl, m, ns, rfl, SqL.of hm, l0, fun mm _ _ => ⟨mm, 1, rfl, rfl, m, _, _, rfl, rfl, hm, ?_, ?_⟩⟩
    · rw [List.length_map]; exact szlt (by omega)
    have sm' : Same H (upd H2 m (.lst (ns.map V.int ++ [V.int (mm - 1)]))) := sm.mutN nmH
    have hm' : upd H2 m (.lst (ns.map V.int ++ [V.int (mm - 1)])) m = some (.lst ((ns ++ [(mm - 1)]).map V.int)) := by rw [upd_same, List.map_append]; rfl
    have ll' : (ns ++ [(mm - 1)]).length ≤ 1011 := by rw [List.length_append, List.length_singleton]; omega
    have l0' : 0 < (ns ++ [(mm - 1)]).length := by rw [List.length_append, List.length_singleton]; omega
    clear hm sm ll l0
    generalize upd H2 m (.lst (ns.map V.int ++ [V.int (mm - 1)])) = H2 at sm' hm' ⊢
    generalize ns ++ [(mm - 1)] = ns at hm' ll' l0'
    have sm := sm'
    have hm := hm'
    have ll := ll'
    have l0 := l0'
    clear sm' hm' ll' l0'
    refine ⟨_, rfl, _, rfl, ite2 (fun h => absurd h is0) (fun _ => ?_)⟩
    refine ⟨_, rfl, _, rfl, ite2 (fun h => absurd h is0) (fun _ => ?_)⟩
    refine ⟨.ref m, rfl, .inl ⟨rfl, _, SqL.of hm⟩, .ref m, rfl, m, ns, rfl, SqL.of hm, l0, fun mm _ _ => ⟨mm, 1, rfl, rfl, m, _, _, rfl, rfl, hm, ?_, ?_⟩⟩
    · rw [List.length_map]; exact szlt (by omega)
    have sm' : Same H (upd H2 m (.lst (ns.map V.int ++ [V.int (mm + 1)]))) := sm.mutN nmH
    have hm' : upd H2 m (.lst (ns.map V.int ++ [V.int (mm + 1)])) m = some (.lst ((ns ++ [(mm + 1)]).map V.int)) := by rw [upd_same, List.map_append]; rfl
    have ll' : (ns ++ [(mm + 1)]).length ≤ 1012 := by rw [List.length_append, List.length_singleton]; omega
    have l0' : 0 < (ns ++ [(mm + 1)]).length := by rw [List.length_append, List.length_singleton]; omega
    clear hm sm ll l0
    generalize upd H2 m (.lst (ns.map V.int ++ [V.int (mm + 1)])) = H2 at sm' hm' ⊢
    generalize ns ++ [(mm + 1)] = ns at hm' ll' l0'
    have sm := sm'
    have hm := hm'
    have ll := ll'
    have l0 := l0'
    clear sm' hm' ll' l0'
    refine ⟨.ref m, rfl, .inl ⟨rfl, _, SqL.of hm⟩, .ref m, rfl, m, ns, rfl, SqL.of hm, l0, fun mm _ _ => ⟨mm, 1, rfl, rfl, m, _, _, rfl, rfl, hm, ?_, ?_⟩⟩
    · rw [List.length_map]; exact szlt (by omega)
    have sm' : Same H (upd H2 m (.lst (ns.map V.int ++ [V.int (mm - 1)]))) := sm.mutN nmH
    have hm' : upd H2 m (.lst (ns.map V.int ++ [V.int (mm - 1)])) m = some (.lst ((ns ++ [(mm - 1)]).map V.int)) := by rw [upd_same, List.map_append]; rfl
    have ll' : (ns ++ [(mm - 1)]).length ≤ 1013 := by rw [List.length_append, List.length_singleton]; omega
    have l0' : 0 < (ns ++ [(mm - 1)]).length := by rw [List.length_append, List.length_singleton]; omega
    clear hm sm ll l0
    generalize upd H2 m (.lst (ns.map V.int ++ [V.int (mm - 1)])) = H2 at sm' hm' ⊢
    generalize ns ++ [(mm - 1)] = ns at hm' ll' l0'
    have sm := sm'
    have hm := hm'
    have ll := ll'
    have l0 := l0'
    clear sm' hm' ll' l0'
    refine ⟨.ref m, rfl, m, rfl, ⟨_, SqL.of hm⟩, for_it walk_list (fun i σ H3 => ∃ y6, σ = [some (.ref x), some (.bl v), some (.ref a), some (.non), some (.non), some (.ref m), y6] ∧ Same H2 H3) ⟨none, rfl, Same.refl _⟩
      (fun i σ H3 _ ⟨_, _, s⟩ => SqL.of (s _ _ hm)) ?_ ?_⟩
    · rintro i y σ H3 H4 hi ⟨y6, rfl, s3⟩ ⟨rfl, ex⟩
      obtain ⟨t, et, rfl⟩ := get_map ex
      have s4 := sm.trans s3
      refine ⟨.ref a, rfl, .int t, rfl, a, (none, none), t, rfl, s4 _ _ ha, _, rfl, ite2 (fun hit => ?_) (fun _ => ⟨_, rfl, s3⟩)⟩
      refine ⟨.ref x, rfl, x, dx, fs, rfl, s4 _ _ h1, h5, .int t, rfl, x, st, chs, t, rfl, hw.keep s4.tupK fun o e => s4 _ _ e, hl, fun H5 s5 => ⟨.bl v, rfl, rfl, _, rfl, ite2 (fun hne => ?_) (fun _ => ⟨_, rfl, s3.trans s5⟩)⟩⟩
      exact absurd (by rw [hin t hit]) (v_ne hne)
    · rintro σ H3 ⟨y6, rfl, s3⟩
      exact q _ (sm.trans s3)
  · rename_i uv
    refine ⟨_, rfl, _, rfl, ite2 (fun h => absurd h is0) (fun _ => ite2 (fun h => by cases h) (fun _ => ?_))⟩
    -- marks = waveform.changes() + [0]
    refine ⟨.ref x, rfl, x, dx, fs, rfl, h1, h4, x, st, chs, rfl, hw, fun p H1 s1 np hp => ⟨szl (n := 1) (by decide), fun z nz => ?_⟩⟩
    refine ⟨p, z, _, _, rfl, rfl, same_new nz _ _ hp, upd_same, ?_, fun m nm => ?_⟩
    · rw [List.length_map]; exact szl (by show chs.length + 1 ≤ 100000; omega)
    have e0 : chs.map V.int ++ [V.int 0] = (chs ++ [0]).map V.int := by rw [List.map_append]; rfl
    rw [e0]
    have sm := (s1.trans (same_new (o := .lst [V.int 0]) nz)).trans (same_new (o := .lst ((chs ++ [0]).map V.int)) nm)
    have nmH : H m = none := (s1.trans (same_new (o := .lst [V.int 0]) nz)).free nm
    have ll : (chs ++ [0]).length ≤ 1010 := by rw [List.length_append, List.length_singleton]; omega
    have l0 : 0 < (chs ++ [0]).length := by rw [List.length_append, List.length_singleton]; omega
    generalize hH : upd _ m (.lst ((chs ++ [0]).map V.int)) = H2 at sm ⊢
    have hm : H2 m = some (.lst ((chs ++ [0]).map V.int)) := by rw [← hH]; exact upd_same
    generalize chs ++ [0] = ns at hm ll l0
    clear hH e0 nm nz hp np s1
    refine ⟨.ref m, rfl, .inl ⟨rfl, _, SqL.of hm⟩, .ref m, rfl, m, ns, rfl, SqL.of hm, l0, fun mm _ _ => ⟨mm, 1, rfl, rfl, m, _, _, rfl, rfl, hm, ?_, ?_⟩⟩
    · rw [List.length_map]; exact szlt (by omega)
    have sm' : Same H (upd H2 m (.lst (ns.map V.int ++ [V.int (mm - 1)]))) := sm.mutN nmH
    have hm' : upd H2 m (.lst (ns.map V.int ++ [V.int (mm - 1)])) m = some (.lst ((ns ++ [(mm - 1)]).map V.int)) := by rw [upd_same, List.map_append]; rfl
    have ll' : (ns ++ [(mm - 1)]).length ≤ 1011 := by rw [List.length_append, List.length_singleton]; omega
    have l0' : 0 < (ns ++ [(mm - 1)]).length := by rw [List.length_append, List.length_singleton]; omega
    clear hm sm ll l0
    generalize upd H2 m (.lst (ns.map V.int ++ [V.int (mm - 1)])) = H2 at sm' hm' ⊢
    generalize ns ++ [(mm - 1)] = ns at hm' ll' l0'
    have sm := sm'
    have hm := hm'
    have ll := ll'
    have l0 := l0'
    clear sm' hm' ll' l0'
    refine ⟨_, rfl, _, rfl, ite2 (fun h => absurd h is0) (fun _ => ?_)⟩
    refine ⟨_, rfl, _, rfl, ite2 (fun _ => ?_) (fun h => absurd h (isn uv))⟩
    refine ⟨.ref m, rfl, .inl ⟨rfl, _, SqL.of hm⟩, .int uv, rfl, uv, 1, rfl, rfl, m, _, _, rfl, rfl, hm, ?_, ?_⟩
    · rw [List.length_map]; exact szlt (by omega)
    have sm' : Same H (upd H2 m (.lst (ns.map V.int ++ [V.int (uv - 1)]))) := sm.mutN nmH
    have hm' : upd H2 m (.lst (ns.map V.int ++ [V.int (uv - 1)])) m = some (.lst ((ns ++ [(uv - 1)]).map V.int)) := by rw [upd_same, List.map_append]; rfl
    have ll' : (ns ++ [(uv - 1)]).length ≤ 1012 := by rw [List.length_append, List.length_singleton]; omega
    have l0' : 0 < (ns ++ [(uv - 1)]).length := by rw [List.length_append, List.length_singleton]; omega
    clear hm sm ll l0
    generalize upd H2 m (.lst (ns.map V.int ++ [V.int (uv - 1)])) = H2 at sm' hm' ⊢
    generalize ns ++ [(uv - 1)] = ns at hm' ll' l0'
    have sm := sm'
    have hm := hm'
    have ll := ll'
    have l0 := l0'
    clear sm' hm' ll' l0'
    refine ⟨.ref m, rfl, .inl ⟨rfl, _, SqL.of hm⟩, .ref m, rfl, m, ns, rfl, SqL.of hm, l0, fun mm _ _ => ⟨mm, 1, rfl, rfl, m, _, _, rfl, rfl, hm, ?_, ?_⟩⟩
    · rw [List.length_map]; exact szlt (by omega)
    have sm' : Same H (upd H2 m (.lst (ns.map V.int ++ [V.int (mm + 1)]))) := sm.mutN nmH
    have hm' : upd H2 m (.lst (ns.map V.int ++ [V.int (mm + 1)])) m = some (.lst ((ns ++ [(mm + 1)]).map V.int)) := by rw [upd_same, List.map_append]; rfl
    have ll' : (ns ++ [(mm + 1)]).length ≤ 1013 := by rw [List.length_append, List.length_singleton]; omega
    have l0' : 0 < (ns ++ [(mm + 1)]).length := by rw [List.length_append, List.length_singleton]; omega
    clear hm sm ll l0
    generalize upd H2 m (.lst (ns.map V.int ++ [V.int (mm + 1)])) = H2 at sm' hm' ⊢
    generalize ns ++ [(mm + 1)] = ns at hm' ll' l0'
    have sm := sm'
    have hm := hm'
    have ll := ll'
    have l0 := l0'
    clear sm' hm' ll' l0'
    refine ⟨.ref m, rfl, .inl ⟨rfl, _, SqL.of hm⟩, .ref m, rfl, m, ns, rfl, SqL.of hm, l0, fun mm _ _ => ⟨mm, 1, rfl, rfl, m, _, _, rfl, rfl, hm, ?_, ?_⟩⟩
    · rw [List.length_map]; exact szlt (by omega)
    have sm' : Same H (upd H2 m (.lst (ns.map V.int ++ [V.int (mm - 1)]))) := sm.mutN nmH
    have hm' : upd H2 m (.lst (ns.map V.int ++ [V.int (mm - 1)])) m = some (.lst ((ns ++ [(mm - 1)]).map V.int)) := by rw [upd_same, List.map_append]; rfl
    have ll' : (ns ++ [(mm - 1)]).length ≤ 1014 := by rw [List.length_append, List.length_singleton]; omega
    have l0' : 0 < (ns ++ [(mm - 1)]).length := by rw [List.length_append, List.length_singleton]; omega
    clear hm sm ll l0
    generalize upd H2 m (.lst (ns.map V.int ++ [V.int (mm - 1)])) = H2 at sm' hm' ⊢
    generalize ns ++ [(mm - 1)] = ns at hm' ll' l0'
    have sm := sm'
    have hm := hm'
    have ll := ll'
    have l0 := l0'
    clear sm' hm' ll' l0'
    refine ⟨.ref m, rfl, m, rfl, ⟨_, SqL.of hm⟩, for_it walk_list (fun i σ H3 => ∃ y6, σ = [some (.ref x), some (.bl v), some (.ref a), some (.non), some (.int uv), some (.ref m), y6] ∧ Same H2 H3) ⟨none, rfl, Same.refl _⟩
      (fun i σ H3 _ ⟨_, _, s⟩ => SqL.of (s _ _ hm)) ?_ ?_⟩
    · rintro i y σ H3 H4 hi ⟨y6, rfl, s3⟩ ⟨rfl, ex⟩
      obtain ⟨t, et, rfl⟩ := get_map ex
      have s4 := sm.trans s3
      refine ⟨.ref a, rfl, .int t, rfl, a, (none, some uv), t, rfl, s4 _ _ ha, _, rfl, ite2 (fun hit => ?_) (fun _ => ⟨_, rfl, s3⟩)⟩
      refine ⟨.ref x, rfl, x, dx, fs, rfl, s4 _ _ h1, h5, .int t, rfl, x, st, chs, t, rfl, hw.keep s4.tupK fun o e => s4 _ _ e, hl, fun H5 s5 => ⟨.bl v, rfl, rfl, _, rfl, ite2 (fun hne => ?_) (fun _ => ⟨_, rfl, s3.trans s5⟩)⟩⟩
      exact absurd (by rw [hin t hit]) (v_ne hne)
    · rintro σ H3 ⟨y6, rfl, s3⟩
      exact q _ (sm.trans s3)
  · rename_i sv
    refine ⟨_, rfl, _, rfl, ite2 (fun _ => ⟨_, rfl, _, rfl, ite2 (fun h => absurd h is0) (fun _ => ite2 (fun h => by cases h) (fun _ => ?_))⟩) (fun h => absurd h (isn sv))⟩
    -- marks = waveform.changes() + [0]
    refine ⟨.ref x, rfl, x, dx, fs, rfl, h1, h4, x, st, chs, rfl, hw, fun p H1 s1 np hp => ⟨szl (n := 1) (by decide), fun z nz => ?_⟩⟩
    refine ⟨p, z, _, _, rfl, rfl, same_new nz _ _ hp, upd_same, ?_, fun m nm => ?_⟩
    · rw [List.length_map]; exact szl (by show chs.length + 1 ≤ 100000; omega)
    have e0 : chs.map V.int ++ [V.int 0] = (chs ++ [0]).map V.int := by rw [List.map_append]; rfl
    rw [e0]
    have sm := (s1.trans (same_new (o := .lst [V.int 0]) nz)).trans (same_new (o := .lst ((chs ++ [0]).map V.int)) nm)
    have nmH : H m = none := (s1.trans (same_new (o := .lst [V.int 0]) nz)).free nm
    have ll : (chs ++ [0]).length ≤ 1010 := by rw [List.length_append, List.length_singleton]; omega
    have l0 : 0 < (chs ++ [0]).length := by rw [List.length_append, List.length_singleton]; omega
    generalize hH : upd _ m (.lst ((chs ++ [0]).map V.int)) = H2 at sm ⊢
    have hm : H2 m = some (.lst ((chs ++ [0]).map V.int)) := by rw [← hH]; exact upd_same
    generalize chs ++ [0] = ns at hm ll l0
    clear hH e0 nm nz hp np s1
    refine ⟨.ref m, rfl, .inl ⟨rfl, _, SqL.of hm⟩, .ref m, rfl, m, ns, rfl, SqL.of hm, l0, fun mm _ _ => ⟨mm, 1, rfl, rfl, m, _, _, rfl, rfl, hm, ?_, ?_⟩⟩
    · rw [List.length_map]; exact szlt (by omega)
    have sm' : Same H (upd H2 m (.lst (ns.map V.int ++ [V.int (mm - 1)]))) := sm.mutN nmH
    have hm' : upd H2 m (.lst (ns.map V.int ++ [V.int (mm - 1)])) m = some (.lst ((ns ++ [(mm - 1)]).map V.int)) := by rw [upd_same, List.map_append]; rfl
    have ll' : (ns ++ [(mm - 1)]).length ≤ 1011 := by rw [List.length_append, List.length_singleton]; omega
    have l0' : 0 < (ns ++ [(mm - 1)]).length := by rw [List.length_append, List.length_singleton]; omega
    clear hm sm ll l0
    generalize upd H2 m (.lst (ns.map V.int ++ [V.int (mm - 1)])) = H2 at sm' hm' ⊢
    generalize ns ++ [(mm - 1)] = ns at hm' ll' l0'
    have sm := sm'
    have hm := hm'
    have ll := ll'
    have l0 := l0'
    clear sm' hm' ll' l0'
    refine ⟨_, rfl, _, rfl, ite2 (fun _ => ?_) (fun h => absurd h (isn sv))⟩
    refine ⟨.ref m, rfl, .inl ⟨rfl, _, SqL.of hm⟩, .int sv, rfl, m, _, _, rfl, rfl, hm, ?_, ?_⟩
    · rw [List.length_map]; exact szlt (by omega)
    have sm' : Same H (upd H2 m (.lst (ns.map V.int ++ [V.int sv]))) := sm.mutN nmH
    have hm' : upd H2 m (.lst (ns.map V.int ++ [V.int sv])) m = some (.lst ((ns ++ [sv]).map V.int)) := by rw [upd_same, List.map_append]; rfl
    have ll' : (ns ++ [sv]).length ≤ 1012 := by rw [List.length_append, List.length_singleton]; omega
    have l0' : 0 < (ns ++ [sv]).length := by rw [List.length_append, List.length_singleton]; omega
    clear hm sm ll l0
    generalize upd H2 m (.lst (ns.map V.int ++ [V.int sv])) = H2 at sm' hm' ⊢
    generalize ns ++ [sv] = ns at hm' ll' l0'
    have sm := sm'
    have hm := hm'
    have ll := ll'
    have l0 := l0'
    clear sm' hm' ll' l0'
    refine ⟨_, rfl, _, rfl, ite2 (fun h => absurd h is0) (fun _ => ?_)⟩
    refine ⟨.ref m, rfl, .inl ⟨rfl, _, SqL.of hm⟩, .ref m, rfl, m, ns, rfl, SqL.of hm, l0, fun mm _ _ => ⟨mm, 1, rfl, rfl, m, _, _, rfl, rfl, hm, ?_, ?_⟩⟩
    · rw [List.length_map]; exact szlt (by omega)
    have sm' : Same H (upd H2 m (.lst (ns.map V.int ++ [V.int (mm + 1)]))) := sm.mutN nmH
    have hm' : upd H2 m (.lst (ns.map V.int ++ [V.int (mm + 1)])) m = some (.lst ((ns ++ [(mm + 1)]).map V.int)) := by rw [upd_same, List.map_append]; rfl
    have ll' : (ns ++ [(mm + 1)]).length ≤ 1013 := by rw [List.length_append, List.length_singleton]; omega
    have l0' : 0 < (ns ++ [(mm + 1)]).length := by rw [List.length_append, List.length_singleton]; omega
    clear hm sm ll l0
    generalize upd H2 m (.lst (ns.map V.int ++ [V.int (mm + 1)])) = H2 at sm' hm' ⊢
    generalize ns ++ [(mm + 1)] = ns at hm' ll' l0'
    have sm := sm'
    have hm := hm'
    have ll := ll'
    have l0 := l0'
    clear sm' hm' ll' l0'
    refine ⟨.ref m, rfl, .inl ⟨rfl, _, SqL.of hm⟩, .ref m, rfl, m, ns, rfl, SqL.of hm, l0, fun mm _ _ => ⟨mm, 1, rfl, rfl, m, _, _, rfl, rfl, hm, ?_, ?_⟩⟩
    · rw [List.length_map]; exact szlt (by omega)
    have sm' : Same H (upd H2 m (.lst (ns.map V.int ++ [V.int (mm - 1)]))) := sm.mutN nmH
    have hm' : upd H2 m (.lst (ns.map V.int ++ [V.int (mm - 1)])) m = some (.lst ((ns ++ [(mm - 1)]).map V.int)) := by rw [upd_same, List.map_append]; rfl
    have ll' : (ns ++ [(mm - 1)]).length ≤ 1014 := by rw [List.length_append, List.length_singleton]; omega
    have l0' : 0 < (ns ++ [(mm - 1)]).length := by rw [List.length_append, List.length_singleton]; omega
    clear hm sm ll l0
    generalize upd H2 m (.lst (ns.map V.int ++ [V.int (mm - 1)])) = H2 at sm' hm' ⊢
    generalize ns ++ [(mm - 1)] = ns at hm' ll' l0'
    have sm := sm'
    have hm := hm'
    have ll := ll'
    have l0 := l0'
    clear sm' hm' ll' l0'
    refine ⟨.ref m, rfl, m, rfl, ⟨_, SqL.of hm⟩, for_it walk_list (fun i σ H3 => ∃ y6, σ = [some (.ref x), some (.bl v), some (.ref a), some (.int sv), some (.non), some (.ref m), y6] ∧ Same H2 H3) ⟨none, rfl, Same.refl _⟩
      (fun i σ H3 _ ⟨_, _, s⟩ => SqL.of (s _ _ hm)) ?_ ?_⟩
    · rintro i y σ H3 H4 hi ⟨y6, rfl, s3⟩ ⟨rfl, ex⟩
      obtain ⟨t, et, rfl⟩ := get_map ex
      have s4 := sm.trans s3
      refine ⟨.ref a, rfl, .int t, rfl, a, (some sv, none), t, rfl, s4 _ _ ha, _, rfl, ite2 (fun hit => ?_) (fun _ => ⟨_, rfl, s3⟩)⟩
      refine ⟨.ref x, rfl, x, dx, fs, rfl, s4 _ _ h1, h5, .int t, rfl, x, st, chs, t, rfl, hw.keep s4.tupK fun o e => s4 _ _ e, hl, fun H5 s5 => ⟨.bl v, rfl, rfl, _, rfl, ite2 (fun hne => ?_) (fun _ => ⟨_, rfl, s3.trans s5⟩)⟩⟩
      exact absurd (by rw [hin t hit]) (v_ne hne)
    · rintro σ H3 ⟨y6, rfl, s3⟩
      exact q _ (sm.trans s3)
  · rename_i sv uv
    refine ⟨_, rfl, _, rfl, ite2 (fun _ => ⟨_, rfl, _, rfl, ite2 (fun _ => ⟨_, rfl, _, rfl, sv, uv, rfl, rfl, _, rfl, ite2 (fun _ => q H (Same.refl H)) (fun _ => ?_)⟩) (fun h => absurd h (isn uv))⟩) (fun h => absurd h (isn sv))⟩
    -- marks = waveform.changes() + [0]
    refine ⟨.ref x, rfl, x, dx, fs, rfl, h1, h4, x, st, chs, rfl, hw, fun p H1 s1 np hp => ⟨szl (n := 1) (by decide), fun z nz => ?_⟩⟩
    refine ⟨p, z, _, _, rfl, rfl, same_new nz _ _ hp, upd_same, ?_, fun m nm => ?_⟩
    · rw [List.length_map]; exact szl (by show chs.length + 1 ≤ 100000; omega)
    have e0 : chs.map V.int ++ [V.int 0] = (chs ++ [0]).map V.int := by rw [List.map_append]; rfl
    rw [e0]
    have sm := (s1.trans (same_new (o := .lst [V.int 0]) nz)).trans (same_new (o := .lst ((chs ++ [0]).map V.int)) nm)
    have nmH : H m = none := (s1.trans (same_new (o := .lst [V.int 0]) nz)).free nm
    have ll : (chs ++ [0]).length ≤ 1010 := by rw [List.length_append, List.length_singleton]; omega
    have l0 : 0 < (chs ++ [0]).length := by rw [List.length_append, List.length_singleton]; omega
    generalize hH : upd _ m (.lst ((chs ++ [0]).map V.int)) = H2 at sm ⊢
    have hm : H2 m = some (.lst ((chs ++ [0]).map V.int)) := by rw [← hH]; exact upd_same
    generalize chs ++ [0] = ns at hm ll l0
    clear hH e0 nm nz hp np s1
    refine ⟨.ref m, rfl, .inl ⟨rfl, _, SqL.of hm⟩, .ref m, rfl, m, ns, rfl, SqL.of hm, l0, fun mm _ _ => ⟨mm, 1, rfl, rfl, m, _, _, rfl, rfl, hm, ?_, ?_⟩⟩
    · rw [List.length_map]; exact szlt (by omega)
    have sm' : Same H (upd H2 m (.lst (ns.map V.int ++ [V.int (mm - 1)]))) := sm.mutN nmH
    have hm' : upd H2 m (.lst (ns.map V.int ++ [V.int (mm - 1)])) m = some (.lst ((ns ++ [(mm - 1)]).map V.int)) := by rw [upd_same, List.map_append]; rfl
    have ll' : (ns ++ [(mm - 1)]).length ≤ 1011 := by rw [List.length_append, List.length_singleton]; omega
    have l0' : 0 < (ns ++ [(mm - 1)]).length := by rw [List.length_append, List.length_singleton]; omega
    clear hm sm ll l0
    generalize upd H2 m (.lst (ns.map V.int ++ [V.int (mm - 1)])) = H2 at sm' hm' ⊢
    generalize ns ++ [(mm - 1)] = ns at hm' ll' l0'
    have sm := sm'
    have hm := hm'
    have ll := ll'
    have l0 := l0'
    clear sm' hm' ll' l0'
    refine ⟨_, rfl, _, rfl, ite2 (fun _ => ?_) (fun h => absurd h (isn sv))⟩
    refine ⟨.ref m, rfl, .inl ⟨rfl, _, SqL.of hm⟩, .int sv, rfl, m, _, _, rfl, rfl, hm, ?_, ?_⟩
    · rw [List.length_map]; exact szlt (by omega)
    have sm' : Same H (upd H2 m (.lst (ns.map V.int ++ [V.int sv]))) := sm.mutN nmH
    have hm' : upd H2 m (.lst (ns.map V.int ++ [V.int sv])) m = some (.lst ((ns ++ [sv]).map V.int)) := by rw [upd_same, List.map_append]; rfl
    have ll' : (ns ++ [sv]).length ≤ 1012 := by rw [List.length_append, List.length_singleton]; omega
    have l0' : 0 < (ns ++ [sv]).length := by rw [List.length_append, List.length_singleton]; omega
    clear hm sm ll l0
    generalize upd H2 m (.lst (ns.map V.int ++ [V.int sv])) = H2 at sm' hm' ⊢
    generalize ns ++ [sv] = ns at hm' ll' l0'
    have sm := sm'
    have hm := hm'
    have ll := ll'
    have l0 := l0'
    clear sm' hm' ll' l0'
    refine ⟨_, rfl, _, rfl, ite2 (fun _ => ?_) (fun h => absurd h (isn uv))⟩
    refine ⟨.ref m, rfl, .inl ⟨rfl, _, SqL.of hm⟩, .int uv, rfl, uv, 1, rfl, rfl, m, _, _, rfl, rfl, hm, ?_, ?_⟩
    · rw [List.length_map]; exact szlt (by omega)
    have sm' : Same H (upd H2 m (.lst (ns.map V.int ++ [V.int (uv - 1)]))) := sm.mutN nmH
    have hm' : upd H2 m (.lst (ns.map V.int ++ [V.int (uv - 1)])) m = some (.lst ((ns ++ [(uv - 1)]).map V.int)) := by rw [upd_same, List.map_append]; rfl
    have ll' : (ns ++ [(uv - 1)]).length ≤ 1013 := by rw [List.length_append, List.length_singleton]; omega
    have l0' : 0 < (ns ++ [(uv - 1)]).length := by rw [List.length_append, List.length_singleton]; omega
    clear hm sm ll l0
    generalize upd H2 m (.lst (ns.map V.int ++ [V.int (uv - 1)])) = H2 at sm' hm' ⊢
    generalize ns ++ [(uv - 1)] = ns at hm' ll' l0'
    have sm := sm'
    have hm := hm'
    have ll := ll'
    have l0 := l0'
    clear sm' hm' ll' l0'
    refine ⟨.ref m, rfl, .inl ⟨rfl, _, SqL.of hm⟩, .ref m, rfl, m, ns, rfl, SqL.of hm, l0, fun mm _ _ => ⟨mm, 1, rfl, rfl, m, _, _, rfl, rfl, hm, ?_, ?_⟩⟩
    · rw [List.length_map]; exact szlt (by omega)
    have sm' : Same H (upd H2 m (.lst (ns.map V.int ++ [V.int (mm + 1)]))) := sm.mutN nmH
    have hm' : upd H2 m (.lst (ns.map V.int ++ [V.int (mm + 1)])) m = some (.lst ((ns ++ [(mm + 1)]).map V.int)) := by rw [upd_same, List.map_append]; rfl
    have ll' : (ns ++ [(mm + 1)]).length ≤ 1014 := by rw [List.length_append, List.length_singleton]; omega
    have l0' : 0 < (ns ++ [(mm + 1)]).length := by rw [List.length_append, List.length_singleton]; omega
    clear hm sm ll l0
    generalize upd H2 m (.lst (ns.map V.int ++ [V.int (mm + 1)])) = H2 at sm' hm' ⊢
    generalize ns ++ [(mm + 1)] = ns at hm' ll' l0'
    have sm := sm'
    have hm := hm'
    have ll := ll'
    have l0 := l0'
    clear sm' hm' ll' l0'
    refine ⟨.ref m, rfl, .inl ⟨rfl, _, SqL.of hm⟩, .ref m, rfl, m, ns, rfl, SqL.of hm, l0, fun mm _ _ => ⟨mm, 1, rfl, rfl, m, _, _, rfl, rfl, hm, ?_, ?_⟩⟩
    · rw [List.length_map]; exact szlt (by omega)
    have sm' : Same H (upd H2 m (.lst (ns.map V.int ++ [V.int (mm - 1)]))) := sm.mutN nmH
    have hm' : upd H2 m (.lst (ns.map V.int ++ [V.int (mm - 1)])) m = some (.lst ((ns ++ [(mm - 1)]).map V.int)) := by rw [upd_same, List.map_append]; rfl
    have ll' : (ns ++ [(mm - 1)]).length ≤ 1015 := by rw [List.length_append, List.length_singleton]; omega
    have l0' : 0 < (ns ++ [(mm - 1)]).length := by rw [List.length_append, List.length_singleton]; omega
    clear hm sm ll l0
    generalize upd H2 m (.lst (ns.map V.int ++ [V.int (mm - 1)])) = H2 at sm' hm' ⊢
    generalize ns ++ [(mm - 1)] = ns at hm' ll' l0'
    have sm := sm'
    have hm := hm'
    have ll := ll'
    have l0 := l0'
    clear sm' hm' ll' l0'
    refine ⟨.ref m, rfl, m, rfl, ⟨_, SqL.of hm⟩, for_it walk_list (fun i σ H3 => ∃ y6, σ = [some (.ref x), some (.bl v), some (.ref a), some (.int sv), some (.int uv), some (.ref m), y6] ∧ Same H2 H3) ⟨none, rfl, Same.refl _⟩
      (fun i σ H3 _ ⟨_, _, s⟩ => SqL.of (s _ _ hm)) ?_ ?_⟩
    · rintro i y σ H3 H4 hi ⟨y6, rfl, s3⟩ ⟨rfl, ex⟩
      obtain ⟨t, et, rfl⟩ := get_map ex
      have s4 := sm.trans s3
      refine ⟨.ref a, rfl, .int t, rfl, a, (some sv, some uv), t, rfl, s4 _ _ ha, _, rfl, ite2 (fun hit => ?_) (fun _ => ⟨_, rfl, s3⟩)⟩
      refine ⟨.ref x, rfl, x, dx, fs, rfl, s4 _ _ h1, h5, .int t, rfl, x, st, chs, t, rfl, hw.keep s4.tupK fun o e => s4 _ _ e, hl, fun H5 s5 => ⟨.bl v, rfl, rfl, _, rfl, ite2 (fun hne => ?_) (fun _ => ⟨_, rfl, s3.trans s5⟩)⟩⟩
      exact absurd (by rw [hin t hit]) (v_ne hne)
    · rintro σ H3 ⟨y6, rfl, s3⟩
      exact q _ (sm.trans s3)
end
end L2.Sg

/-! check_delays -/
namespace L2.Sg
open PySem PySem.Spec PyProof.Rows L2.Lx
abbrev scheck_delays : Stmt := topS 28
theorem sccheck_delays : FnScope ["circuit", "delays", "gate", "rows", "low", "high", "row"] ["circuit", "delays"] (defScope scheck_delays) := ⟨rfl, rfl, rfl, by decide +kernel, rfl, by decide +kernel, by decide +kernel⟩

abbrev Dl := List (List (List Int))
def RowAt (H : Hp) (b : Addr) (row : List Int) : Prop := H b = some (.lst (row.map V.int))
def RowsAt (H : Hp) (a : Addr) (rows : List (List Int)) : Prop := ∃ pa : List Addr, H a = some (.lst (pa.map V.ref)) ∧ Paired (RowAt H) pa rows
def DelAt (H : Hp) (d : Addr) (D : Dl) : Prop := ∃ ra : List Addr, H d = some (.lst (ra.map V.ref)) ∧ Paired (RowsAt H) ra D
/-- lists stay -/
def LstK (H H' : Hp) : Prop := ∀ b xs, H b = some (.lst xs) → H' b = some (.lst xs)
theorem _root_.L2.Same.lstK {H H' : Hp} (s : Same H H') : LstK H H' := fun b xs e => s b _ e
theorem RowsAt.keep {H H' : Hp} {a : Addr} {rows : List (List Int)} (t : LstK H H') (x : RowsAt H a rows) : RowsAt H' a rows := let ⟨pa, h, p⟩ := x; ⟨pa, t _ _ h, Paired.mapP p fun _ _ q => t _ _ q⟩
theorem DelAt.keep {H H' : Hp} {d : Addr} {D : Dl} (t : LstK H H') (x : DelAt H d D) : DelAt H' d D := let ⟨ra, h, p⟩ := x; ⟨ra, t _ _ h, Paired.mapP p fun _ _ q => q.keep t⟩
structure DelOk (C : Circ) (D : Dl) : Prop where
  len : D.length = C.gates.length
  at_ : ∀ (i : Nat) g rows, C.gates[i]? = some g → D[i]? = some rows → rows.length = g.nets.length ∧ ∀ (k : Nat) sp row, g.spans[k]? = some sp → rows[k]? = some row → 0 < row.length ∧ row.length ≤ 6 ∧ ∀ d ∈ row, sp.1 ≤ d ∧ d ≤ sp.2
def rowsD (rows : List (List Int)) : List PyData := rows.map fun r => .list (r.map .int)
theorem ints_lay (r : List Int) : PyData.canLayAll0 (r.map PyData.int) = true ∧ PyData.depthAll (r.map PyData.int) = 0 := by
  induction r with
  | nil => exact ⟨by simp [PyData.canLayAll0], by simp [PyData.depthAll]⟩
  | cons a r ih => exact ⟨by simp [PyData.canLayAll0, PyData.canLay0, ih.1], by simp [PyData.depthAll, PyData.depth, ih.2]⟩
theorem rows_lay (rows : List (List Int)) : PyData.canLayAll0 (rowsD rows) = true ∧ PyData.depthAll (rowsD rows) ≤ 1 := by
  induction rows with
  | nil => exact ⟨by simp [rowsD, PyData.canLayAll0], by simp [rowsD, PyData.depthAll]⟩
  | cons r rows ih =>
    have h := ints_lay r
    refine ⟨?_, ?_⟩
    · show (PyData.canLay0 (.list (r.map .int)) && PyData.canLayAll0 (rowsD rows)) = true
      rw [ih.1, PyData.canLay0, h.1]; rfl
    · show PyData.depthAll (.list (r.map .int) :: rowsD rows) ≤ 1
      rw [PyData.depthAll, PyData.depth, h.2]
      have := ih.2
      omega
theorem rows_shaped (rows : List (List Int)) : SeqAt.shaped (.list (rowsD rows)) = true := by
  unfold SeqAt.shaped
  have h := rows_lay rows
  rw [PyData.canLay0, h.1, PyData.depth, decide_eq_true (by omega)]
  rfl
theorem rows_nempty (rows : List (List Int)) (h : ∀ r ∈ rows, 0 < r.length) : ((rowsD rows).any fun z => PyData.eqv z (.list [])) = false := by
  unfold rowsD
  rw [List.any_map, List.any_eq_false]
  intro r hr
  cases r with
  | nil => exact absurd (h _ hr) (by decide)
  | cons a r => simp [PyData.eqv, PyData.eqvAll]
theorem dp_ints {K : PySem.W.Frag} {H : Hp} (r : List Int) : DpAll K H (r.map V.int) (r.map .int) := by
  induction r with
  | nil => exact .nil
  | cons a r ih => exact .cons (.int a) ih
theorem dp_rows {K : PySem.W.Frag} {H : Hp} {pa : List Addr} {rows : List (List Int)} (h : Paired (RowAt H) pa rows) : DpAll K H (pa.map V.ref) (rowsD rows) := by
  induction h with
  | nil => exact .nil
  | cons r t ih => exact .cons (.lst (SqL.of r) (dp_ints _)) ih
section
variable {P : Program} {w : World} {K : PySem.W.Frag} {mg : Str → Option Value} {base : Heap} {f : Addr} {fd : FuncData}
def spCheckDelays : Sp := fun vs H Q _ => ∃ (c d : Addr) (C : Circ) (ord : List Gate) (D : Dl), vs = [.ref c, .ref d] ∧ CircAt H c C ∧ Wf C ord ∧ DelAt H d D ∧ DelOk C D ∧ ∀ H', Same H H' → Q .non H'
theorem ok_check_delays (F : Fun K "check_delays" "check_delays" scheck_delays f fd) (B : Bt mg) : FnOk P w K mg base CX0 1 f fd ["circuit", "delays"] spCheckDelays := by
  refine F.ok sccheck_delays (fun vs H Q E h => ?_) (fun cdv A outer s H vs Q E hr h => ?_)
  · obtain ⟨_, _, _, _, _, rfl, _⟩ := h
    rfl
  obtain ⟨c, d, C, ord, D, rfl, hc, W, hd, ok, q⟩ := h
  refine ⟨_, (pss_cons (ps_if (pt_cmpR op_ne (pe_callB (cLen K) (by rfl) B.len_ PySem.boot_len (pa_cons (pv 1) pa_nil)) (pe_callB (cLen K) (by rfl) B.len_ PySem.boot_len (pa_cons (wIxT K (pv 0) pe_int) pa_nil)) (nomark _)) (pss_one ps_never) pss_nil)
      (pss_cons (ps_for PassesOwn.never rfl (wZ2 true false K B.zip_ (pa_cons (wIxT K (pv 0) pe_int) (pa_cons (pv 1) pa_nil))) (wTupG K rfl (pgs_cons (pg_name (i := 2) sccheck_delays.nd rfl (Or.inl rfl)) (pgs_cons (pg_name (i := 3) sccheck_delays.nd rfl (Or.inl rfl)) pgs_nil))) (pss_one (ps_if (PW.pt (pw_or (pt_cmpR op_ne (pe_callB (cLen K) (by rfl) B.len_ PySem.boot_len (pa_cons (pv 3) pa_nil)) (pe_callB (cLen K) (by rfl) B.len_ PySem.boot_len (pa_cons (wIxT K (pv 2) pe_int) pa_nil)) (nomark _)) (pw_or1 (tInD' K (hu65 hr) (pe_lst pa_nil) (pv 3))))) (pss_one ps_never) pss_nil)))
      (pss_one (ps_for PassesOwn.never rfl (wZ2 true false K B.zip_ (pa_cons (wIxT K (pv 0) pe_int) (pa_cons (pv 1) pa_nil))) (wTupG K rfl (pgs_cons (pg_name (i := 2) sccheck_delays.nd rfl (Or.inl rfl)) (pgs_cons (pg_name (i := 3) sccheck_delays.nd rfl (Or.inl rfl)) pgs_nil))) (pss_one (ps_for PassesOwn.never rfl (wZ2 true false K B.zip_ (pa_cons (wIxT K (pv 2) pe_int) (pa_cons (pv 3) pa_nil))) (wTupG K rfl (pgs_cons (wTupG K rfl (pgs_cons (pg_name (i := 4) sccheck_delays.nd rfl (Or.inl rfl)) (pgs_cons (pg_name (i := 5) sccheck_delays.nd rfl (Or.inl rfl)) pgs_nil))) (pgs_cons (pg_name (i := 6) sccheck_delays.nd rfl (Or.inl rfl)) pgs_nil))) (pss_one (ps_if (PW.pt (pw_or (pt_cmpR op_lt (pe_callB (cMin K) (by rfl) B.min_ boot_min' (pa_cons (pv 6) pa_nil)) (pv 4) (nomark _)) (pw_or1 (pt_cmpR op_gt (pe_callB (cMax K) (by rfl) B.max_ boot_max' (pa_cons (pv 6) pa_nil)) (pv 5) (nomark _))))) (pss_one ps_never) pss_nil)))))))), ?_⟩
  have few := W.few
  obtain ⟨ci, cg, cr, co, ga, ra, h1, h2, h3, h4, h5, h6⟩ := hc
  obtain ⟨da, hd1, hd2⟩ := hd
  have lg := Paired.length h4
  have ld := Paired.length hd2
  have lD := ok.len
  refine ⟨.ref d, rfl, d, _, rfl, .inl (SqL.of hd1), .ref c, rfl, c, _, 1, _, rfl, rfl, SqT.of h1, atI_nat (j := 1) rfl, cg, _, rfl, .inr (SqT.of h3), rfl, _, rfl, ite2 (fun hne => ?_) (fun _ => ?_)⟩
  · have := i_ne hne
    rw [List.length_map, List.length_map] at this
    omega
  refine ⟨.ref c, rfl, c, _, 1, _, rfl, rfl, SqT.of h1, atI_nat (j := 1) rfl, .ref d, rfl, cg, d, _, _, rfl, SqT.of h3, SqL.of hd1, for_it (walk_z2 (n := C.gates.length) (by rw [List.length_map]; omega) (by rw [List.length_map]; omega))
    (fun i σ H1 => ∃ y2 y3, σ = [some (.ref c), some (.ref d), y2, y3, none, none, none] ∧ Same H H1) ⟨none, none, rfl, Same.refl _⟩ (fun i σ H1 _ ⟨_, _, _, s⟩ => ⟨SqT.of (s _ _ h3), SqL.of (s _ _ hd1)⟩) ?_ ?_⟩
  · rintro i x σ H1 H2 hi ⟨y2, y3, rfl, s⟩ ⟨T, x1, x2, rfl, nT, rfl, e1, e2⟩
    obtain ⟨a, ea, rfl⟩ := get_map e1
    obtain ⟨b, eb, rfl⟩ := get_map e2
    obtain ⟨g, eg, t1, n1, r1, sa, hy1, hy2, hy3, hy4, hy5⟩ := pget h4 ea
    obtain ⟨rows, er, pa, hp1, hp2⟩ := pget hd2 eb
    have s2 := s.trans (same_new (o := .tup [.ref a, .ref b]) nT)
    obtain ⟨l1, hk⟩ := ok.at_ i g rows eg er
    refine ⟨T, _, rfl, SqT.of upd_same, rfl, _, _, rfl, _, _, rfl, rfl, ?_⟩
    refine ⟨.ref b, rfl, b, _, rfl, .inl (SqL.of (s2 _ _ hp1)), .ref a, rfl, a, _, 2, _, rfl, rfl, SqT.of (s2 _ _ hy1), atI_nat (j := 2) rfl, n1, _, rfl, .inr (SqT.of (s2 _ _ hy3)), rfl, _, rfl, ite2 (fun hne => ?_) (fun _ => ?_)⟩
    · have := i_ne hne
      have lp := Paired.length hp2
      rw [List.length_map, List.length_map] at this
      omega
    · refine ⟨Nat.zero_le _, fun z nz => ⟨.ref b, rfl, .list [], rowsD rows, .lst (SqL.of upd_same) .nil, .lst (SqL.of (same_new nz _ _ (s2 _ _ hp1))) (dp_rows (Paired.mapP hp2 fun _ _ q => same_new nz _ _ (s2 _ _ q))), by decide +kernel, rows_shaped rows, _, rfl, ite2 (fun h => ?_) (fun _ => ?_)⟩⟩
      · rw [rows_nempty rows ?_] at h
        · cases h
        · intro r hr
          obtain ⟨k, hk1, ek⟩ := List.mem_iff_getElem.mp hr
          have sl := (W.shape g (List.mem_of_getElem? eg)).1
          exact (hk k _ r (List.getElem?_eq_getElem (by omega)) (by rw [← ek]; exact List.getElem?_eq_getElem hk1)).1
      · exact ⟨_, _, rfl, s2.trans (same_new nz)⟩
  rintro σ H1 ⟨y2, y3, rfl, s1⟩
  refine ⟨.ref c, rfl, c, _, 1, _, rfl, rfl, SqT.of (s1 _ _ h1), atI_nat (j := 1) rfl, .ref d, rfl, cg, d, _, _, rfl, SqT.of (s1 _ _ h3), SqL.of (s1 _ _ hd1), for_it (walk_z2 (n := C.gates.length) (by rw [List.length_map]; omega) (by rw [List.length_map]; omega))
    (fun i σ H2 => ∃ y2 y3 y4 y5 y6, σ = [some (.ref c), some (.ref d), y2, y3, y4, y5, y6] ∧ Same H H2) ⟨y2, y3, none, none, none, rfl, s1⟩ (fun i σ H2 _ ⟨_, _, _, _, _, _, s⟩ => ⟨SqT.of (s _ _ h3), SqL.of (s _ _ hd1)⟩) ?_ ?_⟩
  · rintro i x σ H2 H3 hi ⟨y2, y3, y4, y5, y6, rfl, s⟩ ⟨T, x1, x2, rfl, nT, rfl, e1, e2⟩
    obtain ⟨a, ea, rfl⟩ := get_map e1
    obtain ⟨b, eb, rfl⟩ := get_map e2
    obtain ⟨g, eg, t1, n1, r1, sa, hy1, hy2, hy3, hy4, hy5⟩ := pget h4 ea
    obtain ⟨rows, er, pa, hp1, hp2⟩ := pget hd2 eb
    have s2 := s.trans (same_new (o := .tup [.ref a, .ref b]) nT)
    obtain ⟨l1, hk⟩ := ok.at_ i g rows eg er
    have sl := (W.shape g (List.mem_of_getElem? eg)).1
    have l5 := Paired.length hy5
    have lp := Paired.length hp2
    refine ⟨T, _, rfl, SqT.of upd_same, rfl, _, _, rfl, _, _, rfl, rfl, ?_⟩
    refine ⟨.ref a, rfl, a, _, 3, _, rfl, rfl, SqT.of (s2 _ _ hy1), atI_nat (j := 3) rfl, .ref b, rfl, r1, b, _, _, rfl, SqT.of (s2 _ _ hy4), SqL.of (s2 _ _ hp1), for_it (walk_z2 (n := g.spans.length) (by rw [List.length_map]; omega) (by rw [List.length_map]; omega))
      (fun k σ H4 => ∃ y4 y5 y6, σ = [some (.ref c), some (.ref d), some (.ref a), some (.ref b), y4, y5, y6] ∧ Same H H4) ⟨y4, y5, y6, rfl, s2⟩ (fun k σ H4 _ ⟨_, _, _, _, s⟩ => ⟨SqT.of (s _ _ hy4), SqL.of (s _ _ hp1)⟩) ?_ ?_⟩
    · rintro k x σ H4 H5 hk' ⟨y4, y5, y6, rfl, s4⟩ ⟨T2, x1, x2, rfl, nT2, rfl, f1, f2⟩
      obtain ⟨a2, ea2, rfl⟩ := get_map f1
      obtain ⟨b2, eb2, rfl⟩ := get_map f2
      obtain ⟨sp, esp, hsp⟩ := pget hy5 ea2
      obtain ⟨row, erow, hrow⟩ := pget hp2 eb2
      have s5 := s4.trans (same_new (o := .tup [.ref a2, .ref b2]) nT2)
      obtain ⟨k1, k2, k3⟩ := hk k sp row esp erow
      refine ⟨T2, _, rfl, SqT.of upd_same, rfl, _, _, rfl, ⟨a2, _, rfl, SqT.of (s5 _ _ hsp), rfl, _, _, rfl, _, _, rfl, rfl, ?_⟩⟩
      refine ⟨_, _, rfl, rfl, ?_⟩
      refine ⟨.ref b2, rfl, b2, row, rfl, SqL.of (s5 _ _ hrow), k1, fun m hm _ => ⟨.int sp.1, rfl, m, sp.1, rfl, rfl, _, rfl, ite2 (fun h => ?_) (fun _ => ?_)⟩⟩
      · have := of_decide_eq_true h
        have := (k3 m hm).1
        omega
      refine ⟨.ref b2, rfl, b2, row, rfl, SqL.of (s5 _ _ hrow), k1, fun m hm _ => ⟨.int sp.2, rfl, m, sp.2, rfl, rfl, _, rfl, ite2 (fun h => ?_) (fun _ => ?_)⟩⟩
      · have := of_decide_eq_true h
        have := (k3 m hm).2
        omega
      exact ⟨_, _, _, rfl, s5⟩
    · rintro σ H4 ⟨y4, y5, y6, rfl, s4⟩
      exact ⟨_, _, _, _, _, rfl, s4⟩
  · rintro σ H2 ⟨y2, y3, y4, y5, y6, rfl, s2⟩
    exact q _ s2
end
end L2.Sg

/-! runs: the objects, Tracker.__init__, Run.__init__, source_value -/
namespace L2.Sg
open PySem PySem.Spec PyProof.Rows L2.Lx
abbrev sTrackerU_initU : Stmt := inClass (topS 29) 0
theorem scTrackerU_initU : FnScope ["self", "circuit", "delays", "origin", "rows", "row"] ["self", "circuit", "delays", "origin"] (defScope sTrackerU_initU) := ⟨rfl, rfl, rfl, by decide +kernel, rfl, by decide +kernel, by decide +kernel⟩
abbrev sRunU_initU : Stmt := inClass (topS 30) 0
theorem scRunU_initU : FnScope ["self", "circuit", "waves", "delays", "net", "wave"] ["self", "circuit", "waves", "delays"] (defScope sRunU_initU) := ⟨rfl, rfl, rfl, by decide +kernel, rfl, by decide +kernel, by decide +kernel⟩
abbrev sRun_source_value : Stmt := inClass (topS 30) 1
theorem scRun_source_value : FnScope ["self", "net", "time"] ["self", "net", "time"] (defScope sRun_source_value) := ⟨rfl, rfl, rfl, by decide +kernel, rfl, by decide +kernel, by decide +kernel⟩

structure TrC (K : PySem.W.Frag) (CT : Addr) : Prop where
  cls : Cls K CT
  n1 : NoAttr K CT "circuit"
  n2 : NoAttr K CT "delays"
  n3 : NoAttr K CT "origin"
  n4 : NoAttr K CT "driven"
  n5 : NoAttr K CT "known"
structure RnC (K : PySem.W.Frag) (CR : Addr) : Prop where
  cls : Cls K CR
  n1 : NoAttr K CR "_circuit"
  n2 : NoAttr K CR "_waves"
  n3 : NoAttr K CR "_tracker"
/-- all stays but the dicts of nested keys -/
def KeepX (H H' : Hp) : Prop := ∀ b o, H b = some o → (∀ φ, o ≠ .ext φ) → H' b = some o
theorem KeepX.refl (H : Hp) : KeepX H H := fun _ _ e _ => e
theorem KeepX.trans {H H1 H2 : Hp} (a : KeepX H H1) (b : KeepX H1 H2) : KeepX H H2 := fun c o e n => b c o (a c o e n) n
theorem _root_.L2.Same.keepX {H H' : Hp} (s : Same H H') : KeepX H H' := fun b o e _ => s b o e
theorem KeepX.tupK {H H' : Hp} (k : KeepX H H') : TupK H H' := fun b xs e => k b _ e fun φ => by intro z; cases z
theorem KeepX.lstK {H H' : Hp} (k : KeepX H H') : LstK H H' := fun b xs e => k b _ e fun φ => by intro z; cases z
theorem KeepX.dK {H H' : Hp} (k : KeepX H H') {b : Addr} {kvs : List (Key × V)} (e : H b = some (.dK kvs)) : H' b = some (.dK kvs) := k b _ e fun φ => by intro z; cases z
theorem KeepX.ins {H H' : Hp} (k : KeepX H H') {b C dx : Addr} {fs : List (Str × V)} (e : H b = some (.ins C dx fs)) : H' b = some (.ins C dx fs) := k b _ e fun φ => by intro z; cases z
theorem But.keepX {M : List Addr} {H H' : Hp} (b : But M H H') (h : ∀ m ∈ M, ∃ φ, H m = some (.ext φ)) : KeepX H H' := fun c o e n => b c o e fun z => by
  obtain ⟨φ, h⟩ := h c z
  rw [e] at h
  exact n φ (Option.some.inj h)
theorem _root_.L2.Lx.NDict.ext {P : Program} {w : World} {H : Hp} {a : Addr} {kvs : List (NestedKey × V)} (x : NDict P w H a kvs) : ∃ φ, H a = some (.ext φ) := let ⟨_, _, xs, h, _⟩ := x; ⟨_, h⟩
/-- what a store at an instance keeps -/
theorem upd_ins {H : Hp} {x C dx : Addr} {fs : List (Str × V)} {o : HO} (e : H x = some (.ins C dx fs)) {b : Addr} {o' : HO} (e' : H b = some o') (n : ∀ C dx fs, o' ≠ .ins C dx fs) : (upd H x o) b = some o' := by
  rw [upd_ne (fun z => by rw [z, e] at e'; exact n _ _ _ (Option.some.inj e').symm)]
  exact e'
theorem ins_tupK {H : Hp} {x C dx : Addr} {fs : List (Str × V)} {o : HO} (e : H x = some (.ins C dx fs)) : TupK H (upd H x o) := fun b xs h => upd_ins e h fun _ _ _ z => by cases z
theorem ins_lstK {H : Hp} {x C dx : Addr} {fs : List (Str × V)} {o : HO} (e : H x = some (.ins C dx fs)) : LstK H (upd H x o) := fun b xs h => upd_ins e h fun _ _ _ z => by cases z
/-- the tracker -/
def TrAt (P : Program) (w : World) (CT : Addr) (H : Hp) (a c r kn : Addr) (C : Circ) (D : Dl) (kvs : List (NestedKey × V)) : Prop :=
  ∃ (dx : Addr) (fs : List (Str × V)) (dl dd : Addr), H a = some (.ins CT dx fs) ∧ fget fs "circuit" = some (.ref c) ∧ fget fs "delays" = some (.ref dl) ∧ fget fs "origin" = some (.ref r) ∧ fget fs "driven" = some (.ref dd) ∧ fget fs "known" = some (.ref kn) ∧ fget fs "value" = none ∧
    DelAt H dl D ∧ DrvD H dd C ∧ NDict P w H kn kvs
theorem DrvD.keepX {H H' : Hp} {d : Addr} {C : Circ} (x : DrvD H d C) (k : KeepX H H') : DrvD H' d C := let ⟨kvs, h, r⟩ := x; ⟨kvs, k.dK h, r⟩
theorem TrAt.keep {P : Program} {w : World} {CT : Addr} {H H' : Hp} {a c r kn : Addr} {C : Circ} {D : Dl} {kvs kvs' : List (NestedKey × V)} (x : TrAt P w CT H a c r kn C D kvs) (k : KeepX H H') (nd : NDict P w H' kn kvs') : TrAt P w CT H' a c r kn C D kvs' := by
  obtain ⟨dx, fs, dl, dd, h1, h2, h3, h4, h5, h6, h7, h8, h9, h10⟩ := x
  exact ⟨dx, fs, dl, dd, k.ins h1, h2, h3, h4, h5, h6, h7, h8.keep k.lstK, h9.keepX k, nd⟩
theorem WaveAt.keepX {CW : Addr} {H H' : Hp} {a : Addr} {st : Bool} {chs : List Int} (x : WaveAt CW H a st chs) (k : KeepX H H') : WaveAt CW H' a st chs :=
  let ⟨dx, tt, fs, h1, h2, h3, h4, h5, h6⟩ := x
  ⟨dx, tt, fs, k.ins h1, h2, h3, h4, h5, k.tupK _ _ h6⟩
def WvIs (CW : Addr) (H : Hp) (wa : Addr) (f : Int → Bool) : Prop := ∃ st chs, WaveAt CW H wa st chs ∧ chs.length ≤ 1000 ∧ ∀ t, wval st chs t = f t
theorem WvIs.keepX {CW : Addr} {H H' : Hp} {wa : Addr} {f : Int → Bool} (x : WvIs CW H wa f) (k : KeepX H H') : WvIs CW H' wa f := let ⟨st, chs, h, r⟩ := x; ⟨st, chs, h.keepX k, r⟩
def WvsAt (CW : Addr) (H : Hp) (wd : Addr) (C : Circ) (ws : Str → Int → Bool) : Prop := ∃ kvs, H wd = some (.dK kvs) ∧ ∀ n ∈ C.srcs, ∃ wa, valV kvs (Sum.inr n) = some (.ref wa) ∧ WvIs CW H wa (ws n)
theorem WvsAt.keepX {CW : Addr} {H H' : Hp} {wd : Addr} {C : Circ} {ws : Str → Int → Bool} (x : WvsAt CW H wd C ws) (k : KeepX H H') : WvsAt CW H' wd C ws := by
  obtain ⟨kvs, h, q⟩ := x
  refine ⟨kvs, k.dK h, fun n hn => ?_⟩
  obtain ⟨wa, h1, h2⟩ := q n hn
  exact ⟨wa, h1, h2.keepX k⟩
/-- the classes of the program -/
structure Cs where
  CW : Addr
  CT : Addr
  CR : Addr
structure RS (P : Program) (w : World) (Y : Cs) (H : Hp) (r a c kn : Addr) (C : Circ) (D : Dl) (ws : Str → Int → Bool) (kvs : List (NestedKey × V)) : Prop where
  circ : CircAt H c C
  run : ∃ dx fs wd, H r = some (.ins Y.CR dx fs) ∧ fget fs "_circuit" = some (.ref c) ∧ fget fs "_waves" = some (.ref wd) ∧ fget fs "_tracker" = some (.ref a) ∧ fget fs "source_value" = none ∧ fget fs "value" = none ∧ fget fs "respects" = none ∧ WvsAt Y.CW H wd C ws
  trk : TrAt P w Y.CT H a c r kn C D kvs
theorem RS.keep {P : Program} {w : World} {Y : Cs} {H H' : Hp} {r a c kn : Addr} {C : Circ} {D : Dl} {ws : Str → Int → Bool} {kvs kvs' : List (NestedKey × V)} (x : RS P w Y H r a c kn C D ws kvs) (k : KeepX H H') (nd : NDict P w H' kn kvs') : RS P w Y H' r a c kn C D ws kvs' := by
  obtain ⟨h1, ⟨dx, fs, wd, g1, g2, g3, g4, g5, g6, g7, g8⟩, h3⟩ := x
  exact ⟨h1.keep k.tupK, ⟨dx, fs, wd, k.ins g1, g2, g3, g4, g5, g6, g7, g8.keepX k⟩, h3.keep k nd⟩
section
variable {P : Program} {w : World} {K : PySem.W.Frag} {mg : Str → Option Value} {base : Heap} {f : Addr} {fd : FuncData} {CT : Addr} {Y : Cs}
def spTrInit (P : Program) (w : World) (CT : Addr) : Sp := fun vs H Q _ => ∃ (x c d r dx : Addr) (C : Circ) (ord : List Gate) (D : Dl), vs = [.ref x, .ref c, .ref d, .ref r] ∧ H x = some (.ins CT dx []) ∧ CircAt H c C ∧ Wf C ord ∧ DelAt H d D ∧ DelOk C D ∧
  ∀ H' kn, But [x] H H' → H kn = none → TrAt P w CT H' x c r kn C D [] → Q .non H'
theorem ok_tr_init (F : Fun K "__init__" "Tracker.__init__" sTrackerU_initU f fd) (B : Bt mg) (TC : TrC K CT) (D_drivers : Ok P w K mg base "drivers" 1 ["circuit"] spDrivers) : FnOk P w K mg base CX0 2 f fd ["self", "circuit", "delays", "origin"] (spTrInit P w CT) := by
  refine F.ok scTrackerU_initU (fun vs H Q E h => ?_) (fun cdv A outer s H vs Q E hr h => ?_)
  · obtain ⟨_, _, _, _, _, _, _, _, rfl, _⟩ := h
    rfl
  obtain ⟨x, c, d, r, dx, C, ord, D, rfl, hx, hc, W, hd, ok, q⟩ := h
  refine ⟨_, (pss_cons (wSetF K (pv 0) (pv 1))
      (pss_cons (wSetF K (pv 0) (pe_lc (own := [("rows", 4)]) (g := (gName 4)) (tt := tYes) rfl scTrackerU_initU.nd (wForL K (pv 2)) (blkOk_by (N := ["self", "circuit", "delays", "origin", "rows", "row"]) (sc := defScope sTrackerU_initU) (by decide +kernel)) (fun _ _ _ _ _ => (pg_name (i := 4) scTrackerU_initU.nd rfl (Or.inl rfl))) (fun _ _ _ _ _ => pts_nil) (fun _ _ _ _ _ => (pe_lc (own := [("row", 5)]) (g := (gName 5)) (tt := tYes) rfl scTrackerU_initU.nd (wForL K (pv 4)) (blkOk_by (N := ["self", "circuit", "delays", "origin", "rows", "row"]) (sc := relS (compSc (asgVal ((defBody sTrackerU_initU).getD 1 (.Pass ⟨0, 0, 0, 0⟩)))) (defScope sTrackerU_initU)) (by decide +kernel)) (fun _ _ _ _ _ => (pg_name (i := 5) scTrackerU_initU.nd rfl (Or.inl rfl))) (fun _ _ _ _ _ => pts_nil) (fun _ _ _ _ _ => (pe_callTy (cList K) (by rfl) B.list_ boot_list' (pa_cons (pv 5) pa_nil)))))))
      (pss_cons (wSetF K (pv 0) (pv 3))
      (pss_cons (wSetF K (pv 0) (wCall D_drivers (hr.mono (by decide)) (pa_cons (pv 1) pa_nil)))
      (pss_one (wSetF K (pv 0) (wNE P w))))))), ?_⟩
  have few := W.few
  have lD := ok.len
  refine ⟨.ref c, rfl, .ref x, rfl, x, CT, dx, _, rfl, hx, TC.cls, TC.n1, by decide, ?_⟩
  have hx1 : (upd H x (.ins CT dx (putF "circuit" (.ref c) []))) x = some (.ins CT dx (putF "circuit" (.ref c) [])) := upd_same
  have b1 : But [x] H (upd H x (.ins CT dx (putF "circuit" (.ref c) []))) := But.mut (by simp)
  have hd1 := hd.keep (ins_lstK (o := .ins CT dx (putF "circuit" (.ref c) [])) hx)
  have hc1 := hc.keep (ins_tupK (o := .ins CT dx (putF "circuit" (.ref c) [])) hx)
  have fr1 : ∀ b, (upd H x (.ins CT dx (putF "circuit" (.ref c) []))) b = none → H b = none := fun b e => by
    by_cases z : b = x
    · rw [z, upd_same] at e; cases e
    · rw [upd_ne z] at e; exact e
  generalize upd H x (.ins CT dx (putF "circuit" (.ref c) [])) = H1 at hx1 b1 hd1 hc1 fr1 ⊢
  obtain ⟨da, hd2, hd3⟩ := hd1
  have ld := Paired.length hd3
  refine ⟨.ref d, rfl, d, rfl, ⟨_, SqL.of hd2⟩, fun L nL => lc_it walk_list
    (fun i H2 => Same H1 H2 ∧ ∃ was : List Addr, H2 L = some (.lst (was.map V.ref)) ∧ Paired (fun a rows => ∃ pa : List Addr, H2 a = some (.lst (pa.map V.ref)) ∧ a ≠ L ∧ Paired (fun b row => RowAt H2 b row ∧ b ≠ L) pa rows) was (D.take i))
    ⟨same_new nL, [], upd_same, .nil⟩ (fun i H2 _ ⟨s, _⟩ => SqL.of (s _ _ hd2)) ?_ ?_⟩
  · rintro i y H2 H3 hi ⟨s2, was, hL, hp⟩ ⟨rfl, ex⟩
    obtain ⟨a, ea, rfl⟩ := get_map ex
    obtain ⟨rows, er, pa, hp1, hp2⟩ := pget hd3 ea
    have lp := Paired.length hp2
    obtain ⟨gg, eg⟩ : ∃ g, C.gates[i]? = some g := ⟨_, List.getElem?_eq_getElem (by rw [← lD]; exact (List.getElem?_eq_some_iff.mp er).1)⟩
    have rl := (ok.at_ i gg rows eg er).1
    have n3 := (W.shape gg (List.mem_of_getElem? eg)).2.2.1
    refine ⟨rfl, .ref a, rfl, a, rfl, ⟨_, SqL.of (s2 _ _ hp1)⟩, fun M nM => lc_it walk_list
      (fun k H4 => Same H3 H4 ∧ ∃ qa : List Addr, H4 M = some (.lst (qa.map V.ref)) ∧ Paired (fun b row => RowAt H4 b row ∧ b ≠ L ∧ b ≠ M) qa (rows.take k))
      ⟨same_new nM, [], upd_same, .nil⟩ (fun k H4 _ ⟨s, _⟩ => SqL.of (s _ _ (s2 _ _ hp1))) ?_ ?_⟩
    · rintro k y H4 H5 hk ⟨s4, qa, hM, hq⟩ ⟨rfl, ey⟩
      obtain ⟨b, eb, rfl⟩ := get_map ey
      obtain ⟨row, erow, hrow⟩ := pget hp2 eb
      refine ⟨rfl, .ref b, rfl, b, _, rfl, .inl (SqL.of (s4 _ _ (s2 _ _ hrow))), fun l nl => ⟨_, same_new nl _ _ hM, ?_, ?_, qa ++ [l], ?_, ?_⟩⟩
      · rw [List.length_map, Paired.length hq, List.length_take]
        exact szlt (by omega)
      · exact Same.mutN (s4.trans (same_new nl)) nM
      · rw [upd_same, List.map_append]; rfl
      · have nlM : l ≠ M := fun z => by rw [z, hM] at nl; cases nl
        have nlL : l ≠ L := fun z => by rw [z, s4 _ _ hL] at nl; cases nl
        rw [take_snoc erow]
        refine Paired.snoc (Paired.mapP hq fun b' row' ⟨z1, z2, z3⟩ => ⟨?_, z2, z3⟩) ⟨?_, nlL, nlM⟩
        · show upd (upd H5 l _) M _ b' = _
          rw [upd_ne z3]
          exact same_new nl _ _ z1
        · show upd (upd H5 l _) M _ l = _
          rw [upd_ne nlM, upd_same]
    · rintro H4 ⟨s4, qa, hM, hq⟩
      rw [List.length_map, List.take_of_length_le (by omega)] at hq
      have nML : M ≠ L := fun z => by rw [z, hL] at nM; cases nM
      refine ⟨_, s4 _ _ hL, ?_, Same.mutN (s2.trans s4) nL, was ++ [M], ?_, ?_⟩
      · rw [List.length_map, Paired.length hp, List.length_take]
        exact szlt (by omega)
      · rw [upd_same, List.map_append]; rfl
      · rw [take_snoc er]
        refine Paired.snoc (Paired.mapP hp fun a' rows' ⟨pa', z1, z2, z3⟩ => ⟨pa', ?_, z2, Paired.mapP z3 fun b row ⟨y1, y2⟩ => ⟨?_, y2⟩⟩) ⟨qa, ?_, nML, Paired.mapP hq fun b row ⟨y1, y2, _⟩ => ⟨?_, y2⟩⟩
        · rw [upd_ne z2]; exact s4 _ _ z1
        · show upd H4 L _ b = _
          rw [upd_ne y2]; exact s4 _ _ y1
        · rw [upd_ne nML]; exact hM
        · show upd H4 L _ b = _
          rw [upd_ne y2]; exact y1
  rintro H2 ⟨s2, was, hL, hp⟩
  rw [List.length_map, List.take_of_length_le (by omega)] at hp
  have hdl : DelAt H2 L D := ⟨was, hL, Paired.mapP hp fun a rows ⟨pa, z1, _, z3⟩ => ⟨pa, z1, Paired.mapP z3 fun b row y => y.1⟩⟩
  have b2 : But [x] H H2 := b1.trans (Same.but [x] s2)
  have hx2 := s2 _ _ hx1
  have hc2 := hc1.keep s2.tupK
  clear hp
  refine ⟨.ref x, rfl, x, CT, dx, _, rfl, hx2, TC.cls, TC.n2, by show (1 : Nat) < 1000; decide, ?_⟩
  refine ⟨.ref r, rfl, .ref x, rfl, x, CT, dx, _, rfl, upd_same, TC.cls, TC.n3, by show (2 : Nat) < 1000; decide, ?_⟩
  rw [upd_upd]
  have hx3 := upd_same (H := H2) (a := x) (o := .ins CT dx (putF "origin" (.ref r) (putF "delays" (.ref L) (putF "circuit" (.ref c) []))))
  have b3 : But [x] H (upd H2 x (.ins CT dx (putF "origin" (.ref r) (putF "delays" (.ref L) (putF "circuit" (.ref c) []))))) := b2.trans (But.mut (by simp))
  have hdl3 := hdl.keep (ins_lstK (o := .ins CT dx (putF "origin" (.ref r) (putF "delays" (.ref L) (putF "circuit" (.ref c) [])))) hx2)
  have hc3 := hc2.keep (ins_tupK (o := .ins CT dx (putF "origin" (.ref r) (putF "delays" (.ref L) (putF "circuit" (.ref c) [])))) hx2)
  have fr3 : ∀ b, (upd H2 x (.ins CT dx (putF "origin" (.ref r) (putF "delays" (.ref L) (putF "circuit" (.ref c) []))))) b = none → H b = none := fun b e => by
    by_cases z : b = x
    · rw [z, upd_same] at e; cases e
    · rw [upd_ne z] at e; exact fr1 b (s2.free e)
  generalize upd H2 x (.ins CT dx (putF "origin" (.ref r) (putF "delays" (.ref L) (putF "circuit" (.ref c) [])))) = H3 at hx3 b3 hdl3 hc3 fr3 ⊢
  refine ⟨.ref c, rfl, c, C, rfl, hc3, by omega, fun dd H4 s4 ndd hdd => ⟨.ref x, rfl, x, CT, dx, _, rfl, s4 _ _ hx3, TC.cls, TC.n4, by show (3 : Nat) < 1000; decide, ?_⟩⟩
  have hdd' : DrvD H4 dd C := hdd.told W
  have hx4 := s4 _ _ hx3
  have hdl4 := hdl3.keep s4.lstK
  have b4 := b3.trans (Same.but [x] s4)
  have fr4 : ∀ b, H4 b = none → H b = none := fun b e => fr3 b (s4.free e)
  have nddx : dd ≠ x := fun z => by rw [z, hx3] at ndd; cases ndd
  refine fun kn o nkn nd => ?_
  have nkx : kn ≠ x := fun z => by rw [z, upd_same] at nkn; cases nkn
  have nkH : H kn = none := fr4 _ (by rw [upd_ne nkx] at nkn; exact nkn)
  have hx5 := upd_same (H := H4) (a := x) (o := .ins CT dx (putF "driven" (.ref dd) (putF "origin" (.ref r) (putF "delays" (.ref L) (putF "circuit" (.ref c) [])))))
  refine ⟨.ref x, rfl, x, CT, dx, _, rfl, same_new nkn _ _ hx5, TC.cls, TC.n5, by show (4 : Nat) < 1000; decide, ?_⟩
  have hx6 := same_new (o := o) nkn _ _ hx5
  refine q _ kn ((b4.trans (But.mut (by simp))).trans ((But.new nkn).trans (But.mut (by simp)))) nkH ⟨dx, _, L, dd, upd_same, rfl, rfl, rfl, rfl, rfl, rfl, ?_, ?_, ?_⟩
  · exact ((hdl4.keep (ins_lstK hx4)).keep (Same.lstK (same_new nkn))).keep (ins_lstK hx6)
  · refine hdd'.keep fun o' e => ?_
    rw [upd_ne nddx]
    refine same_new nkn _ _ ?_
    rw [upd_ne nddx]
    exact e
  · exact nd.keep (ins_tupK hx6) fun o' e => by rw [upd_ne nkx]; exact e
def spRunInit (P : Program) (w : World) (Y : Cs) : Sp := fun vs H Q _ => ∃ (x c wl d dx : Addr) (was : List Addr) (C : Circ) (ord : List Gate) (D : Dl) (ws : Str → Int → Bool), vs = [.ref x, .ref c, .ref wl, .ref d] ∧ H x = some (.ins Y.CR dx []) ∧ CircAt H c C ∧ Wf C ord ∧ DelAt H d D ∧ DelOk C D ∧
  H wl = some (.lst (was.map V.ref)) ∧ Paired (fun wa n => WvIs Y.CW H wa (ws n)) was C.srcs ∧ ∀ H' a kn, But [x] H H' → H kn = none → RS P w Y H' x a c kn C D ws [] → Q .non H'
theorem ok_run_init (F : Fun K "__init__" "Run.__init__" sRunU_initU f fd) (B : Bt mg) (RC : RnC K Y.CR) (D_sources : Ok P w K mg base "sources" 1 ["circuit"] spSources) (D_check_delays : Ok P w K mg base "check_delays" 1 ["circuit", "delays"] spCheckDelays)
    (D_Tracker : COk P w K mg base "Tracker" Y.CT 2 ["self", "circuit", "delays", "origin"] (spTrInit P w Y.CT)) : FnOk P w K mg base CX0 4 f fd ["self", "circuit", "waves", "delays"] (spRunInit P w Y) := by
  refine F.ok scRunU_initU (fun vs H Q E h => ?_) (fun cdv A outer s H vs Q E hr h => ?_)
  · obtain ⟨_, _, _, _, _, _, _, _, _, _, rfl, _⟩ := h
    rfl
  obtain ⟨x, c, wl, d, dx, was, C, ord, D, ws, rfl, hx, hc, W, hd, ok, hwl, hws, q⟩ := h
  refine ⟨_, (pss_cons (ps_if (pt_cmpR op_ne (pe_callB (cLen K) (by rfl) B.len_ PySem.boot_len (pa_cons (pv 2) pa_nil)) (pe_callB (cLen K) (by rfl) B.len_ PySem.boot_len (pa_cons (wCall D_sources (hr.mono (by decide)) (pa_cons (pv 1) pa_nil)) pa_nil)) (nomark _)) (pss_one ps_never) pss_nil)
      (pss_cons (ps_expr (wCall D_check_delays (hr.mono (by decide)) (pa_cons (pv 1) (pa_cons (pv 3) pa_nil))))
      (pss_cons (wSetF K (pv 0) (pv 1))
      (pss_cons (wSetF K (pv 0) (pe_dc (own := [("net", 4), ("wave", 5)]) (g := (gTup K 2 (gCons (gName 4) (gCons (gName 5) gNil)))) (tt := tYes) rfl scRunU_initU.nd (wZ2 false false K B.zip_ (pa_cons (wCall D_sources (hr.mono (by decide)) (pa_cons (pv 1) pa_nil)) (pa_cons (pv 2) pa_nil))) (blkOk_by (N := ["self", "circuit", "waves", "delays", "net", "wave"]) (sc := defScope sRunU_initU) (by decide +kernel)) (fun _ _ _ _ _ => (wTupG K rfl (pgs_cons (pg_name (i := 4) scRunU_initU.nd rfl (Or.inl rfl)) (pgs_cons (pg_name (i := 5) scRunU_initU.nd rfl (Or.inl rfl)) pgs_nil)))) (fun _ _ _ _ _ => pts_nil) (fun _ _ _ _ _ => (pv 4)) (fun _ _ _ _ _ => (pv 5))))
      (pss_one (wSetF K (pv 0) (wMake D_Tracker (hr.mono (by decide)) (pa_cons (pv 1) (pa_cons (pv 3) (pa_cons (pv 0) pa_nil)))))))))), ?_⟩
  have few := W.few
  have sm := W.small
  have few2 := W.few2
  have lw := Paired.length hws
  have hsl : C.srcs.length ≤ 1000 := by omega
  refine ⟨.ref wl, rfl, wl, _, rfl, .inl (SqL.of hwl), .ref c, rfl, c, C, rfl, hc, hsl, fun p1 H1 s1 np1 hp1 => ⟨p1, _, rfl, .inl (SqL.of hp1), rfl, _, rfl, ite2 (fun hne => ?_) (fun _ => ?_)⟩⟩
  · have := i_ne hne
    rw [List.length_map, List.length_map] at this
    omega
  refine ⟨.ref c, rfl, .ref d, rfl, c, d, C, ord, D, rfl, hc.keep s1.tupK, W, hd.keep s1.lstK, ok, fun H2 s2 => ?_⟩
  have s12 := s1.trans s2
  have hx2 := s12 _ _ hx
  refine ⟨.ref c, rfl, .ref x, rfl, x, Y.CR, dx, _, rfl, hx2, RC.cls, RC.n1, by decide, ?_⟩
  have hx3 := upd_same (H := H2) (a := x) (o := .ins Y.CR dx (putF "_circuit" (.ref c) []))
  have b3 : But [x] H (upd H2 x (.ins Y.CR dx (putF "_circuit" (.ref c) []))) := (Same.but [x] s12).trans (But.mut (by simp))
  have fr3 : ∀ b, (upd H2 x (.ins Y.CR dx (putF "_circuit" (.ref c) []))) b = none → H b = none := fun b e => by
    by_cases z : b = x
    · rw [z, upd_same] at e; cases e
    · rw [upd_ne z] at e; exact s12.free e
  generalize upd H2 x (.ins Y.CR dx (putF "_circuit" (.ref c) [])) = H3 at hx3 b3 fr3 ⊢
  have tk3 : TupK H H3 := b3.tupK fun m hm xs e => by rw [List.mem_singleton.mp hm, hx] at e; cases e
  have lk3 : LstK H H3 := fun b xs e => b3 b _ e fun z => by rw [List.mem_singleton.mp z, hx] at e; cases e
  have kx : ∀ {wa : Addr} {fw : Int → Bool}, WvIs Y.CW H wa fw → wa ≠ x := fun ⟨_, _, ⟨_, _, fs, z1, z2, _⟩, _⟩ z => by
    rw [z, hx] at z1
    injection z1 with z1
    injection z1 with _ _ z3
    rw [← z3] at z2
    cases z2
  refine ⟨.ref c, rfl, c, C, rfl, hc.keep tk3, hsl, fun p H4 s4 np hp => ⟨.ref wl, rfl, p, wl, _, _, rfl, SqL.of hp, SqL.of (s4 _ _ (lk3 _ _ hwl)), fun E0 nE => dc_it (walk_z2 (n := C.srcs.length) (List.length_map _) (by rw [List.length_map]; exact lw))
    (fun i H5 => Same H4 H5 ∧ ∃ kvs, H5 E0 = some (.dK kvs) ∧ kvs.length ≤ i ∧ ∀ (j : Nat) n, j < i → C.srcs[j]? = some n → ∃ wa, valV kvs (Sum.inr n) = some (.ref wa) ∧ was[j]? = some wa)
    ⟨same_new nE, [], upd_same, Nat.le_refl _, fun j n hj => absurd hj (by omega)⟩ (fun i H5 _ ⟨s, _⟩ => ⟨SqL.of (s _ _ hp), SqL.of (s _ _ (s4 _ _ (lk3 _ _ hwl)))⟩) ?_ ?_⟩⟩
  · rintro i y H5 H6 hi ⟨s5, kvs, hD, hk, hval⟩ ⟨T, x1, x2, rfl, nT, rfl, e1, e2⟩
    obtain ⟨n, en, rfl⟩ := get_map e1
    obtain ⟨wa, ew, rfl⟩ := get_map e2
    have s6 := s5.trans (same_new (o := .tup [.str n, .ref wa]) nT)
    refine ⟨T, _, rfl, SqT.of upd_same, rfl, _, _, rfl, _, _, rfl, rfl, rfl, ?_⟩
    refine ⟨.str n, rfl, .ref wa, rfl, kvs, Sum.inr n, rfl, same_new nT _ _ hD, szlt (by omega), s6.mutN nE, _, upd_same, Nat.le_trans (length_putK _ _ _) (by omega), fun j z hj ej => ?_⟩
    rw [valV_put]
    by_cases e : j = i
    · subst e
      rw [en] at ej
      cases ej
      rw [if_pos rfl]
      exact ⟨wa, rfl, ew⟩
    · have ne : ¬ (Sum.inr z : Key) = Sum.inr n := fun z' => e (nd_get W.snd ej (by rw [Sum.inr.inj z']; exact en))
      rw [if_neg ne]
      exact hval j z (by omega) ej
  rintro H5 ⟨s5, kvs, hE, hk, hval⟩
  have s35 := s4.trans s5
  have hx5 := s35 _ _ hx3
  refine ⟨.ref x, rfl, x, Y.CR, dx, _, rfl, hx5, RC.cls, RC.n2, by show (1 : Nat) < 1000; decide, ?_⟩
  have nEx : E0 ≠ x := fun z => by rw [z, s4 _ _ hx3] at nE; cases nE
  have hx6 := upd_same (H := H5) (a := x) (o := .ins Y.CR dx (putF "_waves" (.ref E0) (putF "_circuit" (.ref c) [])))
  have hE6 : (upd H5 x (.ins Y.CR dx (putF "_waves" (.ref E0) (putF "_circuit" (.ref c) [])))) E0 = some (.dK kvs) := by rw [upd_ne nEx]; exact hE
  have b6 : But [x] H (upd H5 x (.ins Y.CR dx (putF "_waves" (.ref E0) (putF "_circuit" (.ref c) [])))) := (b3.trans (Same.but [x] s35)).trans (But.mut (by simp))
  have fr6 : ∀ b, (upd H5 x (.ins Y.CR dx (putF "_waves" (.ref E0) (putF "_circuit" (.ref c) [])))) b = none → H b = none := fun b e => by
    by_cases z : b = x
    · rw [z, upd_same] at e; cases e
    · rw [upd_ne z] at e; exact fr3 b (s35.free e)
  generalize upd H5 x (.ins Y.CR dx (putF "_waves" (.ref E0) (putF "_circuit" (.ref c) []))) = H6 at hx6 hE6 b6 fr6 ⊢
  have tk6 : TupK H H6 := b6.tupK fun m hm xs e => by rw [List.mem_singleton.mp hm, hx] at e; cases e
  have lk6 : LstK H H6 := fun b xs e => b6 b _ e fun z => by rw [List.mem_singleton.mp z, hx] at e; cases e
  refine ⟨.ref c, rfl, .ref d, rfl, .ref x, rfl, fun a dxa na ndx nea => ?_⟩
  have nna : (upd H6 dxa (.own a)) a = none := by rw [upd_ne nea.symm]; exact na
  have sA : Same H6 (upd (upd H6 dxa (.own a)) a (.ins Y.CT dxa [])) := (same_new ndx).trans (same_new nna)
  refine ⟨a, c, d, x, dxa, C, ord, D, rfl, upd_same, (hc.keep tk6).keep sA.tupK, W, (hd.keep lk6).keep sA.lstK, ok, fun H7 kn b7 nkn tr => ⟨rfl, ?_⟩⟩
  have s7 : Same H6 H7 := fun b o e => b7 b o (sA _ _ e) fun z => by rw [List.mem_singleton.mp z, na] at e; cases e
  have hx7 := s7 _ _ hx6
  have nax : a ≠ x := fun z => by rw [z, hx6] at na; cases na
  refine ⟨.ref x, rfl, x, Y.CR, dx, _, rfl, hx7, RC.cls, RC.n3, by show (2 : Nat) < 1000; decide, ?_⟩
  have b8 : But [x] H (upd H7 x (.ins Y.CR dx (putF "_tracker" (.ref a) (putF "_waves" (.ref E0) (putF "_circuit" (.ref c) []))))) := (b6.trans (Same.but [x] s7)).trans (But.mut (by simp))
  have tk8 := b8.tupK fun m hm xs e => by rw [List.mem_singleton.mp hm, hx] at e; cases e
  have kn0 : H kn = none := fr6 _ (sA.free nkn)
  have nknx : kn ≠ x := fun z => by rw [z, hx] at kn0; cases kn0
  obtain ⟨dxa', fsa, dl, dd, g1, g2, g3, g4, g5, g6, g7, g8, g9, g10⟩ := tr
  refine q _ a kn b8 kn0 ⟨hc.keep tk8, ⟨dx, _, E0, upd_same, rfl, rfl, rfl, rfl, rfl, rfl, kvs, ?_, fun n hn => ?_⟩, ⟨dxa', fsa, dl, dd, ?_, g2, g3, g4, g5, g6, g7, ?_, ?_, ?_⟩⟩
  · rw [upd_ne nEx]; exact s7 _ _ hE6
  · obtain ⟨j, hj, ej⟩ := List.mem_iff_getElem.mp hn
    obtain ⟨wa, v1, v2⟩ := hval j n hj (by rw [← ej]; exact List.getElem?_eq_getElem hj)
    obtain ⟨n', en', hwv⟩ := pget hws v2
    rw [List.getElem?_eq_getElem hj, ej] at en'
    cases en'
    refine ⟨wa, v1, ?_⟩
    obtain ⟨st, chs, hwa, r1⟩ := hwv
    refine ⟨st, chs, hwa.keep tk8 fun o e => b8 _ _ e fun z => kx ⟨st, chs, hwa, r1⟩ (List.mem_singleton.mp z), r1⟩
  · rw [upd_ne nax]; exact g1
  · exact g8.keep (ins_lstK hx7)
  · refine g9.keep fun o e => ?_
    obtain ⟨kd, hd1, _⟩ := g9
    rw [hd1] at e
    cases e
    exact upd_ins hx7 hd1 fun _ _ _ z => by cases z
  · exact g10.keep (ins_tupK hx7) fun o e => by rw [upd_ne nknx]; exact e
def spSrcVal (P : Program) (w : World) (Y : Cs) : Sp := fun vs H Q _ => ∃ (r a c kn : Addr) (C : Circ) (D : Dl) (ws : Str → Int → Bool) (kvs : List (NestedKey × V)) (n : Str) (t : Int), vs = [.ref r, .str n, .int t] ∧ RS P w Y H r a c kn C D ws kvs ∧ n ∈ C.srcs ∧ ∀ H', Same H H' → Q (.bl (ws n t)) H'
theorem ok_source_value (F : Fun K "source_value" "Run.source_value" sRun_source_value f fd) (B : Bt mg) (RC : RnC K Y.CR) (D_value_at : MOk P w K mg base Y.CW "value_at" 1 ["self", "time"] (spWValueAt Y.CW)) : FnOk P w K mg base CX0 2 f fd ["self", "net", "time"] (spSrcVal P w Y) := by
  refine F.ok scRun_source_value (fun vs H Q E h => ?_) (fun cdv A outer s H vs Q E hr h => ?_)
  · obtain ⟨_, _, _, _, _, _, _, _, _, _, rfl, _⟩ := h
    rfl
  obtain ⟨r, a, c, kn, C, D, ws, kvs, n, t, rfl, S, hn, q⟩ := h
  refine ⟨_, (pss_one (ps_ret (wMeth D_value_at (wDG hr.units (wFld K (pv 0)) (pv 1)) (hr.mono (by decide)) (pa_cons (pv 2) pa_nil)))), ?_⟩
  obtain ⟨dx, fs, wd, g1, g2, g3, g4, g5, g6, g7, wk, g8, g9⟩ := S.run
  obtain ⟨wa, v1, st, chs, hw, hl, hv⟩ := g9 n hn
  have hw0 := hw
  obtain ⟨dxw, tt, fsw, w1, w2, w3, w4, w5, w6⟩ := hw0
  refine ⟨.ref r, rfl, r, Y.CR, dx, fs, _, rfl, g1, RC.cls, RC.n2, g3, .str n, rfl, wd, .ref wa, rfl, (by rw [← v1]; exact DGet.k (k := Sum.inr n) g8), wa, dxw, fsw, rfl, w1, w5, .int t, rfl, wa, st, chs, t, rfl, hw, hl, fun H' s' => ?_⟩
  rw [hv]
  exact q H' s'
end
end L2.Sg

/-! known tables; Tracker.value -/
namespace L2.Sg
open PySem PySem.Spec PyProof.Rows L2.Lx
abbrev sTracker_value : Stmt := inClass (topS 29) 1
theorem scTracker_value : FnScope ["self", "net", "time", "key", "index", "gate", "bits", "name", "row"] ["self", "net", "time"] (defScope sTracker_value) := ⟨rfl, rfl, rfl, by decide +kernel, rfl, by decide +kernel, by decide +kernel⟩

def keyR (rest : List NestedKey) (n : Str) (t : Int) : NestedKey := .tup (.text n :: .num t :: rest)
theorem keyR_inj {rest : List NestedKey} {n m : Str} {t u : Int} (h : keyR rest n t = keyR rest m u) : n = m ∧ t = u := by
  unfold keyR at h
  injection h with h
  injection h with h1 h2
  injection h1 with h1
  injection h2 with h2 _
  injection h2 with h2
  exact ⟨h1, h2⟩
structure Kn (C : Circ) (rest : List NestedKey) (val : Str → Int → Bool) (kvs : List (NestedKey × V)) : Prop where
  at_ : ∀ kv ∈ kvs, ∃ n t, n ∈ C.nets ∧ -1000 ≤ t ∧ t ≤ 1000 ∧ kv.1 = keyR rest n t ∧ kv.2 = .bl (val n t)
  nd : (kvs.map (·.1)).Nodup
theorem Kn.nil {C : Circ} {rest : List NestedKey} {val : Str → Int → Bool} : Kn C rest val [] := ⟨fun kv h => (nomatch h), List.nodup_nil⟩
theorem valV_mem {kvs : List (NestedKey × V)} {k : NestedKey} {v : V} (h : valV kvs k = some v) : (k, v) ∈ kvs := by
  unfold valV at h
  obtain ⟨p, hp, e⟩ := Option.map_eq_some_iff.mp h
  have h1 := List.mem_of_find?_eq_some hp
  have h2 : p.1 = k := of_decide_eq_true (List.find?_some (p := fun (kv : NestedKey × V) => decide (kv.1 = k)) hp)
  rw [← h2, ← e]
  exact h1
theorem valV_out {kvs : List (NestedKey × V)} {k : NestedKey} (h : valV kvs k = none) : k ∉ kvs.map (·.1) := fun z => by
  obtain ⟨p, hp, e⟩ := List.mem_map.mp z
  have q := valV_any k kvs
  rw [h] at q
  have : (kvs.any fun kv => decide (kv.1 = k)) = true := List.any_eq_true.mpr ⟨p, hp, decide_eq_true e⟩
  rw [this] at q
  cases q
section
variable {C : Circ} {rest : List NestedKey} {val : Str → Int → Bool} {kvs : List (NestedKey × V)}
theorem Kn.told (x : Kn C rest val kvs) {n : Str} {t : Int} {v : V} (h : valV kvs (keyR rest n t) = some v) : v = .bl (val n t) := by
  obtain ⟨m, u, _, _, _, e1, e2⟩ := x.at_ _ (valV_mem h)
  obtain ⟨rfl, rfl⟩ := keyR_inj e1
  exact e2
theorem Kn.put (x : Kn C rest val kvs) {n : Str} {t : Int} (hn : n ∈ C.nets) (h1 : -1000 ≤ t) (h2 : t ≤ 1000) : Kn C rest val (putK kvs (keyR rest n t) (.bl (val n t))) := by
  cases h : valV kvs (keyR rest n t) with
  | none =>
    rw [putK_new _ h]
    refine ⟨fun kv hkv => ?_, ?_⟩
    · rcases List.mem_append.mp hkv with z | z
      · exact x.at_ kv z
      · rw [List.mem_singleton.mp z]
        exact ⟨n, t, hn, h1, h2, rfl, rfl⟩
    · rw [List.map_append]
      refine List.nodup_append.mpr ⟨x.nd, by simp, fun a ha b hb e => ?_⟩
      have : b = keyR rest n t := by simpa using hb
      rw [e, this] at ha
      exact valV_out h ha
  | some v =>
    have e : putK kvs (keyR rest n t) (.bl (val n t)) = kvs.map fun kv => if kv.1 = keyR rest n t then (kv.1, .bl (val n t)) else kv := by
      unfold putK
      rw [valV_any, h]
      exact if_pos rfl
    rw [e]
    refine ⟨fun kv hkv => ?_, ?_⟩
    · obtain ⟨p, hp, ep⟩ := List.mem_map.mp hkv
      by_cases z : p.1 = keyR rest n t
      · rw [if_pos z] at ep
        rw [← ep]
        exact ⟨n, t, hn, h1, h2, z, rfl⟩
      · rw [if_neg z] at ep
        rw [← ep]
        exact x.at_ p hp
    · rw [List.map_map]
      have : ((fun kv : NestedKey × V => kv.1) ∘ fun kv => if kv.1 = keyR rest n t then (kv.1, V.bl (val n t)) else kv) = fun kv => kv.1 := by
        funext kv
        show (if kv.1 = keyR rest n t then (kv.1, V.bl (val n t)) else kv).1 = kv.1
        split <;> rfl
      rw [this]
      exact x.nd
theorem Kn.len (x : Kn C rest val kvs) : kvs.length ≤ C.nets.length * 2001 := by
  have h := nd_sub (l := kvs.map (·.1)) (m := C.nets.flatMap fun n => (List.range 2001).map fun (j : Nat) => keyR rest n ((j : Int) - 1000)) x.nd fun k hk => by
    obtain ⟨p, hp, e⟩ := List.mem_map.mp hk
    obtain ⟨n, t, hn, h1, h2, e1, _⟩ := x.at_ p hp
    refine List.mem_flatMap.mpr ⟨n, hn, List.mem_map.mpr ⟨(t + 1000).toNat, List.mem_range.mpr (by omega), ?_⟩⟩
    rw [← e, e1]
    congr 1
    omega
  rw [List.length_map] at h
  refine Nat.le_trans h ?_
  clear h x
  induction C.nets with
  | nil => simp
  | cons a r ih =>
    rw [List.flatMap_cons, List.length_append, List.length_map, List.length_range, List.length_cons]
    omega
theorem Kn.room {ord : List Gate} (x : Kn C rest val kvs) (W : Wf C ord) : kvs.length < sizeLine := by
  have h := x.len
  have h1 := W.few
  have h2 := W.few2
  have h3 : C.nets.length ≤ 16 := by
    rw [List.length_append] at h2
    rw [List.length_append, List.length_append, List.length_map]
    omega
  exact szlt (by omega)
end
/-! ### the values of a run -/
def pinsOf (C : Circ) (D : Dl) (g : Gate) : List (Str × List Int) := g.nets.zip (D.getD ((dIx C g.name).getD 0) [])
def dly (row : List Int) (t : Int) : Int := row.getD (t % (row.length : Int)).toNat 0
def rvStep (C : Circ) (D : Dl) (g : Gate) (e : Str → Int → Bool) : Int → Bool := fun t => g.tab.getD (idx ((pinsOf C D g).map fun p => e p.1 (t - dly p.2 t))) false
theorem rvSees (C : Circ) (D : Dl) : Sees (rvStep C D) := fun g e e' h => by
  funext t
  unfold rvStep
  rw [List.map_congr_left fun p hp => by rw [h p.1 (List.of_mem_zip (show (p.1, p.2) ∈ _ from hp)).1]]
def rv (C : Circ) (D : Dl) (ws : Str → Int → Bool) : Str → Int → Bool := ev C (rvStep C D) ws
theorem pins_at {C : Circ} {ord : List Gate} (W : Wf C ord) {D : Dl} {i : Nat} {g : Gate} {rows : List (List Int)} (eg : C.gates[i]? = some g) (er : D[i]? = some rows) : pinsOf C D g = g.nets.zip rows := by
  unfold pinsOf
  rw [dIx_at W eg]
  show g.nets.zip (D.getD i []) = _
  rw [List.getD_eq_getElem?_getD, er]
  rfl
section
variable {P : Program} {w : World} {K : PySem.W.Frag} {mg : Str → Option Value} {base : Heap} {f : Addr} {fd : FuncData} {Y : Cs}
def spTrVal (P : Program) (w : World) (Y : Cs) (k : Nat) : Sp := fun vs H Q _ => ∃ (r a c kn : Addr) (C : Circ) (ord : List Gate) (D : Dl) (ws : Str → Int → Bool) (kvs : List (NestedKey × V)) (n : Str) (t : Int), vs = [.ref a, .str n, .int t] ∧ RS P w Y H r a c kn C D ws kvs ∧ Wf C ord ∧ DelOk C D ∧
  Kn C [] (rv C D ws) kvs ∧ Lv C ord k n ∧ -1000 + 20 * (k : Int) ≤ t ∧ t ≤ 1000 ∧ ∀ H' kvs', But [kn] H H' → RS P w Y H' r a c kn C D ws kvs' → Kn C [] (rv C D ws) kvs' → Q (.bl (rv C D ws n t)) H'
theorem RS.nd {P : Program} {w : World} {Y : Cs} {H : Hp} {r a c kn : Addr} {C : Circ} {D : Dl} {ws : Str → Int → Bool} {kvs : List (NestedKey × V)} (x : RS P w Y H r a c kn C D ws kvs) : NDict P w H kn kvs := let ⟨_, _, _, _, _, _, _, _, _, _, _, _, _, nd⟩ := x.trk; nd
theorem lst_tupK {H : Hp} {p : Addr} {xs : List V} {o : HO} (e : H p = some (.lst xs)) : TupK H (upd H p o) := fun b ys h => by
  rw [upd_ne (fun z => by rw [z, e] at h; cases h)]
  exact h
theorem RS.but {P : Program} {w : World} {Y : Cs} {H H' : Hp} {r a c kn : Addr} {C : Circ} {D : Dl} {ws : Str → Int → Bool} {kvs kvs' : List (NestedKey × V)} (x : RS P w Y H r a c kn C D ws kvs) (b : But [kn] H H') (nd : NDict P w H' kn kvs') : RS P w Y H' r a c kn C D ws kvs' :=
  x.keep (b.keepX fun m hm => by rw [List.mem_singleton.mp hm]; exact x.nd.ext) nd
def spNo : Sp := fun _ _ _ _ => False
/-- what the recursive call may use: one level less -/
def spTrRec (P : Program) (w : World) (Y : Cs) : Nat → Sp
  | 0 => spNo
  | k + 1 => spTrVal P w Y k
theorem ok_tr_step (k l : Nat) (F : Fun K "value" "Tracker.value" sTracker_value f fd) (B : Bt mg) (TC : TrC K Y.CT) (D_look_up : Ok P w K mg base "look_up" 1 ["table", "bits"] spLookUp) (D_source_value : MOk P w K mg base Y.CR "source_value" 2 ["self", "net", "time"] (spSrcVal P w Y))
    (D_rec : MOk P w K mg base Y.CT "value" (l + 2) ["self", "net", "time"] (spTrRec P w Y k)) : FnOk P w K mg base CX0 (l + 3) f fd ["self", "net", "time"] (spTrVal P w Y k) := by
  refine F.ok scTracker_value (fun vs H Q E h => ?_) (fun cdv A outer s H vs Q E hr h => ?_)
  · obtain ⟨_, _, _, _, _, _, _, _, _, _, _, rfl, _⟩ := h
    rfl
  obtain ⟨r, a, c, kn, C, ord, D, ws, kvs, n, t, rfl, S, W, ok, Kk, lv, t1, t2, q⟩ := h
  refine ⟨_, (pss_cons (ps_if (tDNi' hr.units (pv 1) (wFld K (pv 0))) (pss_one (ps_ret (wMeth D_source_value (wFld K (pv 0)) (hr.mono (by first | decide | omega)) (pa_cons (pv 1) (pa_cons (pv 2) pa_nil))))) pss_nil)
      (pss_cons (ps_set (i := 3) scTracker_value.nd rfl (Or.inl rfl) (pe_tup (pa_cons (pv 1) (pa_cons (pv 2) pa_nil))))
      (pss_cons (ps_if (tNNi' P w hr.units (pv 3) (wFld K (pv 0))) (pss_cons (ps_set (i := 4) scTracker_value.nd rfl (Or.inl rfl) (wDG hr.units (wFld K (pv 0)) (pv 1)))
      (pss_cons (ps_set (i := 5) scTracker_value.nd rfl (Or.inl rfl) (wIxT K (wIxT K (wFld K (pv 0)) pe_int) (pv 4)))
      (pss_cons (ps_set (i := 6) scTracker_value.nd rfl (Or.inl rfl) (pe_lst pa_nil))
      (pss_cons (ps_for PassesOwn.never rfl (wZ2 true false K B.zip_ (pa_cons (wIxT K (pv 5) pe_int) (pa_cons (wIxL K (wFld K (pv 0)) (pv 4)) pa_nil))) (wTupG K rfl (pgs_cons (pg_name (i := 7) scTracker_value.nd rfl (Or.inl rfl)) (pgs_cons (pg_name (i := 8) scTracker_value.nd rfl (Or.inl rfl)) pgs_nil))) (pss_one (ps_expr (pe_bm PySem.F.plainAttrs_list PySem.F.slot_list_append PySem.F.type_list_append mt_append (pv 6) (pa_cons (wMeth D_rec (pv 0) (hr.mono (by first | decide | omega)) (pa_cons (pv 7) (pa_cons (pe_op op_sub (pv 2) (wIxL K (pv 8) (pe_op op_mod (pv 2) (pe_callB (cLen K) (by rfl) B.len_ PySem.boot_len (pa_cons (pv 8) pa_nil))))) pa_nil))) pa_nil)))))
      (pss_one (wNP P w hr.units (wFld K (pv 0)) (pv 3) (wCall D_look_up (hr.mono (by first | decide | omega)) (pa_cons (wIxT K (pv 5) pe_int) (pa_cons (pv 6) pa_nil))))))))) pss_nil)
      (pss_one (ps_ret (wNG P w hr.units (wFld K (pv 0)) (pv 3))))))), ?_⟩
  have few := W.few
  obtain ⟨dx, fs, dl, dd, g1, g2, g3, g4, g5, g6, g7, g8, g9, g10⟩ := S.trk
  obtain ⟨kd, hd1, hd2⟩ := g9
  obtain ⟨dxr, fsr, wd, r1, r2, r3, r4, r5, r6, r7, r8⟩ := S.run
  refine ⟨.str n, rfl, .ref a, rfl, a, Y.CT, dx, fs, _, rfl, g1, TC.cls, TC.n4, g5, dd, _, rfl, DGet.k (k := Sum.inr n) hd1, _, rfl, ite2 (fun hni => ?_) (fun hin => ?_)⟩
  · -- a source
    have hnone : dIx C n = none := by
      rw [hd2, Option.isSome_map] at hni
      cases z : dIx C n with
      | none => rfl
      | some i => rw [z] at hni; cases hni
    have hns : n ∈ C.srcs := by
      rcases List.mem_append.mp (W.of_lv lv) with z | z
      · exact z
      · obtain ⟨g, hg, en⟩ := List.mem_map.mp z
        exact absurd en (dIx_none hnone g hg)
    refine ⟨.ref a, rfl, a, Y.CT, dx, fs, _, rfl, g1, TC.cls, TC.n3, g4, r, dxr, fsr, rfl, r1, r5, .str n, rfl, .int t, rfl, r, a, c, kn, C, D, ws, kvs, n, t, rfl, S, hns, fun H' s' => ?_⟩
    have e : rv C D ws n t = ws n t := by unfold rv; rw [ev_src W hns]
    rw [← e]
    exact q H' kvs (Same.but _ s') (S.keep s'.keepX (g10.keep s'.tupK fun o e => s' _ _ e)) Kk
  -- a gate
  obtain ⟨i, ei⟩ : ∃ i, dIx C n = some i := by
    cases z : dIx C n with
    | none => rw [hd2, z] at hin; exact absurd rfl hin
    | some i => exact ⟨i, rfl⟩
  obtain ⟨g, eg, en⟩ := dIx_some ei
  subst en
  have hg := List.mem_of_getElem? eg
  have hnets : g.name ∈ C.nets := W.of_lv lv
  have ev : valV kd (Sum.inr g.name) = some (.int (i : Nat)) := by rw [hd2, ei]; rfl
  obtain ⟨k', rfl⟩ : ∃ k', k = k' + 1 := by
    cases k with
    | zero =>
      rcases lv with z | ⟨j, _, hj, _⟩
      · exact absurd z (W.apart hg)
      · omega
    | succ k' => exact ⟨k', rfl⟩
  have dn := W.down hg lv
  have lD := ok.len
  obtain ⟨rows, er⟩ : ∃ rows, D[i]? = some rows := ⟨_, List.getElem?_eq_getElem (by rw [lD]; exact (List.getElem?_eq_some_iff.mp eg).1)⟩
  obtain ⟨rl, hrow⟩ := ok.at_ i g rows eg er
  obtain ⟨shp, tabl, n3, spn⟩ := W.shape g hg
  -- key = (net, time)
  refine ⟨_, rfl, _, rfl, szl (n := 2) (by decide), fun kp nkp => ?_⟩
  have sk := same_new (o := .tup [.str g.name, .int t]) nkp
  have knk : kn ≠ kp := fun z => by obtain ⟨φ, e⟩ := g10.ext; rw [z, nkp] at e; cases e
  have nd1 : NDict P w (upd H kp (.tup [.str g.name, .int t])) kn kvs := g10.keep sk.tupK fun o e => sk _ _ e
  have hkt : KTop (upd H kp (.tup [.str g.name, .int t])) kp (keyR [] g.name t) := ⟨_, _, upd_same, rfl, .cons (.inl rfl) (.cons (.inl rfl) .nil)⟩
  -- the end: return self.known[key]
  have S1 : RS P w Y (upd H kp (.tup [.str g.name, .int t])) r a c kn C D ws kvs := S.keep sk.keepX nd1
  refine ⟨.ref kp, rfl, .ref a, rfl, a, Y.CT, dx, fs, _, rfl, sk _ _ g1, TC.cls, TC.n5, g6, kn, kp, kvs, keyR [] g.name t, rfl, rfl, nd1, hkt, _, rfl, ite2 (fun hno => ?_) (fun hyes => ?_)⟩
  rotate_left
  · obtain ⟨v, ev⟩ : ∃ v, valV kvs (keyR [] g.name t) = some v := by
      cases z : valV kvs (keyR [] g.name t) with
      | none => rw [z] at hyes; exact absurd rfl hyes
      | some v => exact ⟨v, rfl⟩
    refine ⟨.ref a, rfl, a, Y.CT, dx, fs, _, rfl, sk _ _ g1, TC.cls, TC.n5, g6, .ref kp, rfl, kn, kp, kvs, keyR [] g.name t, v, rfl, rfl, nd1, hkt, ev, ?_⟩
    rw [Kk.told ev]
    exact q _ kvs (Same.but _ sk) S1 Kk
  have vno : valV kvs (keyR [] g.name t) = none := by
    cases z : valV kvs (keyR [] g.name t) with
    | none => rfl
    | some v => rw [z] at hno; cases hno
  refine ⟨.ref a, rfl, a, Y.CT, dx, fs, _, rfl, sk _ _ g1, TC.cls, TC.n4, g5, .str g.name, rfl, dd, .int (i : Nat), rfl, (by rw [← ev]; exact DGet.k (k := Sum.inr g.name) (sk _ _ hd1)), ?_⟩
  have hc0 := S1.circ
  obtain ⟨ci, cg, cr, co, ga, ra, h1, h2, h3, h4, h5, h6⟩ := hc0
  obtain ⟨gad, ega, tb, n1, rr, sa, hy1, hy2, hy3, hy4, hy5⟩ := pget2 h4 eg
  refine ⟨.ref a, rfl, a, Y.CT, dx, fs, _, rfl, sk _ _ g1, TC.cls, TC.n1, g2, c, _, 1, _, rfl, rfl, SqT.of h1, atI_nat (j := 1) rfl, .int (i : Nat), rfl, cg, _, i, .ref gad, rfl, rfl, SqT.of h3, atI_map ega, ?_⟩
  refine ⟨Nat.zero_le _, fun bp nbp => ?_⟩
  have sb := same_new (o := .lst []) nbp
  have skb := sk.trans sb
  obtain ⟨da, hdl1, hdl2⟩ := g8.keep (skb.lstK)
  obtain ⟨rwa, erw, pa, hp1, hp2⟩ := pget2 hdl2 er
  have knb : kn ≠ bp := fun z => by obtain ⟨φ, e⟩ := nd1.ext; rw [z, nbp] at e; cases e
  have kpb : kp ≠ bp := fun z => by rw [← z, upd_same] at nbp; cases nbp
  have S2 : RS P w Y (upd (upd H kp (.tup [.str g.name, .int t])) bp (.lst [])) r a c kn C D ws kvs := S1.keep sb.keepX (nd1.keep sb.tupK fun o e => sb _ _ e)
  refine ⟨.ref gad, rfl, gad, _, 2, _, rfl, rfl, SqT.of (sb _ _ hy1), atI_nat (j := 2) rfl, .ref a, rfl, a, Y.CT, dx, fs, _, rfl, skb _ _ g1, TC.cls, TC.n2, g3, .int (i : Nat), rfl, dl, _, i, .ref rwa, rfl, rfl, SqL.of hdl1, atI_map erw, n1, rwa, _, _, rfl, SqT.of (sb _ _ hy3), SqL.of hp1, ?_⟩
  have bpnk : bp ≠ kn := knb.symm
  have lp := Paired.length hp2
  have hH : H kp = none := nkp
  generalize hG : upd H kp (.tup [.str g.name, .int t]) = G at *
  have bnk : bp ∉ [kn] := fun z => knb.symm (List.mem_singleton.mp z)
  have zip_len : (g.nets.zip rows).length = g.nets.length := by rw [List.length_zip]; omega
  have ins_at : ∀ {H1 : Hp}, But [kn] G H1 → ∀ {b : Addr} {o : HO}, G b = some o → b ≠ kn → H1 b = some o := by
    intro H1 b1 b o e n
    exact b1 _ _ e fun z => n (List.mem_singleton.mp z)
  obtain ⟨φ, hφ⟩ := nd1.ext
  have nkn : ∀ {b : Addr} {o : HO}, G b = some o → (∀ φ, o ≠ .ext φ) → b ≠ kn := fun {b} {o} e n z => by rw [z, hφ] at e; exact n φ (Option.some.inj e).symm
  have tupn : ∀ {H1 : Hp}, But [kn] G H1 → ∀ {b : Addr} {xs : List V}, G b = some (.tup xs) → H1 b = some (.tup xs) := by
    intro H1 b1 b xs e
    exact ins_at b1 e (nkn e fun φ => by intro z; cases z)
  have lstn : ∀ {H1 : Hp}, But [kn] G H1 → ∀ {b : Addr} {xs : List V}, G b = some (.lst xs) → H1 b = some (.lst xs) := by
    intro H1 b1 b xs e
    exact ins_at b1 e (nkn e fun φ => by intro z; cases z)
  have g1G := sk _ _ g1
  obtain ⟨da0, hdl10, hdl20⟩ := g8.keep sk.lstK
  obtain ⟨rwa0, erw0, pa0, hp10, hp20⟩ := pget2 hdl20 er
  have eqd : rwa0 = rwa ∧ pa0 = pa := by
    have e1 := sb _ _ hdl10
    rw [hdl1] at e1
    have e2 : da.map V.ref = da0.map V.ref := by injection e1 with e1; injection e1
    have e3 : da = da0 := by
      have z := congrArg (List.map fun v => match v with | V.ref a => a | _ => 0) e2
      rw [List.map_map, List.map_map] at z
      simpa [Function.comp_def] using z
    subst e3
    rw [erw] at erw0
    have e4 := Option.some.inj erw0
    subst e4
    have e5 := sb _ _ hp10
    rw [hp1] at e5
    have e6 : pa.map V.ref = pa0.map V.ref := by injection e5 with e5; injection e5
    have z := congrArg (List.map fun v => match v with | V.ref a => a | _ => 0) e6
    rw [List.map_map, List.map_map] at z
    exact ⟨rfl, by simpa [Function.comp_def] using z.symm⟩
  obtain ⟨rfl, rfl⟩ := eqd
  refine for_it (walk_z2 (n := g.nets.length) (List.length_map _) (by rw [List.length_map]; omega))
    (fun j σ H1 => ∃ y7 y8 kvs1, σ = [some (.ref a), some (.str g.name), some (.int t), some (.ref kp), some (.int (i : Nat)), some (.ref gad), some (.ref bp), y7, y8] ∧ But [kn] G H1 ∧ NDict P w H1 kn kvs1 ∧ Kn C [] (rv C D ws) kvs1 ∧
      H1 bp = some (.lst ((((g.nets.zip rows).take j).map fun p => rv C D ws p.1 (t - dly p.2 t)).map V.bl)))
    ⟨none, none, kvs, rfl, Same.but _ sb, nd1.keep sb.tupK fun o e => sb _ _ e, Kk, upd_same⟩ (fun j σ H1 _ ⟨_, _, _, _, b, _⟩ => ⟨SqT.of (tupn b hy3), SqL.of (lstn b hp10)⟩) ?_ ?_
  · rintro j x σ H1 H2 hj ⟨y7, y8, kvs1, rfl, b1, nd2, Kk1, hb1⟩ ⟨T, x1, x2, rfl, nT, rfl, e1, e2⟩
    obtain ⟨m, em, rfl⟩ := get_map e1
    obtain ⟨ro, ero, rfl⟩ := get_map e2
    obtain ⟨row, erow, hro⟩ := pget hp20 ero
    have sT := same_new (o := .tup [.str m, .ref ro]) nT
    have b2 := b1.trans (But.new (o := .tup [.str m, .ref ro]) nT)
    have nd3 := nd2.keep sT.tupK fun o e => sT _ _ e
    have S3 := S1.but b2 nd3
    have hb2 := sT _ _ hb1
    obtain ⟨sp, esp⟩ : ∃ sp, g.spans[j]? = some sp := ⟨_, List.getElem?_eq_getElem (by omega)⟩
    obtain ⟨w1, w2, w3⟩ := hrow j sp row esp erow
    obtain ⟨q1, q2, q3⟩ := spn sp (List.mem_of_getElem? esp)
    have hL : (0 : Int) < (row.length : Int) := by omega
    have m1 := Int.emod_nonneg t (show (row.length : Int) ≠ 0 by omega)
    have m2 := Int.emod_lt_of_pos t hL
    have ed : row[(t % (row.length : Int)).toNat]? = some (dly row t) := by
      unfold dly
      rw [List.getElem?_eq_getElem (by omega), List.getD_eq_getElem?_getD, List.getElem?_eq_getElem (by omega)]
      rfl
    have hd := w3 _ (List.mem_of_getElem? ed)
    have hrT : (upd H1 T (.tup [.str m, .ref ro])) ro = some (.lst (row.map V.int)) := sT _ _ (lstn b1 hro)
    have eat : atI (row.map V.int) (t % ((row.map V.int).length : Int)) = some (.int (dly row t)) := by
      rw [List.length_map, show t % (row.length : Int) = (((t % (row.length : Int)).toNat : Nat) : Int) by omega]
      exact atI_map ed
    refine ⟨T, _, rfl, SqT.of upd_same, rfl, _, _, rfl, _, _, rfl, rfl, ?_⟩
    refine ⟨.ref bp, rfl, .inl ⟨rfl, _, SqL.of hb2⟩, .ref a, rfl, a, dx, fs, rfl, ins_at b2 g1G (nkn g1G fun φ => by intro z; cases z), g7, .str m, rfl, .int t, rfl, .ref ro, rfl, .int t, rfl, .ref ro, rfl, ro, _, rfl, .inl (SqL.of hrT), t, _, rfl, rfl, (by rw [List.length_map]; exact hL), ro, _, _, .int (dly row t), rfl, rfl, SqL.of hrT, eat, t, dly row t, rfl, rfl, ?_⟩
    refine ⟨r, a, c, kn, C, ord, D, ws, kvs1, m, t - dly row t, rfl, S3, W, ok, Kk1, dn m (List.mem_of_getElem? em), by omega, by omega, fun H5 kvs5 b5 S5 Kk5 => ?_⟩
    have hb5 := b5 _ _ hb2 bnk
    have b15 := b2.trans b5
    refine ⟨bp, _, _, rfl, rfl, hb5, ?_, ?_⟩
    · rw [List.length_map, List.length_map, List.length_take, zip_len]
      exact szlt (by omega)
    refine ⟨_, _, kvs5, rfl, b15.mutN nbp, S5.nd.keep (lst_tupK hb5) fun o e => (by rw [upd_ne knb]; exact e), Kk5, ?_⟩
    have ez : (g.nets.zip rows)[j]? = some (m, row) := by rw [List.getElem?_zip_eq_some]; exact ⟨em, erow⟩
    rw [upd_same, take_snoc ez, List.map_append, List.map_append]
    rfl
  · rintro σ H1 ⟨y7, y8, kvs1, rfl, b1, nd2, Kk1, hb1⟩
    rw [← zip_len, List.take_of_length_le (Nat.le_refl _)] at hb1
    have S3 := S1.but b1 nd2
    have ga1 : H1 a = some (.ins Y.CT dx fs) := ins_at b1 g1G (nkn g1G fun φ => by intro z; cases z)
    have il : idx ((g.nets.zip rows).map fun p => rv C D ws p.1 (t - dly p.2 t)) < g.tab.length := by
      have z := idx_lt ((g.nets.zip rows).map fun p => rv C D ws p.1 (t - dly p.2 t))
      rw [List.length_map, zip_len] at z
      rw [tabl]; exact z
    have hkt1 : ∀ {H5 : Hp}, TupK H1 H5 → KTop H5 kp (keyR [] g.name t) := fun tk => hkt.keep fun b xs e => tk _ _ (tupn b1 e)
    refine ⟨.ref gad, rfl, gad, _, 1, _, rfl, rfl, SqT.of (tupn b1 hy1), atI_nat (j := 1) rfl, .ref bp, rfl, tb, bp, g.tab, _, rfl, tupn b1 hy2, hb1, ?_, il, fun H5 s5 => ?_⟩
    · rw [List.length_map, zip_len]; omega
    have e : g.tab.getD (idx ((g.nets.zip rows).map fun p => rv C D ws p.1 (t - dly p.2 t))) false = rv C D ws g.name t := by
      have z : rv C D ws g.name = rvStep C D g (rv C D ws) := ev_gate W (rvSees C D) hg
      rw [z]
      unfold rvStep
      rw [pins_at W eg er]
    rw [e]
    have b5 := b1.trans (Same.but [kn] s5)
    have nd5 := nd2.keep s5.tupK fun o e => s5 _ _ e
    have ga5 := s5 _ _ ga1
    refine ⟨.ref a, rfl, a, Y.CT, dx, fs, _, rfl, ga5, TC.cls, TC.n5, g6, .ref kp, rfl, kn, kp, kvs1, keyR [] g.name t, rfl, rfl, nd5, hkt1 s5.tupK, Kk1.room W, fun o nd6 => ?_⟩
    obtain ⟨φ5, h5⟩ := nd5.ext
    have tk6 : TupK H5 (upd H5 kn o) := fun b xs e => by
      rw [upd_ne (fun z => by rw [z, h5] at e; cases e)]
      exact e
    have ga6 : (upd H5 kn o) a = some (.ins Y.CT dx fs) := by
      rw [upd_ne (fun z => by rw [z, h5] at ga5; cases ga5)]
      exact ga5
    refine ⟨.ref a, rfl, a, Y.CT, dx, fs, _, rfl, ga6, TC.cls, TC.n5, g6, .ref kp, rfl, kn, kp, _, keyR [] g.name t, .bl (rv C D ws g.name t), rfl, rfl, nd6, (hkt1 s5.tupK).keep tk6, (by rw [valV_put, if_pos rfl]), ?_⟩
    have b6 := b5.trans (But.mut (M := [kn]) (o := o) (p := kn) (by simp))
    exact q _ _ ((Same.but [kn] sk).trans b6) (S1.but b6 nd6) (Kk1.put hnets (by omega) t2)
theorem ok_no (F : Fun K "value" "Tracker.value" sTracker_value f fd) : FnOk P w K mg base CX0 1 f fd ["self", "net", "time"] spNo :=
  F.ok scTracker_value (fun vs H Q E h => h.elim) (fun cdv A outer s H vs Q E hr h => h.elim)
end
end L2.Sg

/-! the recursion of Tracker.value; Run.value, Run.respects -/
namespace L2.Sg
open PySem PySem.Spec PyProof.Rows L2.Lx
abbrev sRun_value : Stmt := inClass (topS 30) 2
theorem scRun_value : FnScope ["self", "net", "time"] ["self", "net", "time"] (defScope sRun_value) := ⟨rfl, rfl, rfl, by decide +kernel, rfl, by decide +kernel, by decide +kernel⟩
abbrev sRun_respects : Stmt := inClass (topS 30) 7
theorem scRun_respects : FnScope ["self", "vector", "windows", "net", "value", "window"] ["self", "vector", "windows"] (defScope sRun_respects) := ⟨rfl, rfl, rfl, by decide +kernel, rfl, by decide +kernel, by decide +kernel⟩

section
variable {P : Program} {w : World} {K : PySem.W.Frag} {mg : Str → Option Value} {base : Heap} {f : Addr} {fd : FuncData} {Y : Cs}
theorem ok_tr_all (F : Fun K "value" "Tracker.value" sTracker_value f fd) (B : Bt mg) (TC : TrC K Y.CT) (M : Meth K Y.CT "value" f) (hb : Binds K fd ["self", "net", "time"] []) (D_look_up : Ok P w K mg base "look_up" 1 ["table", "bits"] spLookUp)
    (D_source_value : MOk P w K mg base Y.CR "source_value" 2 ["self", "net", "time"] (spSrcVal P w Y)) : ∀ k, FnOk P w K mg base CX0 (k + 3) f fd ["self", "net", "time"] (spTrVal P w Y k)
  | 0 => ok_tr_step 0 0 F B TC D_look_up D_source_value ⟨⟨f, fd, (ok_no F).mono (by decide), M, hb⟩, TC.cls⟩
  | k + 1 => ok_tr_step (k + 1) (k + 1) F B TC D_look_up D_source_value ⟨⟨f, fd, ok_tr_all F B TC M hb D_look_up D_source_value k, M, hb⟩, TC.cls⟩
def spRunVal (P : Program) (w : World) (Y : Cs) : Sp := fun vs H Q _ => ∃ (r a c kn : Addr) (C : Circ) (ord : List Gate) (D : Dl) (ws : Str → Int → Bool) (kvs : List (NestedKey × V)) (n : Str) (t : Int), vs = [.ref r, .str n, .int t] ∧ RS P w Y H r a c kn C D ws kvs ∧ Wf C ord ∧ DelOk C D ∧
  Kn C [] (rv C D ws) kvs ∧ n ∈ C.nets ∧ -100 ≤ t ∧ t ≤ 1000 ∧ ∀ H' kvs', But [kn] H H' → RS P w Y H' r a c kn C D ws kvs' → Kn C [] (rv C D ws) kvs' → Q (.bl (rv C D ws n t)) H'
theorem ok_run_value (F : Fun K "value" "Run.value" sRun_value f fd) (B : Bt mg) (RC : RnC K Y.CR) (D_check_net : Ok P w K mg base "check_net" 3 ["circuit", "net"] spCheckNet) (D_tr_value : MOk P w K mg base Y.CT "value" 9 ["self", "net", "time"] (spTrVal P w Y 6)) :
    FnOk P w K mg base CX0 10 f fd ["self", "net", "time"] (spRunVal P w Y) := by
  refine F.ok scRun_value (fun vs H Q E h => ?_) (fun cdv A outer s H vs Q E hr h => ?_)
  · obtain ⟨_, _, _, _, _, _, _, _, _, _, _, rfl, _⟩ := h
    rfl
  obtain ⟨r, a, c, kn, C, ord, D, ws, kvs, n, t, rfl, S, W, ok, Kk, hn, t1, t2, q⟩ := h
  refine ⟨_, (pss_cons (ps_expr (wCall D_check_net (hr.mono (by first | decide | omega)) (pa_cons (wFld K (pv 0)) (pa_cons (pv 1) pa_nil))))
      (pss_one (ps_ret (wMeth D_tr_value (wFld K (pv 0)) (hr.mono (by first | decide | omega)) (pa_cons (pv 1) (pa_cons (pv 2) pa_nil)))))), ?_⟩
  obtain ⟨dxr, fsr, wd, r1, r2, r3, r4, r5, r6, r7, r8⟩ := S.run
  obtain ⟨dx, fs, dl, dd, g1, g2, g3, g4, g5, g6, g7, g8, g9, g10⟩ := S.trk
  refine ⟨.ref r, rfl, r, Y.CR, dxr, fsr, _, rfl, r1, RC.cls, RC.n1, r2, .str n, rfl, c, C, n, rfl, S.circ, W.small, hn, fun H1 s1 => ?_⟩
  have S1 : RS P w Y H1 r a c kn C D ws kvs := S.keep s1.keepX (g10.keep s1.tupK fun o e => s1 _ _ e)
  refine ⟨.ref r, rfl, r, Y.CR, dxr, fsr, _, rfl, s1 _ _ r1, RC.cls, RC.n3, r4, a, dx, fs, rfl, s1 _ _ g1, g7, .str n, rfl, .int t, rfl, r, a, c, kn, C, ord, D, ws, kvs, n, t, rfl, S1, W, ok, Kk, (W.lv hn).mono W.few, by omega, t2, fun H2 kvs' b2 S2 K2 => ?_⟩
  exact q H2 kvs' ((Same.but _ s1).trans b2) S2 K2
def spRespects (P : Program) (w : World) (Y : Cs) : Sp := fun vs H Q _ => ∃ (r a c kn v wl : Addr) (C : Circ) (ord : List Gate) (D : Dl) (ws : Str → Int → Bool) (kvs : List (NestedKey × V)) (vec : List Bool) (wna : List Addr) (wins : List Win), vs = [.ref r, .ref v, .ref wl] ∧ RS P w Y H r a c kn C D ws kvs ∧ Wf C ord ∧
  H v = some (.tup (vec.map V.bl)) ∧ H wl = some (.lst (wna.map V.ref)) ∧ Paired (WinAt H) wna wins ∧ vec.length = C.srcs.length ∧ wins.length = C.srcs.length ∧ (∀ (i : Nat) n b wn, C.srcs[i]? = some n → vec[i]? = some b → wins[i]? = some wn → ∀ t, inW wn t = true → ws n t = b) ∧
  ∀ H', Same H H' → Q (.bl true) H'
theorem ok_respects (F : Fun K "respects" "Run.respects" sRun_respects f fd) (B : Bt mg) (RC : RnC K Y.CR) (D_sources : Ok P w K mg base "sources" 1 ["circuit"] spSources) (D_holds : Ok P w K mg base "holds" 2 ["waveform", "value", "window"] (spHolds Y.CW)) :
    FnOk P w K mg base CX0 3 f fd ["self", "vector", "windows"] (spRespects P w Y) := by
  refine F.ok scRun_respects (fun vs H Q E h => ?_) (fun cdv A outer s H vs Q E hr h => ?_)
  · obtain ⟨_, _, _, _, _, _, _, _, _, _, _, _, _, _, rfl, _⟩ := h
    rfl
  obtain ⟨r, a, c, kn, v, wl, C, ord, D, ws, kvs, vec, wna, wins, rfl, S, W, hv, hw, hp, l1, l2, hin, q⟩ := h
  refine ⟨_, (pss_cons (ps_for PassesOwn.never rfl (wZ3 false true false K B.zip_ (pa_cons (wCall D_sources (hr.mono (by first | decide | omega)) (pa_cons (wFld K (pv 0)) pa_nil)) (pa_cons (pv 1) (pa_cons (pv 2) pa_nil)))) (wTupG K rfl (pgs_cons (pg_name (i := 3) scRun_respects.nd rfl (Or.inl rfl)) (pgs_cons (pg_name (i := 4) scRun_respects.nd rfl (Or.inl rfl)) (pgs_cons (pg_name (i := 5) scRun_respects.nd rfl (Or.inl rfl)) pgs_nil)))) (pss_one (ps_if (pt_not (pt_val (wCall D_holds (hr.mono (by first | decide | omega)) (pa_cons (wDG hr.units (wFld K (pv 0)) (pv 3)) (pa_cons (pv 4) (pa_cons (pv 5) pa_nil)))))) (pss_one (ps_ret pe_bl)) pss_nil)))
      (pss_one (ps_ret pe_bl))), ?_⟩
  have sm := W.small
  have few2 := W.few2
  obtain ⟨dxr, fsr, wd, r1, r2, r3, r4, r5, r6, r7, wk, r8, r9⟩ := S.run
  have lp := Paired.length hp
  refine ⟨.ref r, rfl, r, Y.CR, dxr, fsr, _, rfl, r1, RC.cls, RC.n1, r2, c, C, rfl, S.circ, by omega, fun p H1 s1 np hp1 => ⟨.ref v, rfl, .ref wl, rfl, p, v, wl, _, _, _, rfl, SqL.of hp1, SqT.of (s1 _ _ hv), SqL.of (s1 _ _ hw),
    for_it (walk_z3 (n := C.srcs.length) (List.length_map _) (by rw [List.length_map]; exact l1) (by rw [List.length_map]; omega))
    (fun i σ H2 => ∃ y3 y4 y5, σ = [some (.ref r), some (.ref v), some (.ref wl), y3, y4, y5] ∧ Same H1 H2) ⟨none, none, none, rfl, Same.refl _⟩ (fun i σ H2 _ ⟨_, _, _, _, s⟩ => ⟨SqL.of (s _ _ hp1), SqT.of (s _ _ (s1 _ _ hv)), SqL.of (s _ _ (s1 _ _ hw))⟩) ?_ ?_⟩⟩
  · rintro i x σ H2 H3 hi ⟨y3, y4, y5, rfl, s2⟩ ⟨T, x1, x2, x3, rfl, nT, rfl, e1, e2, e3⟩
    obtain ⟨n, en, rfl⟩ := get_map e1
    obtain ⟨b, eb, rfl⟩ := get_map e2
    obtain ⟨wa, ewa, rfl⟩ := get_map e3
    obtain ⟨wn, ewn, hwn⟩ := pget hp ewa
    have s3 := (s1.trans s2).trans (same_new (o := .tup [.str n, .bl b, .ref wa]) nT)
    obtain ⟨va, v1, st, chs, hwv, hl, hval⟩ := r9 n (List.mem_of_getElem? en)
    refine ⟨T, _, rfl, SqT.of upd_same, rfl, _, _, rfl, _, _, rfl, _, _, rfl, rfl, ?_⟩
    refine ⟨.ref r, rfl, r, Y.CR, dxr, fsr, _, rfl, s3 _ _ r1, RC.cls, RC.n2, r3, .str n, rfl, wd, .ref va, rfl, (by rw [← v1]; exact DGet.k (k := Sum.inr n) (s3 _ _ r8)), .bl b, rfl, .ref wa, rfl, va, wa, st, chs, b, wn, rfl, hwv.keepX s3.keepX, hl, s3 _ _ hwn, fun t ht => ?_, fun H4 s4 => ⟨_, rfl, ite2 (fun h => by cases h) (fun _ => ⟨_, _, _, rfl, ?_⟩)⟩⟩
    · rw [hval]
      exact hin i n b wn en eb ewn t ht
    · exact (s2.trans (same_new nT)).trans s4
  · rintro σ H2 ⟨y3, y4, y5, rfl, s2⟩
    exact q _ (s1.trans s2)
end
end L2.Sg

/-! settled nets: the mathematics -/
namespace L2.Sg
open PySem PySem.Spec PyProof.Rows L2.Lx
theorem idx_bit : ∀ (l : List Bool) (k : Nat), idx l / 2 ^ k % 2 = if l[k]? = some true then 1 else 0
  | [], k => by
    show 0 / 2 ^ k % 2 = _
    rw [Nat.zero_div]
    simp
  | b :: r, 0 => by
    show ((if b = true then 1 else 0) + 2 * idx r) / 2 ^ 0 % 2 = _
    cases b <;> simp <;> omega
  | b :: r, k + 1 => by
    have h := idx_bit r k
    show ((if b = true then 1 else 0) + 2 * idx r) / 2 ^ (k + 1) % 2 = _
    rw [List.getElem?_cons_succ, ← h, Nat.pow_succ, Nat.mul_comm (2 ^ k) 2, ← Nat.div_div_eq_div_mul]
    congr 2
    cases b <;> simp <;> omega
/-- the index of values agrees with marks that are open or tell the values -/
theorem agr_of (l : List Bool) (marks : List Int) (hl : l.length = marks.length) (h : ∀ (k : Nat) b m, l[k]? = some b → marks[k]? = some m → m < 0 ∨ m = if b = true then 1 else 0) : agr (idx l) marks = true := by
  unfold agr
  rw [List.all_eq_true]
  intro k hk
  have hk' := List.mem_range.mp hk
  have em : marks[k]? = some marks[k] := List.getElem?_eq_getElem hk'
  have eb : l[k]? = some (l[k]'(by omega)) := List.getElem?_eq_getElem (by omega)
  generalize marks[k] = m at em
  generalize (l[k]'(by omega)) = b at eb
  unfold okAt
  rw [em]
  rcases h k b m eb em with z | z
  · show (decide (m < 0) || _) = true
    rw [decide_eq_true z]; rfl
  · show (_ || decide (((idx l / 2 ^ k % 2 : Nat) : Int) = m)) = true
    rw [idx_bit, eb, z]
    cases b <;> simp
theorem mem_shown {tab : List Bool} {marks : List Int} {j : Nat} (hj : j < tab.length) (h : agr j marks = true) : tab.getD j false ∈ shownN tab marks tab.length := by
  unfold shownN
  exact List.mem_map.mpr ⟨j, List.mem_filter.mpr ⟨List.mem_range.mpr hj, h⟩, rfl⟩
/-- a forced table gives one value at all indices that agree -/
theorem forced_one {tab : List Bool} {marks : List Int} (hf : forcedV tab marks ≠ .non) {i j : Nat} (hi : i < tab.length) (hj : j < tab.length) (ai : agr i marks = true) (aj : agr j marks = true) : tab.getD i false = tab.getD j false := by
  have h1 := mem_shown hi ai
  have h2 := mem_shown hj aj
  unfold forcedV at hf
  split at hf
  · exact absurd rfl hf
  · rename_i hn
    generalize tab.getD i false = x at *
    generalize tab.getD j false = y at *
    cases x <;> cases y
    · rfl
    · exact absurd (by rw [List.contains_iff_mem.mpr h2, List.contains_iff_mem.mpr h1]; rfl) hn
    · exact absurd (by rw [List.contains_iff_mem.mpr h1, List.contains_iff_mem.mpr h2]; rfl) hn
    · rfl
/-! ### what fits -/
def allM (e : Int → Bool) (lo hi t : Int) (m : Nat) : Bool := (List.range m).all fun j => e (t - hi + (j : Int))
def mark (b : Bool) : Int := if b = true then 1 else 0
def markF (sval : Str → Bool) (e : Str → Int → Bool) (t : Int) (p : Str × (Int × Int)) : Int := if allM (e p.1) p.2.1 p.2.2 t (p.2.2 - p.2.1 + 1).toNat = true then mark (sval p.1) else -1
def marksF (sval : Str → Bool) (g : Gate) (e : Str → Int → Bool) (t : Int) : List Int := (g.nets.zip g.spans).map (markF sval e t)
def fvStep (sval : Str → Bool) (g : Gate) (e : Str → Int → Bool) : Int → Bool := fun t => !decide (forcedV g.tab (marksF sval g e t) = V.non)
theorem fvSees (sval : Str → Bool) : Sees (fvStep sval) := fun g e e' h => by
  funext t
  unfold fvStep marksF
  rw [List.map_congr_left fun p hp => ?_]
  unfold markF
  rw [h p.1 (List.of_mem_zip (show (p.1, p.2) ∈ _ from hp)).1]
def fv (C : Circ) (vec : List Bool) (wf : Str → Win) : Str → Int → Bool := ev C (fvStep (sv C vec)) (fun n t => inW (wf n) t)
theorem marks_len {sval : Str → Bool} {g : Gate} {e : Str → Int → Bool} {t : Int} (h : g.spans.length = g.nets.length) : (marksF sval g e t).length = g.nets.length := by
  unfold marksF
  rw [List.length_map, List.length_zip]
  omega
theorem marks_agr {sval : Str → Bool} {g : Gate} {e : Str → Int → Bool} {t : Int} (h : g.spans.length = g.nets.length) : agr (idx (g.nets.map sval)) (marksF sval g e t) = true := by
  refine agr_of _ _ (by rw [List.length_map, marks_len h]) fun k b m eb em => ?_
  unfold marksF at em
  rw [List.getElem?_map] at eb em
  obtain ⟨n, en, rfl⟩ := Option.map_eq_some_iff.mp eb
  obtain ⟨p, ep, rfl⟩ := Option.map_eq_some_iff.mp em
  have ep' := (List.getElem?_zip_eq_some.mp ep).1
  rw [en] at ep'
  have e1 := Option.some.inj ep'
  unfold markF
  split
  · right
    rw [← e1]; rfl
  · left
    decide
theorem shown_ne {C : Circ} {ord : List Gate} (W : Wf C ord) {g : Gate} (hg : g ∈ C.gates) (vec : List Bool) (e : Str → Int → Bool) (t : Int) : shownN g.tab (marksF (sv C vec) g e t) g.tab.length ≠ [] := fun z => by
  have h := mem_shown (idx_fits W hg (sv C vec)) (marks_agr (sval := sv C vec) (e := e) (t := t) (W.shape g hg).1)
  rw [z] at h
  cases h
/-- THE LAW: where a net fits, the run has the settled value -/
theorem fits_law {C : Circ} {ord : List Gate} (W : Wf C ord) {D : Dl} (ok : DelOk C D) {vec : List Bool} {wf : Str → Win} {ws : Str → Int → Bool} (hsrc : ∀ n ∈ C.srcs, ∀ t, inW (wf n) t = true → ws n t = srcVal C.srcs vec n) :
    ∀ n ∈ C.nets, ∀ t, fv C vec wf n t = true → rv C D ws n t = sv C vec n := by
  intro n hn
  refine topo_ind W (p := fun n => ∀ t, fv C vec wf n t = true → rv C D ws n t = sv C vec n) ?_ ?_ _ n (W.lv hn)
  · intro n hn t h
    unfold fv at h
    unfold rv sv
    rw [ev_src W hn] at h ⊢
    rw [ev_src W hn]
    exact hsrc n hn t h
  · intro g hg ih t h
    obtain ⟨shp, tabl, n3, spn⟩ := W.shape g hg
    have e1 : fv C vec wf g.name = fvStep (sv C vec) g (fv C vec wf) := ev_gate W (fvSees _) hg
    have e2 : rv C D ws g.name = rvStep C D g (rv C D ws) := ev_gate W (rvSees C D) hg
    rw [e1] at h
    rw [e2, sv_gate W hg]
    unfold fvStep at h
    have hf : forcedV g.tab (marksF (sv C vec) g (fv C vec wf) t) ≠ .non := fun z => by
      rw [decide_eq_true z] at h
      cases h
    obtain ⟨i, hi, ei⟩ := List.mem_iff_getElem.mp hg
    have eg : C.gates[i]? = some g := by rw [← ei]; exact List.getElem?_eq_getElem hi
    have lD := ok.len
    obtain ⟨rows, er⟩ : ∃ rows, D[i]? = some rows := ⟨_, List.getElem?_eq_getElem (by omega)⟩
    obtain ⟨rl, hrow⟩ := ok.at_ i g rows eg er
    unfold rvStep svStep
    rw [pins_at W eg er]
    have zl : (g.nets.zip rows).length = g.nets.length := by rw [List.length_zip]; omega
    refine forced_one hf ?_ (idx_fits W hg _) ?_ (marks_agr shp)
    · have z := idx_lt ((g.nets.zip rows).map fun p => rv C D ws p.1 (t - dly p.2 t))
      rw [List.length_map, zl] at z
      rw [tabl]
      exact z
    · refine agr_of _ _ (by rw [List.length_map, zl, marks_len shp]) fun k b m eb em => ?_
      unfold marksF at em
      rw [List.getElem?_map] at eb em
      obtain ⟨p, ep, rfl⟩ := Option.map_eq_some_iff.mp eb
      obtain ⟨q, eq, rfl⟩ := Option.map_eq_some_iff.mp em
      obtain ⟨n, row⟩ := p
      obtain ⟨n', sp⟩ := q
      obtain ⟨p1, p2⟩ := List.getElem?_zip_eq_some.mp ep
      obtain ⟨q1, q2⟩ := List.getElem?_zip_eq_some.mp eq
      rw [p1] at q1
      cases q1
      have hn' := List.mem_of_getElem? p1
      unfold markF
      split
      · rename_i hall
        right
        obtain ⟨w1, w2, w3⟩ := hrow k sp row q2 p2
        have hd := w3 (dly row t) ?_
        · have hz := List.all_eq_true.mp hall (sp.2 - dly row t).toNat (List.mem_range.mpr (by show (sp.2 - dly row t).toNat < (sp.2 - sp.1 + 1).toNat; omega))
          have hz' : fv C vec wf n (t - dly row t) = true := by
            have e : t - sp.2 + (((sp.2 - dly row t).toNat : Nat) : Int) = t - dly row t := by omega
            have hz2 : fv C vec wf n (t - sp.2 + (((sp.2 - dly row t).toNat : Nat) : Int)) = true := hz
            rw [e] at hz2
            exact hz2
          have := ih n hn' _ hz'
          show mark (sv C vec n) = if rv C D ws n (t - dly row t) = true then 1 else 0
          rw [this]; rfl
        · have hL : (0 : Int) < (row.length : Int) := by omega
          have m1 := Int.emod_nonneg t (show (row.length : Int) ≠ 0 by omega)
          have m2 := Int.emod_lt_of_pos t hL
          have ed : row[(t % (row.length : Int)).toNat]? = some (dly row t) := by
            unfold dly
            rw [List.getElem?_eq_getElem (by omega), List.getD_eq_getElem?_getD, List.getElem?_eq_getElem (by omega)]
            rfl
          exact List.mem_of_getElem? ed
      · left
        decide
end L2.Sg

/-! Settled: the object, __init__, _check, settled_value -/
namespace L2.Sg
open PySem PySem.Spec PyProof.Rows L2.Lx
abbrev sSettledU_initU : Stmt := inClass (topS 32) 0
theorem scSettledU_initU : FnScope ["self", "circuit", "windows", "net", "window"] ["self", "circuit", "windows"] (defScope sSettledU_initU) := ⟨rfl, rfl, rfl, by decide +kernel, rfl, by decide +kernel, by decide +kernel⟩
abbrev sSettledUcheck : Stmt := inClass (topS 32) 1
theorem scSettledUcheck : FnScope ["self", "net", "vector"] ["self", "net", "vector"] (defScope sSettledUcheck) := ⟨rfl, rfl, rfl, by decide +kernel, rfl, by decide +kernel, by decide +kernel⟩
abbrev sSettled_settled_value : Stmt := inClass (topS 32) 3
theorem scSettled_settled_value : FnScope ["self", "net", "vector"] ["self", "net", "vector"] (defScope sSettled_settled_value) := ⟨rfl, rfl, rfl, by decide +kernel, rfl, by decide +kernel, by decide +kernel⟩

structure SeC (K : PySem.W.Frag) (CS : Addr) : Prop where
  cls : Cls K CS
  n1 : NoAttr K CS "_circuit"
  n2 : NoAttr K CS "_windows"
  n3 : NoAttr K CS "_driven"
  n4 : NoAttr K CS "_known"
  n5 : NoAttr K CS "_values"
def vecK (vec : List Bool) : NestedKey := .tup (vec.map fun b => .num (if b = true then 1 else 0))
def WnsAt (H : Hp) (wd : Addr) (C : Circ) (wf : Str → Win) : Prop := ∃ kvs, H wd = some (.dK kvs) ∧ kvs.length = C.srcs.length ∧ ∀ n ∈ C.srcs, ∃ wa, valV kvs (Sum.inr n) = some (.ref wa) ∧ WinAt H wa (wf n)
def SObj (CS : Addr) (H : Hp) (s c kn vd : Addr) (C : Circ) (wf : Str → Win) : Prop := ∃ dx fs wd dd, H s = some (.ins CS dx fs) ∧ fget fs "_circuit" = some (.ref c) ∧ fget fs "_windows" = some (.ref wd) ∧ fget fs "_driven" = some (.ref dd) ∧ fget fs "_known" = some (.ref kn) ∧ fget fs "_values" = some (.ref vd) ∧
  fget fs "_check" = none ∧ fget fs "settled_value" = none ∧ fget fs "fits" = none ∧ fget fs "marks" = none ∧ fget fs "is_settled" = none ∧ WnsAt H wd C wf ∧ DrvD H dd C
theorem SObj.keepX {CS : Addr} {H H' : Hp} {s c kn vd : Addr} {C : Circ} {wf : Str → Win} (x : SObj CS H s c kn vd C wf) (k : KeepX H H') : SObj CS H' s c kn vd C wf := by
  obtain ⟨dx, fs, wd, dd, h1, h2, h3, h4, h5, h6, h7, h8, h9, h10, h11, ⟨kvs, h12, h13, h14⟩, h15⟩ := x
  refine ⟨dx, fs, wd, dd, k.ins h1, h2, h3, h4, h5, h6, h7, h8, h9, h10, h11, ⟨kvs, k.dK h12, h13, fun n hn => ?_⟩, h15.keepX k⟩
  obtain ⟨wa, w1, w2⟩ := h14 n hn
  exact ⟨wa, w1, k.tupK _ _ w2⟩
def KnAt (P : Program) (w : World) (H : Hp) (kn : Addr) (C : Circ) (vec : List Bool) (wf : Str → Win) : Prop := ∃ kvs, NDict P w H kn kvs ∧ Kn C [vecK vec] (fv C vec wf) kvs
def VlAt (P : Program) (w : World) (H : Hp) (vd : Addr) (C : Circ) (vec : List Bool) : Prop := ∃ vvs, NDict P w H vd vvs ∧ (vvs = [] ∨ ∃ d, vvs = [(vecK vec, .ref d)] ∧ SvAt H d C vec)
structure SS (P : Program) (w : World) (CS : Addr) (H : Hp) (s c kn vd : Addr) (C : Circ) (wf : Str → Win) (vec : List Bool) : Prop where
  circ : CircAt H c C
  obj : SObj CS H s c kn vd C wf
  ne : kn ≠ vd
  known : KnAt P w H kn C vec wf
  vals : VlAt P w H vd C vec
section
variable {P : Program} {w : World} {CS : Addr} {H H' : Hp} {s c kn vd : Addr} {C : Circ} {wf : Str → Win} {vec : List Bool}
theorem KnAt.keep (x : KnAt P w H kn C vec wf) (k : KeepX H H') (e : ∀ o, H kn = some o → H' kn = some o) : KnAt P w H' kn C vec wf := let ⟨kvs, nd, q⟩ := x; ⟨kvs, nd.keep k.tupK e, q⟩
theorem VlAt.keep (x : VlAt P w H vd C vec) (k : KeepX H H') (e : ∀ o, H vd = some o → H' vd = some o) : VlAt P w H' vd C vec := by
  obtain ⟨vvs, nd, q⟩ := x
  refine ⟨vvs, nd.keep k.tupK e, ?_⟩
  rcases q with q | ⟨d, q1, kvs, q2, q3⟩
  · exact .inl q
  · exact .inr ⟨d, q1, kvs, k.dK q2, q3⟩
theorem SS.keep (x : SS P w CS H s c kn vd C wf vec) (k : KeepX H H') (kk : KnAt P w H' kn C vec wf) (vv : VlAt P w H' vd C vec) : SS P w CS H' s c kn vd C wf vec := ⟨x.circ.keep k.tupK, x.obj.keepX k, x.ne, kk, vv⟩
theorem SS.same (x : SS P w CS H s c kn vd C wf vec) (h : Same H H') : SS P w CS H' s c kn vd C wf vec := x.keep h.keepX (x.known.keep h.keepX fun o e => h _ _ e) (x.vals.keep h.keepX fun o e => h _ _ e)
theorem KnAt.ext (x : KnAt P w H kn C vec wf) : ∃ φ, H kn = some (.ext φ) := let ⟨_, nd, _⟩ := x; nd.ext
theorem VlAt.ext (x : VlAt P w H vd C vec) : ∃ φ, H vd = some (.ext φ) := let ⟨_, nd, _⟩ := x; nd.ext
theorem SS.butX (x : SS P w CS H s c kn vd C wf vec) (b : But [kn, vd] H H') : KeepX H H' := b.keepX fun m hm => by
  rcases List.mem_cons.mp hm with e | e
  · rw [e]; exact x.known.ext
  · rw [List.mem_singleton.mp e]; exact x.vals.ext
end
theorem vecK_flat {H : Hp} {v : Addr} {vec : List Bool} (h : H v = some (.tup (vec.map V.bl))) : KFlat H v (vec.map fun b => .num (if b = true then 1 else 0)) := by
  refine ⟨_, h, ?_⟩
  clear h
  induction vec with
  | nil => exact .nil
  | cons b r ih => exact .cons rfl ih
theorem vecK_top {H : Hp} {v : Addr} {vec : List Bool} (h : H v = some (.tup (vec.map V.bl))) : KTop H v (vecK vec) := by
  refine ⟨_, _, h, rfl, ?_⟩
  clear h
  induction vec with
  | nil => exact .nil
  | cons b r ih => exact .cons (.inl rfl) ih
section
variable {P : Program} {w : World} {K : PySem.W.Frag} {mg : Str → Option Value} {base : Heap} {f : Addr} {fd : FuncData} {CS : Addr}
def spSetInit (P : Program) (w : World) (CS : Addr) : Sp := fun vs H Q _ => ∃ (x c wl dx : Addr) (wna : List Addr) (C : Circ) (ord : List Gate) (wf : Str → Win) (vec : List Bool), vs = [.ref x, .ref c, .ref wl] ∧ H x = some (.ins CS dx []) ∧ CircAt H c C ∧ Wf C ord ∧
  H wl = some (.lst (wna.map V.ref)) ∧ Paired (fun wa n => WinAt H wa (wf n)) wna C.srcs ∧ ∀ H' kn vd, But [x] H H' → H kn = none → H vd = none → SS P w CS H' x c kn vd C wf vec → Q .non H'
theorem ok_set_init (F : Fun K "__init__" "Settled.__init__" sSettledU_initU f fd) (B : Bt mg) (SC : SeC K CS) (D_sources : Ok P w K mg base "sources" 1 ["circuit"] spSources) (D_drivers : Ok P w K mg base "drivers" 1 ["circuit"] spDrivers) : FnOk P w K mg base CX0 2 f fd ["self", "circuit", "windows"] (spSetInit P w CS) := by
  refine F.ok scSettledU_initU (fun vs H Q E h => ?_) (fun cdv A outer s H vs Q E hr h => ?_)
  · obtain ⟨_, _, _, _, _, _, _, _, _, rfl, _⟩ := h
    rfl
  obtain ⟨x, c, wl, dx, wna, C, ord, wf, vec, rfl, hx, hc, W, hwl, hws, q⟩ := h
  refine ⟨_, (pss_cons (ps_if (pt_cmpR op_ne (pe_callB (cLen K) (by rfl) B.len_ PySem.boot_len (pa_cons (pv 2) pa_nil)) (pe_callB (cLen K) (by rfl) B.len_ PySem.boot_len (pa_cons (wCall D_sources (hr.mono (by first | decide | omega)) (pa_cons (pv 1) pa_nil)) pa_nil)) (nomark _)) (pss_one ps_never) pss_nil)
      (pss_cons (wSetF K (pv 0) (pv 1))
      (pss_cons (wSetF K (pv 0) (pe_dc (own := [("net", 3), ("window", 4)]) (g := (gTup K 2 (gCons (gName 3) (gCons (gName 4) gNil)))) (tt := tYes) rfl scSettledU_initU.nd (wZ2 false false K B.zip_ (pa_cons (wCall D_sources (hr.mono (by first | decide | omega)) (pa_cons (pv 1) pa_nil)) (pa_cons (pv 2) pa_nil))) (blkOk_by (N := ["self", "circuit", "windows", "net", "window"]) (sc := defScope sSettledU_initU) (by decide +kernel)) (fun _ _ _ _ _ => (wTupG K rfl (pgs_cons (pg_name (i := 3) scSettledU_initU.nd rfl (Or.inl rfl)) (pgs_cons (pg_name (i := 4) scSettledU_initU.nd rfl (Or.inl rfl)) pgs_nil)))) (fun _ _ _ _ _ => pts_nil) (fun _ _ _ _ _ => (pv 3)) (fun _ _ _ _ _ => (pv 4))))
      (pss_cons (wSetF K (pv 0) (wCall D_drivers (hr.mono (by first | decide | omega)) (pa_cons (pv 1) pa_nil)))
      (pss_cons (wSetF K (pv 0) (wNE P w))
      (pss_one (wSetF K (pv 0) (wNE P w)))))))), ?_⟩
  have few := W.few
  have sm := W.small
  have few2 := W.few2
  have lw := Paired.length hws
  have hsl : C.srcs.length ≤ 1000 := by omega
  refine ⟨.ref wl, rfl, wl, _, rfl, .inl (SqL.of hwl), .ref c, rfl, c, C, rfl, hc, hsl, fun p1 H1 s1 np1 hp1 => ⟨p1, _, rfl, .inl (SqL.of hp1), rfl, _, rfl, ite2 (fun hne => ?_) (fun _ => ?_)⟩⟩
  · have := i_ne hne
    rw [List.length_map, List.length_map] at this
    omega
  have hx2 := s1 _ _ hx
  refine ⟨.ref c, rfl, .ref x, rfl, x, CS, dx, _, rfl, hx2, SC.cls, SC.n1, by decide, ?_⟩
  have hx3 := upd_same (H := H1) (a := x) (o := .ins CS dx (putF "_circuit" (.ref c) []))
  have b3 : But [x] H (upd H1 x (.ins CS dx (putF "_circuit" (.ref c) []))) := (Same.but [x] s1).trans (But.mut (by simp))
  have fr3 : ∀ b, (upd H1 x (.ins CS dx (putF "_circuit" (.ref c) []))) b = none → H b = none := fun b e => by
    by_cases z : b = x
    · rw [z, upd_same] at e; cases e
    · rw [upd_ne z] at e; exact s1.free e
  generalize upd H1 x (.ins CS dx (putF "_circuit" (.ref c) [])) = H3 at hx3 b3 fr3 ⊢
  have tk3 : TupK H H3 := b3.tupK fun m hm xs e => by rw [List.mem_singleton.mp hm, hx] at e; cases e
  have lk3 : LstK H H3 := fun b xs e => b3 b _ e fun z => by rw [List.mem_singleton.mp z, hx] at e; cases e
  refine ⟨.ref c, rfl, c, C, rfl, hc.keep tk3, hsl, fun p H4 s4 np hp => ⟨.ref wl, rfl, p, wl, _, _, rfl, SqL.of hp, SqL.of (s4 _ _ (lk3 _ _ hwl)), fun E0 nE => dc_it (walk_z2 (n := C.srcs.length) (List.length_map _) (by rw [List.length_map]; exact lw))
    (fun i H5 => Same H4 H5 ∧ ∃ kvs, H5 E0 = some (.dK kvs) ∧ kvs.length = i ∧ (∀ y, (valV kvs (Sum.inr y)).isSome = true → ∃ j : Nat, j < i ∧ C.srcs[j]? = some y) ∧ ∀ (j : Nat) n, j < i → C.srcs[j]? = some n → ∃ wa, valV kvs (Sum.inr n) = some (.ref wa) ∧ wna[j]? = some wa)
    ⟨same_new nE, [], upd_same, rfl, (fun y h => by cases h), fun j n hj => absurd hj (by omega)⟩ (fun i H5 _ ⟨s, _⟩ => ⟨SqL.of (s _ _ hp), SqL.of (s _ _ (s4 _ _ (lk3 _ _ hwl)))⟩) ?_ ?_⟩⟩
  · rintro i y H5 H6 hi ⟨s5, kvs, hD, hk, hin, hval⟩ ⟨T, x1, x2, rfl, nT, rfl, e1, e2⟩
    obtain ⟨n, en, rfl⟩ := get_map e1
    obtain ⟨wa, ew, rfl⟩ := get_map e2
    have s6 := s5.trans (same_new (o := .tup [.str n, .ref wa]) nT)
    have vno : valV kvs (Sum.inr n) = none := by
      cases z : valV kvs (Sum.inr n) with
      | none => rfl
      | some v =>
        obtain ⟨j, hj, ej⟩ := hin n (by rw [z]; rfl)
        have := nd_get W.snd ej en
        omega
    refine ⟨T, _, rfl, SqT.of upd_same, rfl, _, _, rfl, _, _, rfl, rfl, rfl, ?_⟩
    refine ⟨.str n, rfl, .ref wa, rfl, kvs, Sum.inr n, rfl, same_new nT _ _ hD, szlt (by omega), s6.mutN nE, _, upd_same, by rw [putK_new _ vno, List.length_append, hk]; rfl, fun y hy => ?_, fun j z hj ej => ?_⟩
    · rw [valV_put] at hy
      by_cases e : (Sum.inr y : Key) = Sum.inr n
      · exact ⟨i, by omega, by rw [Sum.inr.inj e]; exact en⟩
      · rw [if_neg e] at hy
        obtain ⟨j, hj, ej⟩ := hin y hy
        exact ⟨j, by omega, ej⟩
    rw [valV_put]
    by_cases e : j = i
    · subst e
      rw [en] at ej
      cases ej
      rw [if_pos rfl]
      exact ⟨wa, rfl, ew⟩
    · have ne : ¬ (Sum.inr z : Key) = Sum.inr n := fun z' => e (nd_get W.snd ej (by rw [Sum.inr.inj z']; exact en))
      rw [if_neg ne]
      exact hval j z (by omega) ej
  rintro H5 ⟨s5, kvs, hE, hk, _, hval⟩
  have s35 := s4.trans s5
  have hx5 := s35 _ _ hx3
  refine ⟨.ref x, rfl, x, CS, dx, _, rfl, hx5, SC.cls, SC.n2, by show (1 : Nat) < 1000; decide, ?_⟩
  have nEx : E0 ≠ x := fun z => by rw [z, s4 _ _ hx3] at nE; cases nE
  have hx6 := upd_same (H := H5) (a := x) (o := .ins CS dx (putF "_windows" (.ref E0) (putF "_circuit" (.ref c) [])))
  have hE6 : (upd H5 x (.ins CS dx (putF "_windows" (.ref E0) (putF "_circuit" (.ref c) [])))) E0 = some (.dK kvs) := by rw [upd_ne nEx]; exact hE
  have b6 : But [x] H (upd H5 x (.ins CS dx (putF "_windows" (.ref E0) (putF "_circuit" (.ref c) [])))) := (b3.trans (Same.but [x] s35)).trans (But.mut (by simp))
  have fr6 : ∀ b, (upd H5 x (.ins CS dx (putF "_windows" (.ref E0) (putF "_circuit" (.ref c) [])))) b = none → H b = none := fun b e => by
    by_cases z : b = x
    · rw [z, upd_same] at e; cases e
    · rw [upd_ne z] at e; exact fr3 b (s35.free e)
  generalize upd H5 x (.ins CS dx (putF "_windows" (.ref E0) (putF "_circuit" (.ref c) []))) = H6 at hx6 hE6 b6 fr6 ⊢
  have tk6 : TupK H H6 := b6.tupK fun m hm xs e => by rw [List.mem_singleton.mp hm, hx] at e; cases e
  refine ⟨.ref c, rfl, c, C, rfl, hc.keep tk6, by omega, fun dd H7 s7 ndd hdd => ⟨.ref x, rfl, x, CS, dx, _, rfl, s7 _ _ hx6, SC.cls, SC.n3, by show (2 : Nat) < 1000; decide, ?_⟩⟩
  have hdd' : DrvD H7 dd C := hdd.told W
  have hx7 := s7 _ _ hx6
  have nddx : dd ≠ x := fun z => by rw [z, hx6] at ndd; cases ndd
  have hx8 := upd_same (H := H7) (a := x) (o := .ins CS dx (putF "_driven" (.ref dd) (putF "_windows" (.ref E0) (putF "_circuit" (.ref c) []))))
  have b8 : But [x] H (upd H7 x (.ins CS dx (putF "_driven" (.ref dd) (putF "_windows" (.ref E0) (putF "_circuit" (.ref c) []))))) := (b6.trans (Same.but [x] s7)).trans (But.mut (by simp))
  have hE8 : (upd H7 x (.ins CS dx (putF "_driven" (.ref dd) (putF "_windows" (.ref E0) (putF "_circuit" (.ref c) []))))) E0 = some (.dK kvs) := by rw [upd_ne nEx]; exact s7 _ _ hE6
  have hd8 : DrvD (upd H7 x (.ins CS dx (putF "_driven" (.ref dd) (putF "_windows" (.ref E0) (putF "_circuit" (.ref c) []))))) dd C := hdd'.keep fun o e => by rw [upd_ne nddx]; exact e
  have fr8 : ∀ b, (upd H7 x (.ins CS dx (putF "_driven" (.ref dd) (putF "_windows" (.ref E0) (putF "_circuit" (.ref c) []))))) b = none → H b = none := fun b e => by
    by_cases z : b = x
    · rw [z, upd_same] at e; cases e
    · rw [upd_ne z] at e; exact fr6 b (s7.free e)
  generalize upd H7 x (.ins CS dx (putF "_driven" (.ref dd) (putF "_windows" (.ref E0) (putF "_circuit" (.ref c) [])))) = H8 at hx8 b8 hE8 hd8 fr8 ⊢
  refine fun kn o nkn nd => ?_
  have knH := fr8 _ nkn
  have nknx : kn ≠ x := fun z => by rw [z, hx] at knH; cases knH
  have hx9 := same_new (o := o) nkn _ _ hx8
  refine ⟨.ref x, rfl, x, CS, dx, _, rfl, hx9, SC.cls, SC.n4, by show (3 : Nat) < 1000; decide, ?_⟩
  have nd9 := nd.keep (ins_tupK (o := .ins CS dx (putF "_known" (.ref kn) (putF "_driven" (.ref dd) (putF "_windows" (.ref E0) (putF "_circuit" (.ref c) []))))) hx9) fun o' e => by rw [upd_ne nknx]; exact e
  have hE9 : (upd (upd H8 kn o) x (.ins CS dx (putF "_known" (.ref kn) (putF "_driven" (.ref dd) (putF "_windows" (.ref E0) (putF "_circuit" (.ref c) [])))))) E0 = some (.dK kvs) := by
    rw [upd_ne nEx]; exact same_new nkn _ _ hE8
  have hd9 : DrvD (upd (upd H8 kn o) x (.ins CS dx (putF "_known" (.ref kn) (putF "_driven" (.ref dd) (putF "_windows" (.ref E0) (putF "_circuit" (.ref c) [])))))) dd C :=
    hd8.keep fun o' e => by rw [upd_ne nddx]; exact same_new nkn _ _ e
  have hx10 := upd_same (H := upd H8 kn o) (a := x) (o := .ins CS dx (putF "_known" (.ref kn) (putF "_driven" (.ref dd) (putF "_windows" (.ref E0) (putF "_circuit" (.ref c) [])))))
  have b10 : But [x] H (upd (upd H8 kn o) x (.ins CS dx (putF "_known" (.ref kn) (putF "_driven" (.ref dd) (putF "_windows" (.ref E0) (putF "_circuit" (.ref c) [])))))) := (b8.trans (But.new nkn)).trans (But.mut (by simp))
  have fr10 : ∀ b, (upd (upd H8 kn o) x (.ins CS dx (putF "_known" (.ref kn) (putF "_driven" (.ref dd) (putF "_windows" (.ref E0) (putF "_circuit" (.ref c) [])))))) b = none → H b = none := fun b e => by
    by_cases z : b = x
    · rw [z, upd_same] at e; cases e
    · rw [upd_ne z] at e; exact fr8 b ((same_new nkn).free e)
  generalize upd (upd H8 kn o) x (.ins CS dx (putF "_known" (.ref kn) (putF "_driven" (.ref dd) (putF "_windows" (.ref E0) (putF "_circuit" (.ref c) []))))) = H10 at nd9 hE9 hd9 hx10 b10 fr10 ⊢
  refine fun vd o2 nvd nd2 => ?_
  have vdH := fr10 _ nvd
  have nvdx : vd ≠ x := fun z => by rw [z, hx] at vdH; cases vdH
  have hx11 := same_new (o := o2) nvd _ _ hx10
  refine ⟨.ref x, rfl, x, CS, dx, _, rfl, hx11, SC.cls, SC.n5, by show (4 : Nat) < 1000; decide, ?_⟩
  have nkv : kn ≠ vd := fun z => by obtain ⟨φ, e⟩ := nd9.ext; rw [z, nvd] at e; cases e
  have b12 : But [x] H (upd (upd H10 vd o2) x (.ins CS dx (putF "_values" (.ref vd) (putF "_known" (.ref kn) (putF "_driven" (.ref dd) (putF "_windows" (.ref E0) (putF "_circuit" (.ref c) []))))))) := (b10.trans (But.new nvd)).trans (But.mut (by simp))
  have tk12 := b12.tupK fun m hm xs e => by rw [List.mem_singleton.mp hm, hx] at e; cases e
  refine q _ kn vd b12 knH vdH ⟨hc.keep tk12, ⟨dx, _, E0, dd, upd_same, rfl, rfl, rfl, rfl, rfl, rfl, rfl, rfl, rfl, rfl, ⟨kvs, ?_, hk, fun n hn => ?_⟩, ?_⟩, nkv, ⟨[], ?_, Kn.nil⟩, ⟨[], ?_, .inl rfl⟩⟩
  · rw [upd_ne nEx]; exact same_new nvd _ _ hE9
  · obtain ⟨j, hj, ej⟩ := List.mem_iff_getElem.mp hn
    obtain ⟨wa, v1, v2⟩ := hval j n hj (by rw [← ej]; exact List.getElem?_eq_getElem hj)
    obtain ⟨n', en', hwv⟩ := pget hws v2
    rw [List.getElem?_eq_getElem hj, ej] at en'
    cases en'
    exact ⟨wa, v1, tk12 _ _ hwv⟩
  · exact hd9.keep fun o' e => by rw [upd_ne nddx]; exact same_new nvd _ _ e
  · exact (nd9.keep (Same.tupK (same_new nvd)) fun o' e => same_new nvd _ _ e).keep (ins_tupK hx11) fun o' e => by rw [upd_ne nknx]; exact e
  · exact nd2.keep (ins_tupK hx11) fun o' e => by rw [upd_ne nvdx]; exact e
def spCheck (P : Program) (w : World) (CS : Addr) : Sp := fun vs H Q _ => ∃ (s c kn vd v : Addr) (C : Circ) (ord : List Gate) (wf : Str → Win) (vec : List Bool) (n : Str), vs = [.ref s, .str n, .ref v] ∧ SS P w CS H s c kn vd C wf vec ∧ Wf C ord ∧ H v = some (.tup (vec.map V.bl)) ∧ vec.length = C.srcs.length ∧ n ∈ C.nets ∧ ∀ H', Same H H' → Q .non H'
theorem ok_check (F : Fun K "_check" "Settled._check" sSettledUcheck f fd) (B : Bt mg) (SC : SeC K CS) (D_check_net : Ok P w K mg base "check_net" 3 ["circuit", "net"] spCheckNet) : FnOk P w K mg base CX0 4 f fd ["self", "net", "vector"] (spCheck P w CS) := by
  refine F.ok scSettledUcheck (fun vs H Q E h => ?_) (fun cdv A outer s H vs Q E hr h => ?_)
  · obtain ⟨_, _, _, _, _, _, _, _, _, _, rfl, _⟩ := h
    rfl
  obtain ⟨s, c, kn, vd, v, C, ord, wf, vec, n, rfl, S, W, hv, hl, hn, q⟩ := h
  refine ⟨_, (pss_cons (ps_if (pt_cmpR op_ne (pe_callB (cLen K) (by rfl) B.len_ PySem.boot_len (pa_cons (pv 2) pa_nil)) (pe_callB call_lenD (by rfl) B.len_ PySem.boot_len (pa_cons (wFld K (pv 0)) pa_nil)) (nomark _)) (pss_one ps_never) pss_nil)
      (pss_one (ps_expr (wCall D_check_net (hr.mono (by first | decide | omega)) (pa_cons (wFld K (pv 0)) (pa_cons (pv 1) pa_nil)))))), ?_⟩
  obtain ⟨dx, fs, wd, dd, h1, h2, h3, h4, h5, h6, h7, h8, h9, h10, h11, ⟨kvs, h12, h13, h14⟩, h15⟩ := S.obj
  refine ⟨.ref v, rfl, v, _, rfl, .inr (SqT.of hv), .ref s, rfl, s, CS, dx, fs, _, rfl, h1, SC.cls, SC.n2, h3, wd, kvs, rfl, h12, rfl, _, rfl, ite2 (fun hne => ?_) (fun _ => ?_)⟩
  · have := i_ne hne
    rw [List.length_map] at this
    omega
  exact ⟨.ref s, rfl, s, CS, dx, fs, _, rfl, h1, SC.cls, SC.n1, h2, .str n, rfl, c, C, n, rfl, S.circ, W.small, hn, fun H' s' => q H' s'⟩
def spSetVal (P : Program) (w : World) (CS : Addr) : Sp := fun vs H Q _ => ∃ (s c kn vd v : Addr) (C : Circ) (ord : List Gate) (wf : Str → Win) (vec : List Bool) (n : Str), vs = [.ref s, .str n, .ref v] ∧ SS P w CS H s c kn vd C wf vec ∧ Wf C ord ∧ H v = some (.tup (vec.map V.bl)) ∧ vec.length = C.srcs.length ∧ n ∈ C.nets ∧
  ∀ H', But [kn, vd] H H' → SS P w CS H' s c kn vd C wf vec → Q (.bl (sv C vec n)) H'
theorem ok_settled_value (F : Fun K "settled_value" "Settled.settled_value" sSettled_settled_value f fd) (B : Bt mg) (SC : SeC K CS) (D_settle : Ok P w K mg base "settle" 3 ["circuit", "vector"] spSettle) : FnOk P w K mg base CX0 4 f fd ["self", "net", "vector"] (spSetVal P w CS) := by
  refine F.ok scSettled_settled_value (fun vs H Q E h => ?_) (fun cdv A outer s H vs Q E hr h => ?_)
  · obtain ⟨_, _, _, _, _, _, _, _, _, _, rfl, _⟩ := h
    rfl
  obtain ⟨s, c, kn, vd, v, C, ord, wf, vec, n, rfl, S, W, hv, hl, hn, q⟩ := h
  refine ⟨_, (pss_cons (ps_if (tNNi' P w hr.units (pv 2) (wFld K (pv 0))) (pss_one (wNP P w hr.units (wFld K (pv 0)) (pv 2) (wCall D_settle (hr.mono (by first | decide | omega)) (pa_cons (wFld K (pv 0)) (pa_cons (pv 2) pa_nil))))) pss_nil)
      (pss_one (ps_ret (wDG hr.units (wNG P w hr.units (wFld K (pv 0)) (pv 2)) (pv 1))))), ?_⟩
  obtain ⟨dx, fs, wd, dd, h1, h2, h3, h4, h5, h6, h7, h8, h9, h10, h11, hw, h15⟩ := S.obj
  obtain ⟨vvs, nd, hvv⟩ := S.vals
  refine ⟨.ref v, rfl, .ref s, rfl, s, CS, dx, fs, _, rfl, h1, SC.cls, SC.n5, h6, vd, v, vvs, vecK vec, rfl, rfl, nd, vecK_top hv, _, rfl, ite2 (fun hno => ?_) (fun hyes => ?_)⟩
  · have e0 : vvs = [] := by
      rcases hvv with z | ⟨d, z, _⟩
      · exact z
      · rw [z, valV_pos rfl] at hno
        cases hno
    subst e0
    refine ⟨.ref s, rfl, s, CS, dx, fs, _, rfl, h1, SC.cls, SC.n1, h2, .ref v, rfl, c, v, C, ord, vec, rfl, S.circ, W, hv, hl, fun d H1 s1 nd1 hsv => ?_⟩
    have hs1 := s1 _ _ h1
    have ndv := nd.keep s1.tupK fun o e => s1 _ _ e
    have hv1 := s1 _ _ hv
    refine ⟨.ref s, rfl, s, CS, dx, fs, _, rfl, hs1, SC.cls, SC.n5, h6, .ref v, rfl, vd, v, [], vecK vec, rfl, rfl, ndv, vecK_top hv1, (by decide), fun o nd2 => ?_⟩
    obtain ⟨φ, hφ⟩ := ndv.ext
    have n1 : s ≠ vd := fun z => by rw [z, hφ] at hs1; cases hs1
    have n2 : v ≠ vd := fun z => by rw [z, hφ] at hv1; cases hv1
    have e1 : putK ([] : List (NestedKey × V)) (vecK vec) (.ref d) = [(vecK vec, .ref d)] := rfl
    rw [e1] at nd2
    have kx : KeepX H1 (upd H1 vd o) := fun b o' e nx => by
      rw [upd_ne (fun z => by rw [z, hφ] at e; exact nx _ (Option.some.inj e).symm)]
      exact e
    have sv2 : SvAt (upd H1 vd o) d C vec := let ⟨kd, k1, k2⟩ := hsv; ⟨kd, kx.dK k1, k2⟩
    have S1 := S.same s1
    have S2 : SS P w CS (upd H1 vd o) s c kn vd C wf vec := S1.keep kx (S1.known.keep kx fun o' e => by rw [upd_ne S.ne]; exact e) ⟨_, nd2, .inr ⟨d, rfl, sv2⟩⟩
    obtain ⟨kd, k1, k2⟩ := sv2
    refine ⟨.ref s, rfl, s, CS, dx, fs, _, rfl, kx.ins hs1, SC.cls, SC.n5, h6, .ref v, rfl, vd, v, _, vecK vec, .ref d, rfl, rfl, nd2, vecK_top (kx.tupK _ _ hv1), valV_pos rfl, .str n, rfl, d, .bl (sv C vec n), rfl, (by rw [← k2 n hn]; exact DGet.k (k := Sum.inr n) k1), ?_⟩
    exact q _ ((Same.but _ s1).trans (But.mut (by simp))) S2
  · obtain ⟨d, rfl, kd, k1, k2⟩ : ∃ d, vvs = [(vecK vec, .ref d)] ∧ SvAt H d C vec := by
      rcases hvv with z | z
      · rw [z] at hyes
        exact absurd rfl hyes
      · exact z
    refine ⟨.ref s, rfl, s, CS, dx, fs, _, rfl, h1, SC.cls, SC.n5, h6, .ref v, rfl, vd, v, _, vecK vec, .ref d, rfl, rfl, nd, vecK_top hv, valV_pos rfl, .str n, rfl, d, .bl (sv C vec n), rfl, (by rw [← k2 n hn]; exact DGet.k (k := Sum.inr n) k1), ?_⟩
    exact q _ (But.refl _ _) S
end
end L2.Sg

/-! Settled: fits, marks, is_settled -/
namespace L2.Sg
open PySem PySem.Spec PyProof.Rows L2.Lx
abbrev sSettled_fits : Stmt := inClass (topS 32) 4
theorem scSettled_fits : FnScope ["self", "net", "time", "vector", "key"] ["self", "net", "time", "vector"] (defScope sSettled_fits) := ⟨rfl, rfl, rfl, by decide +kernel, rfl, by decide +kernel, by decide +kernel⟩
abbrev sSettled_marks : Stmt := inClass (topS 32) 5
theorem scSettled_marks : FnScope ["self", "net", "time", "vector", "gate", "marks", "name", "low", "high", "known", "moment"] ["self", "net", "time", "vector"] (defScope sSettled_marks) := ⟨rfl, rfl, rfl, by decide +kernel, rfl, by decide +kernel, by decide +kernel⟩
abbrev sSettled_is_settled : Stmt := inClass (topS 32) 6
theorem scSettled_is_settled : FnScope ["self", "net", "time", "vector"] ["self", "net", "time", "vector"] (defScope sSettled_is_settled) := ⟨rfl, rfl, rfl, by decide +kernel, rfl, by decide +kernel, by decide +kernel⟩

section
variable {P : Program} {w : World} {CS : Addr} {H H' : Hp} {s c kn vd : Addr} {C : Circ} {wf : Str → Win} {vec : List Bool}
def DkK (H H' : Hp) : Prop := ∀ b kvs, H b = some (.dK kvs) → H' b = some (.dK kvs)
theorem KnAt.keep2 (x : KnAt P w H kn C vec wf) (k : TupK H H') (e : ∀ o, H kn = some o → H' kn = some o) : KnAt P w H' kn C vec wf := let ⟨kvs, nd, q⟩ := x; ⟨kvs, nd.keep k e, q⟩
theorem VlAt.keep2 (x : VlAt P w H vd C vec) (k : TupK H H') (kd : DkK H H') (e : ∀ o, H vd = some o → H' vd = some o) : VlAt P w H' vd C vec := by
  obtain ⟨vvs, nd, q⟩ := x
  refine ⟨vvs, nd.keep k e, ?_⟩
  rcases q with q | ⟨d, q1, kvs, q2, q3⟩
  · exact .inl q
  · exact .inr ⟨d, q1, kvs, kd _ _ q2, q3⟩
theorem lst_dkK {H : Hp} {p : Addr} {xs : List V} {o : HO} (e : H p = some (.lst xs)) : DkK H (upd H p o) := fun b ys h => by
  rw [upd_ne (fun z => by rw [z, e] at h; cases h)]
  exact h
end
theorem allM_succ (e : Int → Bool) (lo hi t : Int) (m : Nat) : allM e lo hi t (m + 1) = (allM e lo hi t m && e (t - hi + (m : Int))) := by
  unfold allM
  rw [List.range_succ, List.all_append]
  simp
section
variable {P : Program} {w : World} {K : PySem.W.Frag} {mg : Str → Option Value} {base : Heap} {f : Addr} {fd : FuncData} {CS : Addr}
def spFits (P : Program) (w : World) (CS : Addr) (k : Nat) : Sp := fun vs H Q _ => ∃ (s c kn vd v : Addr) (C : Circ) (ord : List Gate) (wf : Str → Win) (vec : List Bool) (n : Str) (t : Int), vs = [.ref s, .str n, .int t, .ref v] ∧ SS P w CS H s c kn vd C wf vec ∧ Wf C ord ∧ H v = some (.tup (vec.map V.bl)) ∧ vec.length = C.srcs.length ∧
  Lv C ord k n ∧ -1000 + 20 * (k : Int) ≤ t ∧ t ≤ 1000 ∧ ∀ H', But [kn, vd] H H' → SS P w CS H' s c kn vd C wf vec → Q (.bl (fv C vec wf n t)) H'
def spMarks (P : Program) (w : World) (CS : Addr) (k : Nat) : Sp := fun vs H Q _ => ∃ (s c kn vd v : Addr) (C : Circ) (ord : List Gate) (wf : Str → Win) (vec : List Bool) (g : Gate) (t : Int), vs = [.ref s, .str g.name, .int t, .ref v] ∧ SS P w CS H s c kn vd C wf vec ∧ Wf C ord ∧ H v = some (.tup (vec.map V.bl)) ∧ vec.length = C.srcs.length ∧
  g ∈ C.gates ∧ (∀ m ∈ g.nets, Lv C ord k m) ∧ -990 + 20 * (k : Int) ≤ t ∧ t ≤ 1000 ∧ ∀ m H', But [kn, vd] H H' → SS P w CS H' s c kn vd C wf vec → H' m = some (.tup ((marksF (sv C vec) g (fv C vec wf) t).map V.int)) → Q (.ref m) H'
def spMkRec (P : Program) (w : World) (CS : Addr) : Nat → Sp
  | 0 => spNo
  | k + 1 => spMarks P w CS k
theorem ok_marks (k l : Nat) (F : Fun K "marks" "Settled.marks" sSettled_marks f fd) (B : Bt mg) (SC : SeC K CS) (D_settled_value : MOk P w K mg base CS "settled_value" 4 ["self", "net", "vector"] (spSetVal P w CS))
    (D_fits : MOk P w K mg base CS "fits" (l + 4) ["self", "net", "time", "vector"] (spFits P w CS k)) : FnOk P w K mg base CX0 (l + 5) f fd ["self", "net", "time", "vector"] (spMarks P w CS k) := by
  refine F.ok scSettled_marks (fun vs H Q E h => ?_) (fun cdv A outer s H vs Q E hr h => ?_)
  · obtain ⟨_, _, _, _, _, _, _, _, _, _, _, rfl, _⟩ := h
    rfl
  obtain ⟨s, c, kn, vd, v, C, ord, wf, vec, g, t, rfl, S, W, hv, hl, hg, dn, t1, t2, q⟩ := h
  refine ⟨_, (pss_cons (ps_set (i := 4) scSettled_marks.nd rfl (Or.inl rfl) (wIxT K (wIxT K (wFld K (pv 0)) pe_int) (wDG hr.units (wFld K (pv 0)) (pv 1))))
      (pss_cons (ps_set (i := 5) scSettled_marks.nd rfl (Or.inl rfl) (pe_lst pa_nil))
      (pss_cons (ps_for PassesOwn.never rfl (wZ2 true true K B.zip_ (pa_cons (wIxT K (pv 4) pe_int) (pa_cons (wIxT K (pv 4) pe_int) pa_nil))) (wTupG K rfl (pgs_cons (pg_name (i := 6) scSettled_marks.nd rfl (Or.inl rfl)) (pgs_cons (wTupG K rfl (pgs_cons (pg_name (i := 7) scSettled_marks.nd rfl (Or.inl rfl)) (pgs_cons (pg_name (i := 8) scSettled_marks.nd rfl (Or.inl rfl)) pgs_nil))) pgs_nil))) (pss_cons (ps_set (i := 9) scSettled_marks.nd rfl (Or.inl rfl) pe_bl)
      (pss_cons (ps_for PassesOwn.never rfl (pi_range2 rfl B.range_ (pa_cons (pe_op op_sub (pv 2) (pv 8)) (pa_cons (pe_op op_add (pe_op op_sub (pv 2) (pv 7)) pe_int) pa_nil))) (pg_name (i := 10) scSettled_marks.nd rfl (Or.inl rfl)) (pss_one (ps_set (i := 9) scSettled_marks.nd rfl (Or.inl rfl) (pe_and (pv 9) (pe_one (wMeth D_fits (pv 0) (hr.mono (by first | decide | omega)) (pa_cons (pv 6) (pa_cons (pv 10) (pa_cons (pv 3) pa_nil)))))))))
      (pss_one (ps_expr (pe_bm PySem.F.plainAttrs_list PySem.F.slot_list_append PySem.F.type_list_append mt_append (pv 5) (pa_cons (pe_ifExp (pt_val (pv 9)) (pe_callTy (call_int1) (by rfl) B.int_ boot_int' (pa_cons (wMeth D_settled_value (pv 0) (hr.mono (by first | decide | omega)) (pa_cons (pv 6) (pa_cons (pv 3) pa_nil))) pa_nil)) (pe_un un_neg pe_int)) pa_nil)))))))
      (pss_one (ps_ret (pe_callTy (cTuple K) (by rfl) B.tuple_ boot_tuple' (pa_cons (pv 5) pa_nil))))))), ?_⟩
  have S0 := S.obj
  obtain ⟨dx, fs, wd, dd, h1, h2, h3, h4, h5, h6, h7, h8, h9, h10, h11, hw, ⟨kd, hd1, hd2⟩⟩ := S0
  obtain ⟨i, hi, ei⟩ := List.mem_iff_getElem.mp hg
  have eg : C.gates[i]? = some g := by rw [← ei]; exact List.getElem?_eq_getElem hi
  have ev : valV kd (Sum.inr g.name) = some (.int (i : Nat)) := by rw [hd2, dIx_at W eg]; rfl
  have hc0 := S.circ
  obtain ⟨ci, cg, cr, co, ga, ra, c1, c2, c3, c4, c5, c6⟩ := hc0
  obtain ⟨gad, ega, tb, n1, rr, sa, hy1, hy2, hy3, hy4, hy5⟩ := pget2 c4 eg
  obtain ⟨shp, tabl, n3, spn⟩ := W.shape g hg
  refine ⟨.ref s, rfl, s, CS, dx, fs, _, rfl, h1, SC.cls, SC.n1, h2, c, _, 1, _, rfl, rfl, SqT.of c1, atI_nat (j := 1) rfl, .ref s, rfl, s, CS, dx, fs, _, rfl, h1, SC.cls, SC.n3, h4, .str g.name, rfl, dd, .int (i : Nat), rfl, (by rw [← ev]; exact DGet.k (k := Sum.inr g.name) hd1),
    cg, _, i, .ref gad, rfl, rfl, SqT.of c3, atI_map ega, ?_⟩
  refine ⟨Nat.zero_le _, fun mp nmp => ?_⟩
  have sb := same_new (o := .lst []) nmp
  have nkm : kn ≠ mp := fun z => by obtain ⟨φ, e⟩ := S.known.ext; rw [z, nmp] at e; cases e
  have nvm : vd ≠ mp := fun z => by obtain ⟨φ, e⟩ := S.vals.ext; rw [z, nmp] at e; cases e
  have mnk : mp ∉ [kn, vd] := fun z => by
    rcases List.mem_cons.mp z with e | e
    · exact nkm e.symm
    · exact nvm (List.mem_singleton.mp e).symm
  have lsa := Paired.length hy5
  have kxx : ∀ {H1 : Hp}, But [kn, vd] H H1 → KeepX H H1 := fun b => S.butX b
  refine ⟨.ref gad, rfl, gad, _, 2, _, rfl, rfl, SqT.of (sb _ _ hy1), atI_nat (j := 2) rfl, .ref gad, rfl, gad, _, 3, _, rfl, rfl, SqT.of (sb _ _ hy1), atI_nat (j := 3) rfl, n1, rr, _, _, rfl, SqT.of (sb _ _ hy3), SqT.of (sb _ _ hy4),
    for_it (walk_z2 (n := g.nets.length) (List.length_map _) (by rw [List.length_map]; omega))
    (fun j σ H1 => ∃ y6 y7 y8 y9 y10, σ = [some (.ref s), some (.str g.name), some (.int t), some (.ref v), some (.ref gad), some (.ref mp), y6, y7, y8, y9, y10] ∧ But [kn, vd] H H1 ∧ SS P w CS H1 s c kn vd C wf vec ∧ H1 mp = some (.lst ((((g.nets.zip g.spans).take j).map (markF (sv C vec) (fv C vec wf) t)).map V.int)))
    ⟨none, none, none, none, none, rfl, Same.but _ sb, S.same sb, upd_same⟩ (fun j σ H1 _ ⟨_, _, _, _, _, _, b, _⟩ => ⟨SqT.of ((kxx b).tupK _ _ hy3), SqT.of ((kxx b).tupK _ _ hy4)⟩) ?_ ?_⟩
  · rintro j x σ H1 H2 hj ⟨y6, y7, y8, y9, y10, rfl, b1, S1, hm1⟩ ⟨T, x1, x2, rfl, nT, rfl, e1, e2⟩
    obtain ⟨m, em, rfl⟩ := get_map e1
    obtain ⟨spa, esa, rfl⟩ := get_map e2
    obtain ⟨sp, esp, hsp⟩ := pget hy5 esa
    have sT := same_new (o := .tup [.str m, .ref spa]) nT
    have b2 := b1.trans (But.new (o := .tup [.str m, .ref spa]) nT)
    have S2 := S1.same sT
    have hm2 := sT _ _ hm1
    have hspT := (kxx b2).tupK _ _ hsp
    obtain ⟨q1, q2, q3⟩ := spn sp (List.mem_of_getElem? esp)
    have hmn := List.mem_of_getElem? em
    refine ⟨T, _, rfl, SqT.of upd_same, rfl, _, _, rfl, _, _, rfl, spa, _, rfl, SqT.of hspT, rfl, _, _, rfl, _, _, rfl, rfl, rfl, ?_⟩
    refine ⟨.int t, rfl, .int sp.2, rfl, t, sp.2, rfl, rfl, .int t, rfl, .int sp.1, rfl, t, sp.1, rfl, rfl, _, 1, rfl, rfl, t - sp.2, t - sp.1 + 1, rfl, ⟨by omega, by omega, by omega, by omega⟩, ?_⟩
    have ez : (t - sp.1 + 1 - (t - sp.2)).toNat = (sp.2 - sp.1 + 1).toNat := by congr 1; omega
    rw [ez]
    refine for_range (fun z σ H3 => ∃ y10, σ = [some (.ref s), some (.str g.name), some (.int t), some (.ref v), some (.ref gad), some (.ref mp), some (.str m), some (.int sp.1), some (.int sp.2), some (.bl (allM (fv C vec wf m) sp.1 sp.2 t z)), y10] ∧ But [kn, vd] H H3 ∧ SS P w CS H3 s c kn vd C wf vec ∧ H3 mp = some (.lst ((((g.nets.zip g.spans).take j).map (markF (sv C vec) (fv C vec wf) t)).map V.int)))
      ⟨y10, rfl, b2, S2, hm2⟩ ?_ ?_
    · rintro z σ H3 hz ⟨y10, rfl, b3, S3, hm3⟩
      obtain ⟨dx3, fs3, _, _, g1, _, _, _, _, _, _, g8, g9, g10, _, _, _⟩ := S3.obj
      refine ⟨_, rfl, _, rfl, ite2 (fun hb => ?_) (fun hb => ?_)⟩
      · refine ⟨.ref s, rfl, s, dx3, fs3, rfl, g1, g9, .str m, rfl, _, rfl, .ref v, rfl, s, c, kn, vd, v, C, ord, wf, vec, m, t - sp.2 + (z : Int), rfl, S3, W, (kxx b3).tupK _ _ hv, hl, dn m hmn, by omega, by omega, fun H4 b4 S4 => ?_⟩
        refine ⟨some (.int (t - sp.2 + (z : Int))), ?_, b3.trans b4, S4, b4 _ _ hm3 mnk⟩
        rw [allM_succ, hb, Bool.true_and]
        rfl
      · refine ⟨some (.int (t - sp.2 + (z : Int))), ?_, b3, S3, hm3⟩
        rw [allM_succ, Bool.eq_false_iff.mpr hb, Bool.false_and]
        rfl
    · rintro σ H3 ⟨y10, rfl, b3, S3, hm3⟩
      obtain ⟨dx3, fs3, _, _, g1, _, _, _, _, _, _, g8, g9, g10, _, _, _⟩ := S3.obj
      have ezip : (g.nets.zip g.spans)[j]? = some (m, sp) := by rw [List.getElem?_zip_eq_some]; exact ⟨em, esp⟩
      have app : ∀ H4 (u : Int), But [kn, vd] H H4 → SS P w CS H4 s c kn vd C wf vec → H4 mp = some (.lst ((((g.nets.zip g.spans).take j).map (markF (sv C vec) (fv C vec wf) t)).map V.int)) → u = markF (sv C vec) (fv C vec wf) t (m, sp) →
          (((((g.nets.zip g.spans).take j).map (markF (sv C vec) (fv C vec wf) t)).map V.int).length < sizeLine) ∧ But [kn, vd] H (upd H4 mp (.lst ((((g.nets.zip g.spans).take j).map (markF (sv C vec) (fv C vec wf) t)).map V.int ++ [.int u]))) ∧
          SS P w CS (upd H4 mp (.lst ((((g.nets.zip g.spans).take j).map (markF (sv C vec) (fv C vec wf) t)).map V.int ++ [.int u]))) s c kn vd C wf vec ∧
          (upd H4 mp (.lst ((((g.nets.zip g.spans).take j).map (markF (sv C vec) (fv C vec wf) t)).map V.int ++ [.int u]))) mp = some (.lst ((((g.nets.zip g.spans).take (j + 1)).map (markF (sv C vec) (fv C vec wf) t)).map V.int)) := by
        intro H4 u b4 S4 hm4 hu
        have bb := b4.mutN (o := .lst ((((g.nets.zip g.spans).take j).map (markF (sv C vec) (fv C vec wf) t)).map V.int ++ [.int u])) nmp
        refine ⟨?_, bb, S.keep (kxx bb) (S4.known.keep2 (lst_tupK hm4) fun o e => by rw [upd_ne nkm]; exact e) (S4.vals.keep2 (lst_tupK hm4) (lst_dkK hm4) fun o e => by rw [upd_ne nvm]; exact e), ?_⟩
        · rw [List.length_map, List.length_map, List.length_take, List.length_zip]
          exact szlt (by omega)
        · rw [upd_same, take_snoc ezip, List.map_append, List.map_append, hu]
          rfl
      refine ⟨.ref mp, rfl, .inl ⟨rfl, _, SqL.of hm3⟩, _, rfl, _, rfl, ite2 (fun hb => ?_) (fun hb => ?_)⟩
      · refine ⟨.ref s, rfl, s, dx3, fs3, rfl, g1, g8, .str m, rfl, .ref v, rfl, s, c, kn, vd, v, C, ord, wf, vec, m, rfl, S3, W, (kxx b3).tupK _ _ hv, hl, W.netIn hg hmn, fun H4 b4 S4 => .inr ⟨_, rfl, ?_⟩⟩
        obtain ⟨a1, a2, a3, a4⟩ := app H4 (mark (sv C vec m)) (b3.trans b4) S4 (b4 _ _ hm3 mnk) (by unfold markF; exact (if_pos hb).symm)
        exact ⟨mp, _, _, rfl, rfl, b4 _ _ hm3 mnk, a1, _, _, _, _, _, rfl, a2, a3, a4⟩
      · obtain ⟨a1, a2, a3, a4⟩ := app H3 (-1) b3 S3 hm3 (by unfold markF; exact (if_neg hb).symm)
        exact ⟨1, rfl, mp, _, _, rfl, rfl, hm3, a1, _, _, _, _, _, rfl, a2, a3, a4⟩
  · rintro σ H1 ⟨y6, y7, y8, y9, y10, rfl, b1, S1, hm1⟩
    have zl : (g.nets.zip g.spans).length = g.nets.length := by rw [List.length_zip]; omega
    rw [← zl, List.take_of_length_le (Nat.le_refl _)] at hm1
    refine ⟨.ref mp, rfl, mp, _, rfl, .inl ⟨SqL.of hm1, fun p np => ?_⟩⟩
    exact q p _ (b1.trans (But.new np)) (S1.same (same_new np)) upd_same
theorem ok_fits (k l : Nat) (F : Fun K "fits" "Settled.fits" sSettled_fits f fd) (B : Bt mg) (SC : SeC K CS) (D_in_window : Ok P w K mg base "in_window" 1 ["window", "time"] spInWindow) (D_forced : Ok P w K mg base "forced" 2 ["table", "partial"] spForced)
    (D_marks : MOk P w K mg base CS "marks" (l + 2) ["self", "net", "time", "vector"] (spMkRec P w CS k)) : FnOk P w K mg base CX0 (l + 3) f fd ["self", "net", "time", "vector"] (spFits P w CS k) := by
  refine F.ok scSettled_fits (fun vs H Q E h => ?_) (fun cdv A outer s H vs Q E hr h => ?_)
  · obtain ⟨_, _, _, _, _, _, _, _, _, _, _, rfl, _⟩ := h
    rfl
  obtain ⟨s, c, kn, vd, v, C, ord, wf, vec, n, t, rfl, S, W, hv, hl, lv, t1, t2, q⟩ := h
  refine ⟨_, (pss_cons (ps_if (tDNi' hr.units (pv 1) (wFld K (pv 0))) (pss_one (ps_ret (wCall D_in_window (hr.mono (by first | decide | omega)) (pa_cons (wDG hr.units (wFld K (pv 0)) (pv 1)) (pa_cons (pv 2) pa_nil))))) pss_nil)
      (pss_cons (ps_set (i := 4) scSettled_fits.nd rfl (Or.inl rfl) (pe_tup (pa_cons (pv 1) (pa_cons (pv 2) (pa_cons (pv 3) pa_nil)))))
      (pss_cons (ps_if (tNNi' P w hr.units (pv 4) (wFld K (pv 0))) (pss_one (wNP P w hr.units (wFld K (pv 0)) (pv 4) (pe_cmp (pc_notN (wCall D_forced (hr.mono (by first | decide | omega)) (pa_cons (wIxT K (wIxT K (wIxT K (wFld K (pv 0)) pe_int) (wDG hr.units (wFld K (pv 0)) (pv 1))) pe_int) (pa_cons (wMeth D_marks (pv 0) (hr.mono (by first | decide | omega)) (pa_cons (pv 1) (pa_cons (pv 2) (pa_cons (pv 3) pa_nil)))) pa_nil)))) rfl))) pss_nil)
      (pss_one (ps_ret (wNG P w hr.units (wFld K (pv 0)) (pv 4))))))), ?_⟩
  have S0 := S.obj
  obtain ⟨dx, fs, wd, dd, h1, h2, h3, h4, h5, h6, h7, h8, h9, h10, h11, ⟨kw, hw1, hw2, hw3⟩, ⟨kd, hd1, hd2⟩⟩ := S0
  refine ⟨.str n, rfl, .ref s, rfl, s, CS, dx, fs, _, rfl, h1, SC.cls, SC.n3, h4, dd, _, rfl, DGet.k (k := Sum.inr n) hd1, _, rfl, ite2 (fun hni => ?_) (fun hin => ?_)⟩
  · have hnone : dIx C n = none := by
      rw [hd2, Option.isSome_map] at hni
      cases z : dIx C n with
      | none => rfl
      | some i => rw [z] at hni; cases hni
    have hns : n ∈ C.srcs := by
      rcases List.mem_append.mp (W.of_lv lv) with z | z
      · exact z
      · obtain ⟨g, hg, en⟩ := List.mem_map.mp z
        exact absurd en (dIx_none hnone g hg)
    obtain ⟨wa, w1, w2⟩ := hw3 n hns
    refine ⟨.ref s, rfl, s, CS, dx, fs, _, rfl, h1, SC.cls, SC.n2, h3, .str n, rfl, wd, .ref wa, rfl, (by rw [← w1]; exact DGet.k (k := Sum.inr n) hw1), .int t, rfl, wa, wf n, t, rfl, w2, ?_⟩
    have e : fv C vec wf n t = inW (wf n) t := by unfold fv; rw [ev_src W hns]
    rw [← e]
    exact q H (But.refl _ _) S
  obtain ⟨i, ei⟩ : ∃ i, dIx C n = some i := by
    cases z : dIx C n with
    | none => rw [hd2, z] at hin; exact absurd rfl hin
    | some i => exact ⟨i, rfl⟩
  obtain ⟨g, eg, en⟩ := dIx_some ei
  subst en
  have hg := List.mem_of_getElem? eg
  have hnets : g.name ∈ C.nets := W.of_lv lv
  have ev : valV kd (Sum.inr g.name) = some (.int (i : Nat)) := by rw [hd2, ei]; rfl
  obtain ⟨k', rfl⟩ : ∃ k', k = k' + 1 := by
    cases k with
    | zero =>
      rcases lv with z | ⟨j, _, hj, _⟩
      · exact absurd z (W.apart hg)
      · omega
    | succ k' => exact ⟨k', rfl⟩
  have dn := W.down hg lv
  obtain ⟨shp, tabl, n3, spn⟩ := W.shape g hg
  -- key
  refine ⟨_, rfl, _, rfl, _, rfl, szl (n := 3) (by decide), fun kp nkp => ?_⟩
  have sk := same_new (o := .tup [.str g.name, .int t, .ref v]) nkp
  have S1 := S.same sk
  have hkt : KTop (upd H kp (.tup [.str g.name, .int t, .ref v])) kp (keyR [vecK vec] g.name t) := ⟨_, _, upd_same, rfl, .cons (.inl rfl) (.cons (.inl rfl) (.cons (.inr ⟨v, _, rfl, rfl, vecK_flat (sk _ _ hv)⟩) .nil))⟩
  have hs1 := sk _ _ h1
  have hd1' := sk _ _ hd1
  have hv1 := sk _ _ hv
  generalize upd H kp (.tup [.str g.name, .int t, .ref v]) = G at sk S1 hkt hs1 hd1' hv1 ⊢
  obtain ⟨kvs, nd1, Kk⟩ := S1.known
  refine ⟨.ref kp, rfl, .ref s, rfl, s, CS, dx, fs, _, rfl, hs1, SC.cls, SC.n4, h5, kn, kp, kvs, keyR [vecK vec] g.name t, rfl, rfl, nd1, hkt, _, rfl, ite2 (fun hno => ?_) (fun hyes => ?_)⟩
  rotate_left
  · obtain ⟨u, eu⟩ : ∃ u, valV kvs (keyR [vecK vec] g.name t) = some u := by
      cases z : valV kvs (keyR [vecK vec] g.name t) with
      | none => rw [z] at hyes; exact absurd rfl hyes
      | some u => exact ⟨u, rfl⟩
    refine ⟨.ref s, rfl, s, CS, dx, fs, _, rfl, hs1, SC.cls, SC.n4, h5, .ref kp, rfl, kn, kp, kvs, keyR [vecK vec] g.name t, u, rfl, rfl, nd1, hkt, eu, ?_⟩
    rw [Kk.told eu]
    exact q _ (Same.but _ sk) S1
  have hc0 := S1.circ
  obtain ⟨ci, cg, cr, co, ga, ra, c1, c2, c3, c4, c5, c6⟩ := hc0
  obtain ⟨gad, ega, tb, n1, rr, sa, hy1, hy2, hy3, hy4, hy5⟩ := pget2 c4 eg
  refine ⟨.ref s, rfl, s, CS, dx, fs, _, rfl, hs1, SC.cls, SC.n1, h2, c, _, 1, _, rfl, rfl, SqT.of c1, atI_nat (j := 1) rfl, .ref s, rfl, s, CS, dx, fs, _, rfl, hs1, SC.cls, SC.n3, h4, .str g.name, rfl, dd, .int (i : Nat), rfl, (by rw [← ev]; exact DGet.k (k := Sum.inr g.name) hd1'),
    cg, _, i, .ref gad, rfl, rfl, SqT.of c3, atI_map ega, gad, _, 1, _, rfl, rfl, SqT.of hy1, atI_nat (j := 1) rfl, ?_⟩
  refine ⟨.ref s, rfl, s, dx, fs, rfl, hs1, h10, .str g.name, rfl, .int t, rfl, .ref v, rfl, s, c, kn, vd, v, C, ord, wf, vec, g, t, rfl, S1, W, hv1, hl, hg, dn, by omega, t2, fun mp H2 b2 S2 hmp => ?_⟩
  have kx2 := S1.butX b2
  refine ⟨tb, mp, g.tab, _, rfl, kx2.tupK _ _ hy2, hmp, ?_, shown_ne W hg vec _ t, fun H3 s3 => ?_⟩
  · rw [tabl]
    exact Nat.le_trans (Nat.pow_le_pow_right (by decide) n3) (by decide)
  have S3 := S2.same s3
  have b3 := b2.trans (Same.but [kn, vd] s3)
  have kx3 := S1.butX b3
  obtain ⟨kvs3, nd3, Kk3⟩ := S3.known
  have e : (!decide (forcedV g.tab (marksF (sv C vec) g (fv C vec wf) t) = V.non)) = fv C vec wf g.name t := by
    have z : fv C vec wf g.name = fvStep (sv C vec) g (fv C vec wf) := ev_gate W (fvSees _) hg
    rw [z]
    rfl
  dsimp only
  rw [e]
  have hs3 := kx3.ins hs1
  have hk3 := hkt.keep kx3.tupK
  refine ⟨.ref s, rfl, s, CS, dx, fs, _, rfl, hs3, SC.cls, SC.n4, h5, .ref kp, rfl, kn, kp, kvs3, keyR [vecK vec] g.name t, rfl, rfl, nd3, hk3, Kk3.room W, fun o nd4 => ?_⟩
  obtain ⟨φ, hφ⟩ := nd3.ext
  have kx4 : KeepX H3 (upd H3 kn o) := fun b o' e nx => by
    rw [upd_ne (fun z => by rw [z, hφ] at e; exact nx _ (Option.some.inj e).symm)]
    exact e
  refine ⟨.ref s, rfl, s, CS, dx, fs, _, rfl, kx4.ins hs3, SC.cls, SC.n4, h5, .ref kp, rfl, kn, kp, _, keyR [vecK vec] g.name t, .bl (fv C vec wf g.name t), rfl, rfl, nd4, hk3.keep kx4.tupK, (by rw [valV_put, if_pos rfl]), ?_⟩
  refine q _ (((Same.but _ sk).trans b3).trans (But.mut (by simp))) (S3.keep kx4 ⟨_, nd4, Kk3.put hnets (by omega) t2⟩ (S3.vals.keep kx4 fun o' e => by rw [upd_ne S3.ne.symm]; exact e))
theorem ok_no_marks (F : Fun K "marks" "Settled.marks" sSettled_marks f fd) : FnOk P w K mg base CX0 1 f fd ["self", "net", "time", "vector"] spNo :=
  F.ok scSettled_marks (fun vs H Q E h => h.elim) (fun cdv A outer s H vs Q E hr h => h.elim)
theorem ok_fits_all {fm : Addr} {fdm : FuncData} (F : Fun K "fits" "Settled.fits" sSettled_fits f fd) (Fm : Fun K "marks" "Settled.marks" sSettled_marks fm fdm) (B : Bt mg) (SC : SeC K CS) (M : Meth K CS "fits" f) (Mm : Meth K CS "marks" fm) (hb : Binds K fd ["self", "net", "time", "vector"] []) (hbm : Binds K fdm ["self", "net", "time", "vector"] [])
    (D_in_window : Ok P w K mg base "in_window" 1 ["window", "time"] spInWindow) (D_forced : Ok P w K mg base "forced" 2 ["table", "partial"] spForced) (D_settled_value : MOk P w K mg base CS "settled_value" 4 ["self", "net", "vector"] (spSetVal P w CS)) :
    ∀ k, FnOk P w K mg base CX0 (2 * k + 4) f fd ["self", "net", "time", "vector"] (spFits P w CS k)
  | 0 => ok_fits 0 1 F B SC D_in_window D_forced ⟨⟨fm, fdm, (ok_no_marks Fm).mono (by decide), Mm, hbm⟩, SC.cls⟩
  | k + 1 => ok_fits (k + 1) (2 * k + 3) F B SC D_in_window D_forced ⟨⟨fm, fdm, ok_marks k (2 * k) Fm B SC D_settled_value ⟨⟨f, fd, ok_fits_all F Fm B SC M Mm hb hbm D_in_window D_forced D_settled_value k, M, hb⟩, SC.cls⟩, Mm, hbm⟩, SC.cls⟩
def spIsSettled (P : Program) (w : World) (CS : Addr) : Sp := fun vs H Q _ => ∃ (s c kn vd v : Addr) (C : Circ) (ord : List Gate) (wf : Str → Win) (vec : List Bool) (n : Str) (t : Int), vs = [.ref s, .str n, .int t, .ref v] ∧ SS P w CS H s c kn vd C wf vec ∧ Wf C ord ∧ H v = some (.tup (vec.map V.bl)) ∧ vec.length = C.srcs.length ∧
  n ∈ C.nets ∧ -100 ≤ t ∧ t ≤ 1000 ∧ ∀ H', But [kn, vd] H H' → SS P w CS H' s c kn vd C wf vec → Q (.bl (fv C vec wf n t)) H'
theorem ok_is_settled (F : Fun K "is_settled" "Settled.is_settled" sSettled_is_settled f fd) (B : Bt mg) (SC : SeC K CS) (D_check : MOk P w K mg base CS "_check" 4 ["self", "net", "vector"] (spCheck P w CS)) (D_fits : MOk P w K mg base CS "fits" 16 ["self", "net", "time", "vector"] (spFits P w CS 6)) :
    FnOk P w K mg base CX0 17 f fd ["self", "net", "time", "vector"] (spIsSettled P w CS) := by
  refine F.ok scSettled_is_settled (fun vs H Q E h => ?_) (fun cdv A outer s H vs Q E hr h => ?_)
  · obtain ⟨_, _, _, _, _, _, _, _, _, _, _, rfl, _⟩ := h
    rfl
  obtain ⟨s, c, kn, vd, v, C, ord, wf, vec, n, t, rfl, S, W, hv, hl, hn, t1, t2, q⟩ := h
  refine ⟨_, (pss_cons (ps_expr (wMeth D_check (pv 0) (hr.mono (by first | decide | omega)) (pa_cons (pv 1) (pa_cons (pv 3) pa_nil))))
      (pss_one (ps_ret (wMeth D_fits (pv 0) (hr.mono (by first | decide | omega)) (pa_cons (pv 1) (pa_cons (pv 2) (pa_cons (pv 3) pa_nil))))))), ?_⟩
  have S0 := S.obj
  obtain ⟨dx, fs, wd, dd, h1, h2, h3, h4, h5, h6, h7, h8, h9, h10, h11, _, _⟩ := S0
  refine ⟨.ref s, rfl, s, dx, fs, rfl, h1, h7, .str n, rfl, .ref v, rfl, s, c, kn, vd, v, C, ord, wf, vec, n, rfl, S, W, hv, hl, hn, fun H1 s1 => ?_⟩
  exact ⟨.ref s, rfl, s, dx, fs, rfl, s1 _ _ h1, h9, .str n, rfl, .int t, rfl, .ref v, rfl, s, c, kn, vd, v, C, ord, wf, vec, n, t, rfl, S.same s1, W, s1 _ _ hv, hl, (W.lv hn).mono W.few, by omega, t2, fun H2 b2 S2 => q H2 ((Same.but _ s1).trans b2) S2⟩
end
end L2.Sg

/-! the law's pool and draws -/
namespace L2.Sg
open PySem PySem.Spec PyProof.Rows L2.Lx
abbrev s_law_pool : Stmt := topS 35
theorem sc_law_pool : FnScope ["_law_script", "_law_salt", "_law_cell"] ["_law_script"] (defScope s_law_pool) := ⟨rfl, rfl, rfl, by decide +kernel, rfl, by decide +kernel, by decide +kernel⟩
abbrev s_law_spread : Stmt := topS 36
theorem sc_law_spread : FnScope ["_law_cell", "_law_mixed", "_law_total", "_law_k"] ["_law_cell"] (defScope s_law_spread) := ⟨rfl, rfl, rfl, by decide +kernel, rfl, by decide +kernel, by decide +kernel⟩
abbrev s_law_draw : Stmt := topS 37
theorem sc_law_draw : FnScope ["_law_pool_here", "_law_many", "_law_cell", "_law_mixed", "_law_value_here"] ["_law_pool_here", "_law_many"] (defScope s_law_draw) := ⟨rfl, rfl, rfl, by decide +kernel, rfl, by decide +kernel, by decide +kernel⟩
abbrev s_law_inside : Stmt := topS 50
theorem sc_law_inside : FnScope ["_law_window_here", "_law_time"] ["_law_window_here", "_law_time"] (defScope s_law_inside) := ⟨rfl, rfl, rfl, by decide +kernel, rfl, by decide +kernel, by decide +kernel⟩

def PoolAt (H : Hp) (p l : Addr) : Prop := ∃ (i n c s : Int), H p = some (.lst [.ref l, .int i, .int n, .int c, .int s]) ∧ 0 ≤ i ∧ ∃ xs : List Int, H l = some (.lst (xs.map V.int))
theorem PoolAt.ne0 {H : Hp} {p l : Addr} {i n c s : Int} {xs : List Int} (h : H p = some (.lst [.ref l, .int i, .int n, .int c, .int s])) (hl : H l = some (.lst (xs.map V.int))) : l ≠ p := fun z => by
  rw [z, h] at hl
  injection hl with hl
  injection hl with hl
  cases xs with
  | nil => cases hl
  | cons a r => injection hl with h1 _; cases h1
theorem PoolAt.keep {H H' : Hp} {p l : Addr} (x : PoolAt H p l) (t : Same H H') : PoolAt H' p l := let ⟨i, n, c, s, h, hi, xs, hl⟩ := x; ⟨i, n, c, s, t _ _ h, hi, xs, t _ _ hl⟩
theorem PoolAt.upd {H : Hp} {p l m : Addr} {o : HO} (x : PoolAt H p l) (h1 : m ≠ p) (h2 : m ≠ l) : PoolAt (upd H m o) p l := by
  obtain ⟨i, n, c, s, h, hi, xs, hl⟩ := x
  exact ⟨i, n, c, s, by rw [upd_ne h1.symm]; exact h, hi, xs, by rw [upd_ne h2.symm]; exact hl⟩
theorem PoolAt.new {H : Hp} {p l m : Addr} (x : PoolAt H p l) (h : H m = none) : m ≠ p ∧ m ≠ l := by
  obtain ⟨i, n, c, s, e1, hi, xs, e2⟩ := x
  exact ⟨(ne_of_none e1 h).symm, (ne_of_none e2 h).symm⟩
section
variable {P : Program} {w : World} {K : PySem.W.Frag} {mg : Str → Option Value} {base : Heap} {f : Addr} {fd : FuncData}
def spPool (K : PySem.W.Frag) : Sp := fun vs H Q _ => ∃ (a : Addr) (xs : List Int), vs = [.ref a] ∧ SqL K H a (xs.map V.int) ∧ xs.length ≤ 1000 ∧ ∀ p l H', Same H H' → H p = none → H l = none → PoolAt H' p l → Q (.ref p) H'
theorem ok_pool (F : Fun K "_law_pool" "_law_pool" s_law_pool f fd) (B : Bt mg) : FnOk P w K mg base CX0 1 f fd ["_law_script"] (spPool K) := by
  refine F.ok sc_law_pool (fun vs H Q E h => ?_) (fun cdv A outer s H vs Q E hr h => ?_)
  · obtain ⟨_, _, rfl, _⟩ := h
    rfl
  obtain ⟨a, xs, rfl, ha, hl, q⟩ := h
  refine ⟨_, (pss_cons (ps_set (i := 1) sc_law_pool.nd rfl (Or.inl rfl) pe_int)
      (pss_cons (ps_for PassesOwn.never rfl (wForL K (wSl K (pv 0) po_none (po_some pe_int))) (pg_name (i := 2) sc_law_pool.nd rfl (Or.inl rfl)) (pss_one (ps_set (i := 1) sc_law_pool.nd rfl (Or.inl rfl) (pe_op op_mod (pe_callTy (call_int1) (by rfl) B.int_ boot_int' (pa_cons (pe_op op_add (pe_op op_mul (pv 1) pe_int) (pv 2)) pa_nil)) pe_int))))
      (pss_one (ps_ret (pe_lst (pa_cons (pe_callTy (cList K) (by rfl) B.list_ boot_list' (pa_cons (pv 0) pa_nil)) (pa_cons pe_int (pa_cons pe_int (pa_cons pe_int (pa_cons (pv 1) pa_nil)))))))))), ?_⟩
  refine ⟨.ref a, rfl, 63, rfl, a, _, rfl, ha, fun l nl => ⟨_, rfl, ⟨_, SqL.of upd_same⟩, for_it walk_list (fun i σ H1 => ∃ y1 y2, σ = [some (.ref a), some (.int y1), y2] ∧ Same (upd H l (.lst (cutV (xs.map V.int) none (some 63)))) H1) ⟨7, none, rfl, Same.refl _⟩
    (fun i σ H1 _ ⟨_, _, _, s⟩ => SqL.of (s _ _ upd_same)) ?_ ?_⟩⟩
  · rintro i x σ H1 H2 hi ⟨y1, y2, rfl, s⟩ ⟨rfl, ex⟩
    have hx : x ∈ cutV (xs.map V.int) none (some 63) := List.mem_of_getElem? ex
    unfold cutV at hx
    obtain ⟨c, _, rfl⟩ := List.mem_map.mp (List.mem_of_mem_drop (List.mem_of_mem_take hx))
    refine ⟨_, rfl, y1, 31, rfl, rfl, .inr ⟨by decide, by decide⟩, .int c, rfl, _, _, rfl, rfl, .inl ⟨_, rfl, _, 1000003, rfl, rfl, (show (0 : Int) < 1000003 by decide), _, _, rfl, s⟩⟩
  · rintro σ H1 ⟨y1, y2, rfl, s⟩
    have s1 : Same H H1 := Same.trans (same_new nl) s
    refine ⟨.ref a, rfl, a, _, rfl, .inl (s1.seq ha), fun m nm => ⟨_, rfl, szl (n := 5) (by decide), fun p np => ?_⟩⟩
    exact q p m _ ((s1.trans (same_new nm)).trans (same_new np)) (s1.free ((same_new nm).free np)) (s1.free nm) ⟨0, 0, 0, y1, upd_same, by decide, xs, same_new np _ _ upd_same⟩
def spSpread : Sp := fun vs H Q _ => ∃ c : Int, vs = [.int c] ∧ ∀ r : Int, Q (.int r) H
theorem ok_spread (F : Fun K "_law_spread" "_law_spread" s_law_spread f fd) (B : Bt mg) : FnOk P w K mg base CX0 1 f fd ["_law_cell"] spSpread := by
  refine F.ok sc_law_spread (fun vs H Q E h => ?_) (fun cdv A outer s H vs Q E hr h => ?_)
  · obtain ⟨_, rfl, _⟩ := h
    rfl
  obtain ⟨c, rfl, q⟩ := h
  refine ⟨_, (pss_cons (ps_set (i := 1) sc_law_spread.nd rfl (Or.inl rfl) (pe_op op_mod (pe_callTy (call_int1) (by rfl) B.int_ boot_int' (pa_cons (pv 0) pa_nil)) pe_int))
      (pss_cons (ps_set (i := 2) sc_law_spread.nd rfl (Or.inl rfl) pe_int)
      (pss_cons (ps_for PassesOwn.never rfl (pi_range1 rfl B.range_ (pa_cons pe_int pa_nil)) (pg_name (i := 3) sc_law_spread.nd rfl (Or.inl rfl)) (pss_cons (ps_set (i := 1) sc_law_spread.nd rfl (Or.inl rfl) (pe_op op_mod (pe_callTy (call_int1) (by rfl) B.int_ boot_int' (pa_cons (pe_op op_add (pe_op op_add (pe_op op_mul (pv 1) pe_int) pe_int) (pv 3)) pa_nil)) pe_int))
      (pss_one (ps_set (i := 2) sc_law_spread.nd rfl (Or.inl rfl) (pe_op op_add (pe_op op_mul (pv 2) pe_int) (pv 1))))))
      (pss_one (ps_ret (pv 2)))))), ?_⟩
  refine ⟨.int c, rfl, .inl ⟨c, rfl, c, 2147483647, rfl, rfl, (show (0 : Int) < 2147483647 by decide), ?_⟩⟩
  refine ⟨4, rfl, by decide, by decide, for_range (fun k σ H1 => ∃ y1 y2 y3, σ = [some (.int c), some (.int y1), some (.int y2), y3] ∧ H1 = H) ⟨_, _, none, rfl, rfl⟩ ?_ ?_⟩
  · rintro k σ H1 hk ⟨y1, y2, y3, rfl, rfl⟩
    refine ⟨_, rfl, y1, 48271, rfl, rfl, .inr ⟨by decide, by decide⟩, _, 12345, rfl, rfl, _, rfl, _, _, rfl, rfl, .inl ⟨_, rfl, _, 2147483647, rfl, rfl, (show (0 : Int) < 2147483647 by decide), ?_⟩⟩
    exact ⟨_, rfl, y2, 2147483647, rfl, rfl, .inr ⟨by decide, by decide⟩, _, rfl, _, _, rfl, rfl, _, _, _, rfl, rfl⟩
  · rintro σ H1 ⟨y1, y2, y3, rfl, rfl⟩
    exact ⟨_, rfl, q _⟩
def spDraw : Sp := fun vs H Q _ => ∃ (p l : Addr) (many : Int), vs = [.ref p, .int many] ∧ PoolAt H p l ∧ 0 < many ∧ many < 1073741824 ∧ ∀ (v : Int) H', But [p] H H' → PoolAt H' p l → 0 ≤ v → v < many → Q (.int v) H'
theorem ok_draw (F : Fun K "_law_draw" "_law_draw" s_law_draw f fd) (B : Bt mg) (D__law_spread : Ok P w K mg base "_law_spread" 1 ["_law_cell"] spSpread) : FnOk P w K mg base CX0 2 f fd ["_law_pool_here", "_law_many"] spDraw := by
  refine F.ok sc_law_draw (fun vs H Q E h => ?_) (fun cdv A outer s H vs Q E hr h => ?_)
  · obtain ⟨_, _, _, rfl, _⟩ := h
    rfl
  obtain ⟨p, l, many, rfl, ⟨i, n, c, s, hp, hi0, xs, hl⟩, hm0, hm1, q⟩ := h
  refine ⟨_, (pss_cons (ps_if (PW.pt (pw_and (pt_cmpR op_le (wIxL K (pv 0) pe_int) pe_int (nomark _)) (pw_and1 (pt_cmpR op_lt (wIxL K (pv 0) pe_int) (pe_callB (cLen K) (by rfl) B.len_ PySem.boot_len (pa_cons (wIxL K (pv 0) pe_int) pa_nil)) (nomark _))))) (pss_cons (ps_set (i := 2) sc_law_draw.nd rfl (Or.inl rfl) (wIxL K (wIxL K (pv 0) pe_int) (wIxL K (pv 0) pe_int)))
      (pss_cons (ps_asg (pe_op op_add (wIxL K (pv 0) pe_int) pe_int) (pg_sub (pv 0) pe_int set_list))
      (pss_cons (ps_asg (pv 2) (pg_sub (pv 0) pe_int set_list))
      (pss_one (ps_if (pt_cmpR op_lt (pv 2) pe_int (nomark _)) (pss_one (ps_asg (wCall D__law_spread (hr.mono (by first | decide | omega)) (pa_cons (pv 2) pa_nil)) (pg_sub (pv 0) pe_int set_list))) pss_nil))))) pss_nil)
      (pss_cons (ps_asg (pe_op op_add (wIxL K (pv 0) pe_int) pe_int) (pg_sub (pv 0) pe_int set_list))
      (pss_cons (ps_if (pt_cmpR op_le (wIxL K (pv 0) pe_int) pe_int (nomark _)) (pss_cons (ps_set (i := 3) sc_law_draw.nd rfl (Or.inl rfl) (pe_op op_mod (pe_callTy (call_int1) (by rfl) B.int_ boot_int' (pa_cons (pe_op op_add (pe_op op_add (pe_op op_mul (wIxL K (pv 0) pe_int) pe_int) (pe_op op_mul (wIxL K (pv 0) pe_int) pe_int)) pe_int) pa_nil)) pe_int))
      (pss_cons (ps_set (i := 3) sc_law_draw.nd rfl (Or.inl rfl) (pe_op op_mod (pe_callTy (call_int1) (by rfl) B.int_ boot_int' (pa_cons (pe_op op_add (pe_op op_mul (pv 3) pe_int) (wIxL K (pv 0) pe_int)) pa_nil)) pe_int))
      (pss_one (ps_ret (pe_op op_mod (pe_op op_fdiv (pv 3) pe_int) (pv 1)))))) pss_nil)
      (pss_cons (ps_set (i := 4) sc_law_draw.nd rfl (Or.inl rfl) (pe_op op_mod (pe_callTy (call_int1) (by rfl) B.int_ boot_int' (pa_cons (wIxL K (pv 0) pe_int) pa_nil)) (pv 1)))
      (pss_cons (ps_asg (pe_op op_fdiv (wIxL K (pv 0) pe_int) (pv 1)) (pg_sub (pv 0) pe_int set_list))
      (pss_one (ps_ret (pv 4)))))))), ?_⟩
  have nlp := PoolAt.ne0 hp hl
  refine ⟨.ref p, rfl, p, _, 2, .int n, rfl, rfl, SqL.of hp, atI_nat (j := 2) rfl, n, 0, rfl, rfl, _, rfl, ite2 (fun _ => ?_) (fun _ => ?_)⟩
  rotate_left
  · have b2 := But.refl [p] H
    have hpos := hi0
    have hp2 := hp
    have hl2 := hl
    refine ite2 (fun h => by cases h) (fun _ => ?_)
    refine ⟨.ref p, rfl, p, _, 3, _, rfl, rfl, SqL.of hp2, atI_nat (j := 3) rfl, c, 1, rfl, rfl, .ref p, rfl, p, _, 3, 3, rfl, rfl, hp2, rfl, ?_⟩
    have b3 : But [p] H (upd H p (.lst [.ref l, .int i, .int n, .int (c + 1), .int s])) := b2.trans (But.mut (by simp))
    have hp3 : (upd H p (.lst [.ref l, .int i, .int n, .int (c + 1), .int s])) p = some (.lst [.ref l, .int i, .int n, .int (c + 1), .int s]) := upd_same
    have hl3 : (upd H p (.lst [.ref l, .int i, .int n, .int (c + 1), .int s])) l = some (.lst (xs.map V.int)) := by rw [upd_ne nlp]; exact hl2
    have ex : ∀ H3 : Hp, H3 = upd H p (.lst ([V.ref l, .int i, .int n, .int c, .int s].set 3 (.int (c + 1)))) → H3 = upd H p (.lst [.ref l, .int i, .int n, .int (c + 1), .int s]) := fun _ e => e
    refine ⟨.ref p, rfl, p, _, 2, .int n, rfl, rfl, SqL.of hp3, atI_nat (j := 2) rfl, n, 0, rfl, rfl, _, rfl, ite2 (fun _ => ?_) (fun _ => ?_)⟩
    · refine ⟨.ref p, rfl, p, _, 4, .int s, rfl, rfl, SqL.of hp3, atI_nat (j := 4) rfl, s, 48271, rfl, rfl, .inr ⟨by decide, by decide⟩, .ref p, rfl, p, _, 3, .int (c + 1), rfl, rfl, SqL.of hp3, atI_nat (j := 3) rfl, c + 1, 69621, rfl, rfl, .inr ⟨by decide, by decide⟩, _, _, rfl, rfl, _, 1, rfl, rfl, .inl ⟨_, rfl, _, 2147483647, rfl, rfl, (show (0 : Int) < 2147483647 by decide), ?_⟩⟩
      refine ⟨_, rfl, _, 16807, rfl, rfl, .inr ⟨by decide, by decide⟩, .ref p, rfl, p, _, 3, .int (c + 1), rfl, rfl, SqL.of hp3, atI_nat (j := 3) rfl, _, _, rfl, rfl, .inl ⟨_, rfl, _, 2147483629, rfl, rfl, (show (0 : Int) < 2147483629 by decide), ?_⟩⟩
      refine ⟨_, rfl, _, 5, rfl, rfl, ⟨by decide, by decide⟩, .int many, rfl, _, many, rfl, rfl, hm0, ?_⟩
      exact q _ _ b3 ⟨i, n, c + 1, s, hp3, hpos, xs, hl3⟩ (Int.emod_nonneg _ (by omega)) (Int.emod_lt_of_pos _ hm0)
    · refine ⟨.ref p, rfl, p, _, 2, .int n, rfl, rfl, SqL.of hp3, atI_nat (j := 2) rfl, .inl ⟨n, rfl, .int many, rfl, n, many, rfl, rfl, hm0, ?_⟩⟩
      refine ⟨.ref p, rfl, p, _, 2, .int n, rfl, rfl, SqL.of hp3, atI_nat (j := 2) rfl, .int many, rfl, n, many, rfl, rfl, ⟨hm0, hm1⟩, .ref p, rfl, p, _, 2, 2, rfl, rfl, hp3, rfl, ?_⟩
      refine ⟨_, rfl, q _ _ (b3.trans (But.mut (by simp))) ⟨i, n / many, c + 1, s, upd_same, hpos, xs, ?_⟩ (Int.emod_nonneg _ (by omega)) (Int.emod_lt_of_pos _ hm0)⟩
      rw [upd_ne nlp]
      exact hl3
  refine ⟨.ref p, rfl, p, _, 1, .int i, rfl, rfl, SqL.of hp, atI_nat (j := 1) rfl, .ref p, rfl, p, _, 0, .ref l, rfl, rfl, SqL.of hp, atI_nat (j := 0) rfl, l, _, rfl, .inl (SqL.of hl), i, _, rfl, rfl, _, rfl, ite2 (fun hlt => ?_) (fun _ => ?_)⟩
  rotate_left
  · have b2 := But.refl [p] H
    have hpos := hi0
    have hp2 := hp
    have hl2 := hl
    refine ⟨.ref p, rfl, p, _, 3, _, rfl, rfl, SqL.of hp2, atI_nat (j := 3) rfl, c, 1, rfl, rfl, .ref p, rfl, p, _, 3, 3, rfl, rfl, hp2, rfl, ?_⟩
    have b3 : But [p] H (upd H p (.lst [.ref l, .int i, .int n, .int (c + 1), .int s])) := b2.trans (But.mut (by simp))
    have hp3 : (upd H p (.lst [.ref l, .int i, .int n, .int (c + 1), .int s])) p = some (.lst [.ref l, .int i, .int n, .int (c + 1), .int s]) := upd_same
    have hl3 : (upd H p (.lst [.ref l, .int i, .int n, .int (c + 1), .int s])) l = some (.lst (xs.map V.int)) := by rw [upd_ne nlp]; exact hl2
    have ex : ∀ H3 : Hp, H3 = upd H p (.lst ([V.ref l, .int i, .int n, .int c, .int s].set 3 (.int (c + 1)))) → H3 = upd H p (.lst [.ref l, .int i, .int n, .int (c + 1), .int s]) := fun _ e => e
    refine ⟨.ref p, rfl, p, _, 2, .int n, rfl, rfl, SqL.of hp3, atI_nat (j := 2) rfl, n, 0, rfl, rfl, _, rfl, ite2 (fun _ => ?_) (fun _ => ?_)⟩
    · refine ⟨.ref p, rfl, p, _, 4, .int s, rfl, rfl, SqL.of hp3, atI_nat (j := 4) rfl, s, 48271, rfl, rfl, .inr ⟨by decide, by decide⟩, .ref p, rfl, p, _, 3, .int (c + 1), rfl, rfl, SqL.of hp3, atI_nat (j := 3) rfl, c + 1, 69621, rfl, rfl, .inr ⟨by decide, by decide⟩, _, _, rfl, rfl, _, 1, rfl, rfl, .inl ⟨_, rfl, _, 2147483647, rfl, rfl, (show (0 : Int) < 2147483647 by decide), ?_⟩⟩
      refine ⟨_, rfl, _, 16807, rfl, rfl, .inr ⟨by decide, by decide⟩, .ref p, rfl, p, _, 3, .int (c + 1), rfl, rfl, SqL.of hp3, atI_nat (j := 3) rfl, _, _, rfl, rfl, .inl ⟨_, rfl, _, 2147483629, rfl, rfl, (show (0 : Int) < 2147483629 by decide), ?_⟩⟩
      refine ⟨_, rfl, _, 5, rfl, rfl, ⟨by decide, by decide⟩, .int many, rfl, _, many, rfl, rfl, hm0, ?_⟩
      exact q _ _ b3 ⟨i, n, c + 1, s, hp3, hpos, xs, hl3⟩ (Int.emod_nonneg _ (by omega)) (Int.emod_lt_of_pos _ hm0)
    · refine ⟨.ref p, rfl, p, _, 2, .int n, rfl, rfl, SqL.of hp3, atI_nat (j := 2) rfl, .inl ⟨n, rfl, .int many, rfl, n, many, rfl, rfl, hm0, ?_⟩⟩
      refine ⟨.ref p, rfl, p, _, 2, .int n, rfl, rfl, SqL.of hp3, atI_nat (j := 2) rfl, .int many, rfl, n, many, rfl, rfl, ⟨hm0, hm1⟩, .ref p, rfl, p, _, 2, 2, rfl, rfl, hp3, rfl, ?_⟩
      refine ⟨_, rfl, q _ _ (b3.trans (But.mut (by simp))) ⟨i, n / many, c + 1, s, upd_same, hpos, xs, ?_⟩ (Int.emod_nonneg _ (by omega)) (Int.emod_lt_of_pos _ hm0)⟩
      rw [upd_ne nlp]
      exact hl3
  have hlt' : i < ((xs.map V.int).length : Int) := of_decide_eq_true hlt
  rw [List.length_map] at hlt'
  obtain ⟨cell, ecell⟩ : ∃ cell, xs[i.toNat]? = some cell := ⟨_, List.getElem?_eq_getElem (by omega)⟩
  refine ⟨.ref p, rfl, p, _, 0, .ref l, rfl, rfl, SqL.of hp, atI_nat (j := 0) rfl, .ref p, rfl, p, _, 1, .int i, rfl, rfl, SqL.of hp, atI_nat (j := 1) rfl, l, _, i, .int cell, rfl, rfl, SqL.of hl, (by rw [show i = ((i.toNat : Nat) : Int) by omega]; exact atI_map ecell), ?_⟩
  refine ⟨.ref p, rfl, p, _, 1, .int i, rfl, rfl, SqL.of hp, atI_nat (j := 1) rfl, i, 1, rfl, rfl, .ref p, rfl, p, _, 1, 1, rfl, rfl, hp, rfl, ?_⟩
  have hpa : (upd H p (.lst ([V.ref l, .int i, .int n, .int c, .int s].set 1 (.int (i + 1))))) p = some (.lst [.ref l, .int (i + 1), .int n, .int c, .int s]) := upd_same
  refine ⟨.int cell, rfl, .ref p, rfl, p, _, 2, 2, rfl, rfl, hpa, rfl, ?_⟩
  rw [upd_upd]
  have hpb : (upd H p (.lst ([V.ref l, .int (i + 1), .int n, .int c, .int s].set 2 (.int cell)))) p = some (.lst [.ref l, .int (i + 1), .int cell, .int c, .int s]) := upd_same
  have hlb : (upd H p (.lst ([V.ref l, .int (i + 1), .int n, .int c, .int s].set 2 (.int cell)))) l = some (.lst (xs.map V.int)) := by rw [upd_ne nlp]; exact hl
  have bb : But [p] H (upd H p (.lst ([V.ref l, .int (i + 1), .int n, .int c, .int s].set 2 (.int cell)))) := But.mut (by simp)
  generalize upd H p (.lst ([V.ref l, .int (i + 1), .int n, .int c, .int s].set 2 (.int cell))) = H2 at hpb hlb bb ⊢
  have hpos : 0 ≤ i + 1 := by omega
  refine ⟨.int cell, rfl, cell, 1000000000000000000, rfl, rfl, _, rfl, ite2 (fun _ => ?_) (fun _ => ?_)⟩
  rotate_left
  · have b2 := bb
    have hp2 := hpb
    have hl2 := hlb
    refine ⟨.ref p, rfl, p, _, 3, _, rfl, rfl, SqL.of hp2, atI_nat (j := 3) rfl, c, 1, rfl, rfl, .ref p, rfl, p, _, 3, 3, rfl, rfl, hp2, rfl, ?_⟩
    have b3 : But [p] H (upd H2 p (.lst [.ref l, .int (i + 1), .int cell, .int (c + 1), .int s])) := b2.trans (But.mut (by simp))
    have hp3 : (upd H2 p (.lst [.ref l, .int (i + 1), .int cell, .int (c + 1), .int s])) p = some (.lst [.ref l, .int (i + 1), .int cell, .int (c + 1), .int s]) := upd_same
    have hl3 : (upd H2 p (.lst [.ref l, .int (i + 1), .int cell, .int (c + 1), .int s])) l = some (.lst (xs.map V.int)) := by rw [upd_ne nlp]; exact hl2
    have ex : ∀ H3 : Hp, H3 = upd H2 p (.lst ([V.ref l, .int (i + 1), .int cell, .int c, .int s].set 3 (.int (c + 1)))) → H3 = upd H2 p (.lst [.ref l, .int (i + 1), .int cell, .int (c + 1), .int s]) := fun _ e => e
    refine ⟨.ref p, rfl, p, _, 2, .int cell, rfl, rfl, SqL.of hp3, atI_nat (j := 2) rfl, cell, 0, rfl, rfl, _, rfl, ite2 (fun _ => ?_) (fun _ => ?_)⟩
    · refine ⟨.ref p, rfl, p, _, 4, .int s, rfl, rfl, SqL.of hp3, atI_nat (j := 4) rfl, s, 48271, rfl, rfl, .inr ⟨by decide, by decide⟩, .ref p, rfl, p, _, 3, .int (c + 1), rfl, rfl, SqL.of hp3, atI_nat (j := 3) rfl, c + 1, 69621, rfl, rfl, .inr ⟨by decide, by decide⟩, _, _, rfl, rfl, _, 1, rfl, rfl, .inl ⟨_, rfl, _, 2147483647, rfl, rfl, (show (0 : Int) < 2147483647 by decide), ?_⟩⟩
      refine ⟨_, rfl, _, 16807, rfl, rfl, .inr ⟨by decide, by decide⟩, .ref p, rfl, p, _, 3, .int (c + 1), rfl, rfl, SqL.of hp3, atI_nat (j := 3) rfl, _, _, rfl, rfl, .inl ⟨_, rfl, _, 2147483629, rfl, rfl, (show (0 : Int) < 2147483629 by decide), ?_⟩⟩
      refine ⟨_, rfl, _, 5, rfl, rfl, ⟨by decide, by decide⟩, .int many, rfl, _, many, rfl, rfl, hm0, ?_⟩
      exact q _ _ b3 ⟨(i + 1), cell, c + 1, s, hp3, hpos, xs, hl3⟩ (Int.emod_nonneg _ (by omega)) (Int.emod_lt_of_pos _ hm0)
    · refine ⟨.ref p, rfl, p, _, 2, .int cell, rfl, rfl, SqL.of hp3, atI_nat (j := 2) rfl, .inl ⟨cell, rfl, .int many, rfl, cell, many, rfl, rfl, hm0, ?_⟩⟩
      refine ⟨.ref p, rfl, p, _, 2, .int cell, rfl, rfl, SqL.of hp3, atI_nat (j := 2) rfl, .int many, rfl, cell, many, rfl, rfl, ⟨hm0, hm1⟩, .ref p, rfl, p, _, 2, 2, rfl, rfl, hp3, rfl, ?_⟩
      refine ⟨_, rfl, q _ _ (b3.trans (But.mut (by simp))) ⟨(i + 1), cell / many, c + 1, s, upd_same, hpos, xs, ?_⟩ (Int.emod_nonneg _ (by omega)) (Int.emod_lt_of_pos _ hm0)⟩
      rw [upd_ne nlp]
      exact hl3
  refine ⟨.int cell, rfl, cell, rfl, fun r => ⟨.ref p, rfl, p, _, 2, 2, rfl, rfl, hpb, rfl, ?_⟩⟩
  have hp2 : (upd H2 p (.lst ([V.ref l, .int (i + 1), .int cell, .int c, .int s].set 2 (.int r)))) p = some (.lst [.ref l, .int (i + 1), .int r, .int c, .int s]) := upd_same
  have hl2 : (upd H2 p (.lst ([V.ref l, .int (i + 1), .int cell, .int c, .int s].set 2 (.int r)))) l = some (.lst (xs.map V.int)) := by rw [upd_ne nlp]; exact hlb
  have b2 : But [p] H (upd H2 p (.lst ([V.ref l, .int (i + 1), .int cell, .int c, .int s].set 2 (.int r)))) := bb.trans (But.mut (by simp))
  generalize upd H2 p (.lst ([V.ref l, .int (i + 1), .int cell, .int c, .int s].set 2 (.int r))) = H2 at hp2 hl2 b2 ⊢
  refine ⟨.ref p, rfl, p, _, 3, _, rfl, rfl, SqL.of hp2, atI_nat (j := 3) rfl, c, 1, rfl, rfl, .ref p, rfl, p, _, 3, 3, rfl, rfl, hp2, rfl, ?_⟩
  have b3 : But [p] H (upd H2 p (.lst [.ref l, .int (i + 1), .int r, .int (c + 1), .int s])) := b2.trans (But.mut (by simp))
  have hp3 : (upd H2 p (.lst [.ref l, .int (i + 1), .int r, .int (c + 1), .int s])) p = some (.lst [.ref l, .int (i + 1), .int r, .int (c + 1), .int s]) := upd_same
  have hl3 : (upd H2 p (.lst [.ref l, .int (i + 1), .int r, .int (c + 1), .int s])) l = some (.lst (xs.map V.int)) := by rw [upd_ne nlp]; exact hl2
  have ex : ∀ H3 : Hp, H3 = upd H2 p (.lst ([V.ref l, .int (i + 1), .int r, .int c, .int s].set 3 (.int (c + 1)))) → H3 = upd H2 p (.lst [.ref l, .int (i + 1), .int r, .int (c + 1), .int s]) := fun _ e => e
  refine ⟨.ref p, rfl, p, _, 2, .int r, rfl, rfl, SqL.of hp3, atI_nat (j := 2) rfl, r, 0, rfl, rfl, _, rfl, ite2 (fun _ => ?_) (fun _ => ?_)⟩
  · refine ⟨.ref p, rfl, p, _, 4, .int s, rfl, rfl, SqL.of hp3, atI_nat (j := 4) rfl, s, 48271, rfl, rfl, .inr ⟨by decide, by decide⟩, .ref p, rfl, p, _, 3, .int (c + 1), rfl, rfl, SqL.of hp3, atI_nat (j := 3) rfl, c + 1, 69621, rfl, rfl, .inr ⟨by decide, by decide⟩, _, _, rfl, rfl, _, 1, rfl, rfl, .inl ⟨_, rfl, _, 2147483647, rfl, rfl, (show (0 : Int) < 2147483647 by decide), ?_⟩⟩
    refine ⟨_, rfl, _, 16807, rfl, rfl, .inr ⟨by decide, by decide⟩, .ref p, rfl, p, _, 3, .int (c + 1), rfl, rfl, SqL.of hp3, atI_nat (j := 3) rfl, _, _, rfl, rfl, .inl ⟨_, rfl, _, 2147483629, rfl, rfl, (show (0 : Int) < 2147483629 by decide), ?_⟩⟩
    refine ⟨_, rfl, _, 5, rfl, rfl, ⟨by decide, by decide⟩, .int many, rfl, _, many, rfl, rfl, hm0, ?_⟩
    exact q _ _ b3 ⟨(i + 1), r, c + 1, s, hp3, hpos, xs, hl3⟩ (Int.emod_nonneg _ (by omega)) (Int.emod_lt_of_pos _ hm0)
  · refine ⟨.ref p, rfl, p, _, 2, .int r, rfl, rfl, SqL.of hp3, atI_nat (j := 2) rfl, .inl ⟨r, rfl, .int many, rfl, r, many, rfl, rfl, hm0, ?_⟩⟩
    refine ⟨.ref p, rfl, p, _, 2, .int r, rfl, rfl, SqL.of hp3, atI_nat (j := 2) rfl, .int many, rfl, r, many, rfl, rfl, ⟨hm0, hm1⟩, .ref p, rfl, p, _, 2, 2, rfl, rfl, hp3, rfl, ?_⟩
    refine ⟨_, rfl, q _ _ (b3.trans (But.mut (by simp))) ⟨(i + 1), r / many, c + 1, s, upd_same, hpos, xs, ?_⟩ (Int.emod_nonneg _ (by omega)) (Int.emod_lt_of_pos _ hm0)⟩
    rw [upd_ne nlp]
    exact hl3
def spInside : Sp := fun vs H Q _ => ∃ (a : Addr) (x : Win) (t : Int), vs = [.ref a, .int t] ∧ WinAt H a x ∧ Q (.bl (inW x t)) H
theorem ok_inside (F : Fun K "_law_inside" "_law_inside" s_law_inside f fd) (B : Bt mg) : FnOk P w K mg base CX0 1 f fd ["_law_window_here", "_law_time"] spInside := by
  refine F.ok sc_law_inside (fun vs H Q E h => ?_) (fun cdv A outer s H vs Q E hr h => ?_)
  · obtain ⟨_, _, _, rfl, _⟩ := h
    rfl
  obtain ⟨a, ⟨sx, ux⟩, t, rfl, ha, q⟩ := h
  refine ⟨_, (pss_one (ps_ret (pe_and (pe_or (pe_cmp (pc_isN (wIxT K (pv 0) pe_int)) rfl) (pe_one (pe_cmpR op_le (wIxT K (pv 0) pe_int) (pv 1) (nomark _)))) (pe_one (pe_or (pe_cmp (pc_isN (wIxT K (pv 0) pe_int)) rfl) (pe_one (pe_cmpR op_lt (pv 1) (wIxT K (pv 0) pe_int) (nomark _)))))))), ?_⟩
  have isn : ∀ i : Int, ¬ decide (V.int i = V.non) = true := fun i h => nomatch of_decide_eq_true h
  have is0 : decide (V.non = V.non) = true := decide_eq_true rfl
  have sa := SqT.of (K := K) ha
  cases sx with
  | none =>
    refine ⟨.ref a, rfl, a, _, 0, .non, rfl, rfl, sa, atI_nat (j := 0) rfl, _, rfl, ite2 (fun _ => ⟨true, rfl, ?_⟩) (fun h => absurd is0 h)⟩
    cases ux with
    | none => exact ⟨.ref a, rfl, a, _, 1, .non, rfl, rfl, sa, atI_nat (j := 1) rfl, _, rfl, ite2 (fun _ => q) (fun h => absurd is0 h)⟩
    | some u => exact ⟨.ref a, rfl, a, _, 1, .int u, rfl, rfl, sa, atI_nat (j := 1) rfl, _, rfl, ite2 (fun h => absurd h (isn u)) (fun _ => ⟨.int t, rfl, .ref a, rfl, a, _, 1, .int u, rfl, rfl, sa, atI_nat (j := 1) rfl, t, u, rfl, rfl, q⟩)⟩
  | some s =>
    refine ⟨.ref a, rfl, a, _, 0, .int s, rfl, rfl, sa, atI_nat (j := 0) rfl, _, rfl, ite2 (fun h => absurd h (isn s)) (fun _ => ⟨.ref a, rfl, a, _, 0, .int s, rfl, rfl, sa, atI_nat (j := 0) rfl, .int t, rfl, s, t, rfl, rfl, _, rfl, ite2 (fun h => ?_) (fun h => ?_)⟩)⟩
    · cases ux with
      | none =>
        have e : inW (some s, none) t = true := by
          show (decide (s ≤ t) && true) = true
          rw [show decide (s ≤ t) = true from h]; rfl
        rw [e] at q
        exact ⟨.ref a, rfl, a, _, 1, .non, rfl, rfl, sa, atI_nat (j := 1) rfl, _, rfl, ite2 (fun _ => q) (fun h => absurd is0 h)⟩
      | some u =>
        have e : inW (some s, some u) t = decide (t < u) := by
          show (decide (s ≤ t) && decide (t < u)) = _
          rw [show decide (s ≤ t) = true from h]; rfl
        rw [e] at q
        exact ⟨.ref a, rfl, a, _, 1, .int u, rfl, rfl, sa, atI_nat (j := 1) rfl, _, rfl, ite2 (fun h => absurd h (isn u)) (fun _ => ⟨.int t, rfl, .ref a, rfl, a, _, 1, .int u, rfl, rfl, sa, atI_nat (j := 1) rfl, t, u, rfl, rfl, q⟩)⟩
    · have e : inW (some s, ux) t = false := by
        have h' : decide (s ≤ t) = false := Bool.eq_false_iff.mpr h
        show (decide (s ≤ t) && _) = false
        rw [h']; rfl
      rw [e] at q
      exact q
end
end L2.Sg

/-! the law's names, spans, times, vectors, windows -/
namespace L2.Sg
open PySem PySem.Spec PyProof.Rows L2.Lx
abbrev s_law_names : Stmt := topS 38
theorem sc_law_names : FnScope ["_law_pool_here", "_law_many", "_law_names_here", "_law_k", "_law_letter"] ["_law_pool_here", "_law_many"] (defScope s_law_names) := ⟨rfl, rfl, rfl, by decide +kernel, rfl, by decide +kernel, by decide +kernel⟩
abbrev s_law_span : Stmt := topS 39
theorem sc_law_span : FnScope ["_law_pool_here", "_law_low"] ["_law_pool_here"] (defScope s_law_span) := ⟨rfl, rfl, rfl, by decide +kernel, rfl, by decide +kernel, by decide +kernel⟩
abbrev s_law_times : Stmt := topS 41
theorem sc_law_times : FnScope ["_law_pool_here", "_law_width", "_law_low", "_law_hold", "_law_first", "_law_last"] ["_law_pool_here"] (defScope s_law_times) := ⟨rfl, rfl, rfl, by decide +kernel, rfl, by decide +kernel, by decide +kernel⟩
abbrev s_law_vector : Stmt := topS 47
theorem sc_law_vector : FnScope ["_law_pool_here", "_law_many", "_law_k"] ["_law_pool_here", "_law_many"] (defScope s_law_vector) := ⟨rfl, rfl, rfl, by decide +kernel, rfl, by decide +kernel, by decide +kernel⟩
abbrev s_law_window : Stmt := topS 49
theorem sc_law_window : FnScope ["_law_pool_here", "_law_since", "_law_until", "_law_low", "_law_high"] ["_law_pool_here", "_law_since", "_law_until"] (defScope s_law_window) := ⟨rfl, rfl, rfl, by decide +kernel, rfl, by decide +kernel, by decide +kernel⟩

def lettersS : Str := "abcdefghijklmnopqrstuvwxyz"
def midsS : List Str := ["", "_", "x", "9q"]
def sufS : List Str := ["", "b"]
def decN (s : Str) : List Nat :=
  let r := s.cps.toList.reverse
  let r := if r.head? = some 98 then r.tail else r
  r.takeWhile fun c => decide (48 ≤ c) && decide (c ≤ 57)
def digs (k : Nat) : List Nat := ((toString (0 + (k : Int)) : String) : Str).cps.toList.reverse
theorem digs_inj : ∀ i, i < 11 → ∀ j, j < 11 → digs i = digs j → i = j := by decide +kernel
theorem nm_dec : ∀ c ∈ lettersS.cps.toList, ∀ m ∈ midsS, ∀ k : Nat, k < 11 → ∀ s ∈ sufS, decN ((⟨#[c]⟩ : Str) ++ m ++ ((toString (0 + (k : Int)) : String) : Str) ++ s) = digs k := by decide +kernel
theorem nm_len : (∀ m ∈ midsS, m.length ≤ 2) ∧ (∀ s ∈ sufS, s.length ≤ 1) ∧ ∀ k : Nat, k < 11 → ((toString (0 + (k : Int)) : String) : Str).length ≤ 2 ∧ (0 + (k : Int)).natAbs.log2 < 1920 := by decide +kernel
theorem str_len (a b : Str) : (a ++ b).length = a.length + b.length := by
  show (a.cps ++ b.cps).size = _
  rw [Array.size_append]
  rfl
theorem atI_mem {α : Type} {xs : List α} {v : Int} (h0 : 0 ≤ v) (h1 : v < (xs.length : Int)) : ∃ x, atI xs v = some x ∧ x ∈ xs := by
  have hz : v.toNat < xs.length := by omega
  refine ⟨xs[v.toNat], ?_, List.getElem_mem hz⟩
  have e : ((v.toNat : Nat) : Int) = v := by omega
  have r := atI_nat (xs := xs) (List.getElem?_eq_getElem hz)
  rw [e] at r
  exact r
/-- consts in a row -/
def lTA : List V → TA
  | [] => tNil
  | v :: r => tCons (tC v) (lTA r)
theorem lTA_ok : ∀ {vs : List V} {σ : St} {H : Hp} {Q : List V → Hp → Prop}, Q vs H → lTA vs σ H Q
  | [], _, _, _, q => q
  | v :: r, _, _, _, q => lTA_ok (vs := r) q
theorem PoolAt.but {H H' : Hp} {p l a : Addr} {o : HO} (b : But [p] H H') (h : H a = some o) (n : a ≠ p) : H' a = some o := b _ _ h fun z => n (List.mem_singleton.mp z)
/-- (consts)[_law_draw(pool, n)] -/
theorem pickD {K : PySem.W.Frag} (vs : List V) {i : Nat} {n : Int} {p l : Addr} {σ : St} {H : Hp} {Q : VK} (hs : σ[i]? = some (some (.ref p))) (hp : PoolAt H p l) (hn : (vs.length : Int) = n) (h0 : 0 < n) (h1 : n ≤ 100)
    (q : ∀ x H', x ∈ vs → But [p] H H' → PoolAt H' p l → Q x H') : tOp (rIxT K) (tTup (lTA vs)) (tCall spDraw [] E0 (tCons (tVar i) (tCons (tC (.int n)) tNil))) σ H Q := by
  refine lTA_ok ⟨szl (by omega), fun T nT => ?_⟩
  obtain ⟨n1, n2⟩ := hp.new nT
  refine ⟨_, hs, p, l, n, rfl, hp.upd n1 n2, h0, by omega, fun v H' b pl v0 v1 => ?_⟩
  obtain ⟨x, ex, hx⟩ := atI_mem (xs := vs) v0 (by omega)
  exact ⟨T, vs, v, x, rfl, rfl, SqT.of (PoolAt.but (l := l) b upd_same n1), ex, q x H' hx ((But.new nT).trans b) pl⟩
theorem pickI {K : PySem.W.Frag} (ns : List Int) {i : Nat} {n : Int} {p l : Addr} {σ : St} {H : Hp} {Q : VK} (hs : σ[i]? = some (some (.ref p))) (hp : PoolAt H p l) (hn : (ns.length : Int) = n) (h0 : 0 < n) (h1 : n ≤ 100)
    (q : ∀ x H', x ∈ ns → But [p] H H' → PoolAt H' p l → Q (.int x) H') : tOp (rIxT K) (tTup (lTA (ns.map V.int))) (tCall spDraw [] E0 (tCons (tVar i) (tCons (tC (.int n)) tNil))) σ H Q :=
  pickD (ns.map V.int) hs hp (by rw [List.length_map]; exact hn) h0 h1 fun x H' hx b pl => by
    obtain ⟨k, hk, rfl⟩ := List.mem_map.mp hx
    exact q k H' hk b pl
theorem pickS {K : PySem.W.Frag} (ns : List Str) {i : Nat} {n : Int} {p l : Addr} {σ : St} {H : Hp} {Q : VK} (hs : σ[i]? = some (some (.ref p))) (hp : PoolAt H p l) (hn : (ns.length : Int) = n) (h0 : 0 < n) (h1 : n ≤ 100)
    (q : ∀ x H', x ∈ ns → But [p] H H' → PoolAt H' p l → Q (.str x) H') : tOp (rIxT K) (tTup (lTA (ns.map V.str))) (tCall spDraw [] E0 (tCons (tVar i) (tCons (tC (.int n)) tNil))) σ H Q :=
  pickD (ns.map V.str) hs hp (by rw [List.length_map]; exact hn) h0 h1 fun x H' hx b pl => by
    obtain ⟨k, hk, rfl⟩ := List.mem_map.mp hx
    exact q k H' hk b pl
section
variable {P : Program} {w : World} {K : PySem.W.Frag} {mg : Str → Option Value} {base : Heap} {f : Addr} {fd : FuncData}
def spNames : Sp := fun vs H Q _ => ∃ (p l : Addr) (many : Int), vs = [.ref p, .int many] ∧ PoolAt H p l ∧ 0 ≤ many ∧ many ≤ 11 ∧ ∀ a H' (ns : List Str), But [p] H H' → PoolAt H' p l → H a = none → H' a = some (.lst (ns.map V.str)) → ns.length = many.toNat → ns.Nodup → Q (.ref a) H'
theorem ok_names (F : Fun K "_law_names" "_law_names" s_law_names f fd) (B : Bt mg) (D__law_draw : Ok P w K mg base "_law_draw" 2 ["_law_pool_here", "_law_many"] spDraw) : FnOk P w K mg base CX0 3 f fd ["_law_pool_here", "_law_many"] spNames := by
  refine F.ok sc_law_names (fun vs H Q E h => ?_) (fun cdv A outer s H vs Q E hr h => ?_)
  · obtain ⟨_, _, _, rfl, _⟩ := h
    rfl
  obtain ⟨p, l, many, rfl, hp, m0, m1, q⟩ := h
  refine ⟨_, (pss_cons (ps_set (i := 2) sc_law_names.nd rfl (Or.inl rfl) (pe_lst pa_nil))
      (pss_cons (ps_for PassesOwn.never rfl (pi_range1 rfl B.range_ (pa_cons (pv 1) pa_nil)) (pg_name (i := 3) sc_law_names.nd rfl (Or.inl rfl)) (pss_cons (ps_set (i := 4) sc_law_names.nd rfl (Or.inl rfl) (wIxS pe_str (wCall D__law_draw (hr.mono (by first | decide | omega)) (pa_cons (pv 0) (pa_cons pe_int pa_nil)))))
      (pss_one (ps_expr (pe_bm PySem.F.plainAttrs_list PySem.F.slot_list_append PySem.F.type_list_append mt_append (pv 2) (pa_cons (pe_op op_add_str (pe_op op_add_str (pe_op op_add_str (pv 4) (wIxT K (pe_tup (pa_cons pe_str (pa_cons pe_str (pa_cons pe_str (pa_cons pe_str pa_nil))))) (wCall D__law_draw (hr.mono (by first | decide | omega)) (pa_cons (pv 0) (pa_cons pe_int pa_nil))))) (pe_callTy (call_str_int) (by rfl) B.str_ boot_str' (pa_cons (pv 3) pa_nil))) (wIxT K (pe_tup (pa_cons pe_str (pa_cons pe_str pa_nil))) (wCall D__law_draw (hr.mono (by first | decide | omega)) (pa_cons (pv 0) (pa_cons pe_int pa_nil))))) pa_nil))))))
      (pss_one (ps_ret (pv 2))))), ?_⟩
  refine ⟨Nat.zero_le _, fun a na => ?_⟩
  obtain ⟨n1, n2⟩ := hp.new na
  refine ⟨.int many, rfl, many, rfl, by omega, by omega, for_range (fun k σ H1 => ∃ y3 y4 ns, σ = [some (.ref p), some (.int many), some (.ref a), y3, y4] ∧ But [p] H H1 ∧ PoolAt H1 p l ∧ H1 a = some (.lst (ns.map V.str)) ∧ ns.length = k ∧ ∀ (j : Nat) x, ns[j]? = some x → decN x = digs j)
    ⟨none, none, [], rfl, But.new na, hp.upd n1 n2, upd_same, rfl, fun j x h => by simp at h⟩ ?_ ?_⟩
  · rintro k σ H1 hk ⟨y3, y4, ns, rfl, b1, hp1, ha1, hl, hd⟩
    have hk11 : k < 11 := by omega
    refine ⟨.ref p, rfl, p, l, 26, rfl, hp1, by decide, by decide, fun v H2 b2 hp2 v0 v1 => ?_⟩
    obtain ⟨c, ec, hc⟩ := atI_mem (xs := lettersS.cps.toList) v0 (by rw [show lettersS.cps.toList.length = 26 by decide +kernel]; exact v1)
    refine ⟨lettersS, v, c, rfl, rfl, szl (n := 26) (by decide), ec, ?_⟩
    have ha2 := PoolAt.but (l := l) b2 ha1 n1
    refine ⟨.ref a, rfl, .inl ⟨rfl, _, SqL.of ha2⟩, _, rfl, pickS midsS rfl hp2 rfl (by decide) (by decide) fun mid H3 hmid b3 hp3 => ?_⟩
    have lmid := nm_len.1 mid hmid
    refine ⟨_, _, rfl, rfl, szl (n := 1 + mid.length) (by omega), ?_⟩
    obtain ⟨ld, lg⟩ := nm_len.2.2 k hk11
    refine ⟨_, rfl, _, rfl, lg, _, _, rfl, rfl, szl (n := _ + _) (by rw [str_len]; show 1 + mid.length + _ ≤ _; omega), pickS sufS rfl hp3 rfl (by decide) (by decide) fun suf H4 hsuf b4 hp4 => ?_⟩
    have lsuf := nm_len.2.1 suf hsuf
    refine ⟨_, _, rfl, rfl, szl (n := _ + _) (by rw [str_len, str_len]; show 1 + mid.length + _ + _ ≤ _; omega), ?_⟩
    have ha4 := PoolAt.but (l := l) b4 (PoolAt.but (l := l) b3 ha2 n1) n1
    refine ⟨a, _, _, rfl, rfl, ha4, ?_, ?_⟩
    · rw [List.length_map]; exact szlt (by omega)
    refine ⟨_, _, ns ++ [(⟨#[c]⟩ : Str) ++ mid ++ ((toString (0 + (k : Int)) : String) : Str) ++ suf], rfl, (((b1.trans b2).trans b3).trans b4).mutN na, hp4.upd n1 n2, ?_, by rw [List.length_append, hl]; rfl, fun j x hx => ?_⟩
    · rw [upd_same, List.map_append]; rfl
    · by_cases hj : j < ns.length
      · rw [List.getElem?_append_left hj] at hx
        exact hd j x hx
      · rw [List.getElem?_append_right (by omega)] at hx
        have hz : j - ns.length = 0 := by
          have := (List.getElem?_eq_some_iff.mp hx).1
          simp at this
          omega
        rw [hz] at hx
        have hx' := Option.some.inj hx
        rw [← hx', nm_dec c hc mid hmid k hk11 suf hsuf]
        congr 1
        omega
  · rintro σ H1 ⟨y3, y4, ns, rfl, b1, hp1, ha1, hl, hd⟩
    refine ⟨_, rfl, q a H1 ns b1 hp1 na ha1 hl ?_⟩
    rw [List.Nodup, List.pairwise_iff_getElem]
    intro i j hi hj hij e
    have h1 := hd i _ (List.getElem?_eq_getElem hi)
    have h2 := hd j _ (List.getElem?_eq_getElem hj)
    rw [e, h2] at h1
    have := digs_inj j (by omega) i (by omega) h1
    omega
def spSpan : Sp := fun vs H Q _ => ∃ (p l : Addr), vs = [.ref p] ∧ PoolAt H p l ∧ ∀ a H' (sp : Int × Int), But [p] H H' → PoolAt H' p l → SpanAt H' a sp → 0 ≤ sp.1 → sp.1 + 2 ≤ sp.2 → sp.2 ≤ 10 → Q (.ref a) H'
theorem ok_span (F : Fun K "_law_span" "_law_span" s_law_span f fd) (B : Bt mg) (D__law_draw : Ok P w K mg base "_law_draw" 2 ["_law_pool_here", "_law_many"] spDraw) : FnOk P w K mg base CX0 3 f fd ["_law_pool_here"] spSpan := by
  refine F.ok sc_law_span (fun vs H Q E h => ?_) (fun cdv A outer s H vs Q E hr h => ?_)
  · obtain ⟨_, _, rfl, _⟩ := h
    rfl
  obtain ⟨p, l, rfl, hp, q⟩ := h
  refine ⟨_, (pss_cons (ps_set (i := 1) sc_law_span.nd rfl (Or.inl rfl) (wIxT K (pe_tup (pa_cons pe_int (pa_cons pe_int (pa_cons pe_int (pa_cons pe_int (pa_cons pe_int (pa_cons pe_int pa_nil))))))) (wCall D__law_draw (hr.mono (by first | decide | omega)) (pa_cons (pv 0) (pa_cons pe_int pa_nil)))))
      (pss_one (ps_ret (pe_tup (pa_cons (pv 1) (pa_cons (pe_op op_add (pe_op op_add (pv 1) pe_int) (wIxT K (pe_tup (pa_cons pe_int (pa_cons pe_int (pa_cons pe_int (pa_cons pe_int pa_nil))))) (wCall D__law_draw (hr.mono (by first | decide | omega)) (pa_cons (pv 0) (pa_cons pe_int pa_nil))))) pa_nil)))))), ?_⟩
  refine pickI [0, 1, 2, 3, 5, 1] rfl hp rfl (by decide) (by decide) fun lo H1 hlo b1 hp1 => ?_
  refine ⟨_, rfl, _, rfl, lo, 2, rfl, rfl, pickI [0, 0, 1, 3] rfl hp1 rfl (by decide) (by decide) fun d H2 hd b2 hp2 => ?_⟩
  refine ⟨_, _, rfl, rfl, szl (n := 2) (by decide), fun a na => ?_⟩
  obtain ⟨n1, n2⟩ := hp2.new na
  have h1 : 0 ≤ lo ∧ lo ≤ 5 := by simp at hlo; omega
  have h2 : 0 ≤ d ∧ d ≤ 3 := by simp at hd; omega
  exact q a _ (lo, lo + 2 + d) ((b1.trans b2).trans (But.new na)) (hp2.upd n1 n2) upd_same h1.1 (by show lo + 2 ≤ lo + 2 + d; omega) (by show lo + 2 + d ≤ 10; omega)
def spTimes : Sp := fun vs H Q _ => ∃ (p l : Addr), vs = [.ref p] ∧ PoolAt H p l ∧ ∀ a H' x0 x1 x2 x3, But [p] H H' → PoolAt H' p l → H' a = some (.tup [x0, x1, x2, x3]) → Q (.ref a) H'
theorem ok_times (F : Fun K "_law_times" "_law_times" s_law_times f fd) (B : Bt mg) (D__law_draw : Ok P w K mg base "_law_draw" 2 ["_law_pool_here", "_law_many"] spDraw) : FnOk P w K mg base CX0 3 f fd ["_law_pool_here"] spTimes := by
  refine F.ok sc_law_times (fun vs H Q E h => ?_) (fun cdv A outer s H vs Q E hr h => ?_)
  · obtain ⟨_, _, rfl, _⟩ := h
    rfl
  obtain ⟨p, l, rfl, hp, q⟩ := h
  refine ⟨_, (pss_cons (ps_set (i := 1) sc_law_times.nd rfl (Or.inl rfl) (wIxT K (pe_tup (pa_cons pe_int (pa_cons pe_int (pa_cons pe_int (pa_cons pe_int pa_nil))))) (wCall D__law_draw (hr.mono (by first | decide | omega)) (pa_cons (pv 0) (pa_cons pe_int pa_nil)))))
      (pss_cons (ps_set (i := 2) sc_law_times.nd rfl (Or.inl rfl) (wCall D__law_draw (hr.mono (by first | decide | omega)) (pa_cons (pv 0) (pa_cons pe_int pa_nil))))
      (pss_cons (ps_set (i := 3) sc_law_times.nd rfl (Or.inl rfl) (wIxT K (pe_tup (pa_cons pe_int (pa_cons pe_int (pa_cons pe_int (pa_cons pe_int pa_nil))))) (wCall D__law_draw (hr.mono (by first | decide | omega)) (pa_cons (pv 0) (pa_cons pe_int pa_nil)))))
      (pss_cons (ps_set (i := 4) sc_law_times.nd rfl (Or.inl rfl) (pe_op op_add (pe_op op_add (pv 1) (pv 3)) (wIxT K (pe_tup (pa_cons pe_int (pa_cons pe_int (pa_cons pe_int (pa_cons pe_int pa_nil))))) (wCall D__law_draw (hr.mono (by first | decide | omega)) (pa_cons (pv 0) (pa_cons pe_int pa_nil))))))
      (pss_cons (ps_set (i := 5) sc_law_times.nd rfl (Or.inl rfl) (pe_op op_add (pe_callB (call_max2 rfl) (by rfl) B.max_ boot_max' (pa_cons (pv 4) (pa_cons (pe_op op_add (pv 3) pe_int) pa_nil))) (wCall D__law_draw (hr.mono (by first | decide | omega)) (pa_cons (pv 0) (pa_cons pe_int pa_nil)))))
      (pss_one (ps_ret (pe_tup (pa_cons (pe_tup (pa_cons (pv 2) (pa_cons (pe_op op_add (pv 2) (pv 1)) pa_nil))) (pa_cons (pe_tup (pa_cons (pv 4) (pa_cons (pv 5) pa_nil))) (pa_cons (wCall D__law_draw (hr.mono (by first | decide | omega)) (pa_cons (pv 0) (pa_cons pe_int pa_nil))) (pa_cons (pv 3) pa_nil)))))))))))), ?_⟩
  refine pickI [0, 0, 1, 2] rfl hp rfl (by decide) (by decide) fun wd H1 _ b1 hp1 => ?_
  refine ⟨_, rfl, p, l, 3, rfl, hp1, by decide, by decide, fun lo H2 b2 hp2 _ _ => ?_⟩
  refine pickI [0, 0, 1, 2] rfl hp2 rfl (by decide) (by decide) fun ho H3 _ b3 hp3 => ?_
  refine ⟨_, rfl, _, rfl, wd, ho, rfl, rfl, pickI [1, 1, 2, 0] rfl hp3 rfl (by decide) (by decide) fun fi H4 _ b4 hp4 => ⟨_, _, rfl, rfl, ?_⟩⟩
  refine ⟨_, rfl, _, rfl, ho, 1, rfl, rfl, _, _, rfl, _, rfl, p, l, 3, rfl, hp4, by decide, by decide, fun la H5 b5 hp5 _ _ => ⟨_, _, rfl, rfl, ?_⟩⟩
  refine ⟨_, rfl, _, rfl, _, rfl, lo, wd, rfl, rfl, szl (n := 2) (by decide), fun t1 nt1 => ?_⟩
  refine ⟨_, rfl, _, rfl, szl (n := 2) (by decide), fun t2 nt2 => ?_⟩
  obtain ⟨m1, m2⟩ := hp5.new nt1
  have hp6 := hp5.upd (o := .tup [.int lo, .int (lo + wd)]) m1 m2
  obtain ⟨m3, m4⟩ := hp6.new nt2
  refine ⟨_, rfl, p, l, 3, rfl, hp6.upd m3 m4, by decide, by decide, fun d H6 b6 hp7 _ _ => ⟨_, rfl, szl (n := 4) (by decide), fun a na => ?_⟩⟩
  obtain ⟨m5, m6⟩ := hp7.new na
  exact q a _ _ _ _ _ ((((((b1.trans b2).trans b3).trans b4).trans b5).trans (((But.new nt1).trans (But.new nt2)).trans b6)).trans (But.new na)) (hp7.upd m5 m6) upd_same
def spVector : Sp := fun vs H Q _ => ∃ (p l : Addr) (many : Int), vs = [.ref p, .int many] ∧ PoolAt H p l ∧ 0 ≤ many ∧ many ≤ 100 ∧ ∀ a H' (vec : List Bool), But [p] H H' → PoolAt H' p l → H' a = some (.tup (vec.map V.bl)) → vec.length = many.toNat → Q (.ref a) H'
theorem ok_vector (F : Fun K "_law_vector" "_law_vector" s_law_vector f fd) (B : Bt mg) (D__law_draw : Ok P w K mg base "_law_draw" 2 ["_law_pool_here", "_law_many"] spDraw) : FnOk P w K mg base CX0 3 f fd ["_law_pool_here", "_law_many"] spVector := by
  refine F.ok sc_law_vector (fun vs H Q E h => ?_) (fun cdv A outer s H vs Q E hr h => ?_)
  · obtain ⟨_, _, _, rfl, _⟩ := h
    rfl
  obtain ⟨p, l, many, rfl, hp, m0, m1, q⟩ := h
  refine ⟨_, (pss_one (ps_ret (pe_callTy (cTuple K) (by rfl) B.tuple_ boot_tuple' (pa_cons (pe_lc (own := [("_law_k", 2)]) (g := (gName 2)) (tt := tYes) rfl sc_law_vector.nd (pi_range1 rfl B.range_ (pa_cons (pv 1) pa_nil)) (blkOk_by (N := ["_law_pool_here", "_law_many", "_law_k"]) (sc := defScope s_law_vector) (by decide +kernel)) (fun _ _ _ _ _ => (pg_name (i := 2) sc_law_vector.nd rfl (Or.inl rfl))) (fun _ _ _ _ _ => pts_nil) (fun _ _ _ _ _ => (pe_cmpR op_eq (wCall D__law_draw (hr.mono (by first | decide | omega)) (pa_cons (pv 0) (pa_cons pe_int pa_nil))) pe_int (nomark _)))) pa_nil)))), ?_⟩
  refine ⟨.int many, rfl, many, rfl, by omega, by omega, fun D nD => ?_⟩
  obtain ⟨n1, n2⟩ := hp.new nD
  refine lc_it walk_range (fun k H1 => ∃ vec : List Bool, But [p] H H1 ∧ PoolAt H1 p l ∧ H1 D = some (.lst (vec.map V.bl)) ∧ vec.length = k) ⟨[], But.new nD, hp.upd n1 n2, upd_same, rfl⟩ (fun _ _ _ _ => True.intro) ?_ ?_
  · rintro k x H1 H2 hk ⟨vec, b1, hp1, hD, hl⟩ ⟨rfl, rfl⟩
    refine ⟨rfl, _, rfl, p, l, 2, rfl, hp1, by decide, by decide, fun v H3 b3 hp3 _ _ => ⟨rfl, ?_⟩⟩
    have hD3 := PoolAt.but (l := l) b3 hD n1
    refine ⟨_, hD3, ?_, vec ++ [decide (V.int v = V.int 1)], (b1.trans b3).mutN nD, hp3.upd n1 n2, ?_, ?_⟩
    · rw [List.length_map]; exact szlt (by omega)
    · rw [upd_same, List.map_append]; rfl
    · rw [List.length_append, hl]; rfl
  · rintro H1 ⟨vec, b1, hp1, hD, hl⟩
    refine ⟨D, _, rfl, .inl ⟨SqL.of hD, fun a na => ?_⟩⟩
    obtain ⟨m1, m2⟩ := hp1.new na
    exact q a _ vec (b1.trans (But.new na)) (hp1.upd m1 m2) upd_same hl
def spWindow : Sp := fun vs H Q _ => ∃ (p l : Addr) (x y : Int), vs = [.ref p, .int x, .int y] ∧ PoolAt H p l ∧ ∀ a H' (wn : Win), But [p] H H' → PoolAt H' p l → WinAt H' a wn → (∀ s, wn.1 = some s → -3 ≤ s) → (∀ u, wn.2 = some u → u ≤ 28) → Q (.ref a) H'
theorem ok_window (F : Fun K "_law_window" "_law_window" s_law_window f fd) (B : Bt mg) (D__law_draw : Ok P w K mg base "_law_draw" 2 ["_law_pool_here", "_law_many"] spDraw) : FnOk P w K mg base CX0 3 f fd ["_law_pool_here", "_law_since", "_law_until"] spWindow := by
  refine F.ok sc_law_window (fun vs H Q E h => ?_) (fun cdv A outer s H vs Q E hr h => ?_)
  · obtain ⟨_, _, _, _, rfl, _⟩ := h
    rfl
  obtain ⟨p, l, x, y, rfl, hp, q⟩ := h
  refine ⟨_, (pss_cons (ps_set (i := 3) sc_law_window.nd rfl (Or.inl rfl) (pe_op op_sub (wCall D__law_draw (hr.mono (by first | decide | omega)) (pa_cons (pv 0) (pa_cons pe_int pa_nil))) pe_int))
      (pss_cons (ps_set (i := 4) sc_law_window.nd rfl (Or.inl rfl) (pe_op op_add (pv 3) (wCall D__law_draw (hr.mono (by first | decide | omega)) (pa_cons (pv 0) (pa_cons pe_int pa_nil)))))
      (pss_one (ps_ret (pe_tup (pa_cons (pe_ifExp (pt_cmpR op_eq (pv 1) pe_int (nomark _)) pe_non (pv 3)) (pa_cons (pe_ifExp (pt_cmpR op_eq (pv 2) pe_int (nomark _)) pe_non (pv 4)) pa_nil))))))), ?_⟩
  refine ⟨_, rfl, p, l, 9, rfl, hp, by decide, by decide, fun lo H1 b1 hp1 l0 l1 => ⟨lo, 3, rfl, rfl, ?_⟩⟩
  refine ⟨_, rfl, _, rfl, p, l, 24, rfl, hp1, by decide, by decide, fun d H2 b2 hp2 d0 d1 => ⟨_, _, rfl, rfl, ?_⟩⟩
  have fin : ∀ (wn : Win), (∀ s, wn.1 = some s → -3 ≤ s) → (∀ u, wn.2 = some u → u ≤ 28) → ([wV wn.1, wV wn.2].length ≤ sizeLine ∧ ∀ a, H2 a = none → Q (.ref a) (upd H2 a (.tup [wV wn.1, wV wn.2]))) := fun wn h1 h2 => ⟨szl (n := 2) (by decide), fun a na => by
    obtain ⟨m1, m2⟩ := hp2.new na
    exact q a _ wn ((b1.trans b2).trans (But.new na)) (hp2.upd m1 m2) upd_same h1 h2⟩
  refine ⟨_, rfl, rfl, _, rfl, ite2 (fun _ => ?_) (fun _ => ⟨_, rfl, ?_⟩)⟩
  · refine ⟨_, rfl, rfl, _, rfl, ite2 (fun _ => ?_) (fun _ => ⟨_, rfl, ?_⟩)⟩
    · exact fin (none, none) (fun s h => by cases h) (fun s h => by cases h)
    · exact fin (none, some (lo - 3 + d)) (fun s h => by cases h) (fun s h => by injection h with h; omega)
  · refine ⟨_, rfl, rfl, _, rfl, ite2 (fun _ => ?_) (fun _ => ⟨_, rfl, ?_⟩)⟩
    · exact fin (some (lo - 3), none) (fun s h => by injection h with h; omega) (fun s h => by cases h)
    · exact fin (some (lo - 3), some (lo - 3 + d)) (fun s h => by injection h with h; omega) (fun s h => by injection h with h; omega)
end
end L2.Sg

/-! the law's gates -/
namespace L2.Sg
open PySem PySem.Spec PyProof.Rows L2.Lx
abbrev s_law_gate : Stmt := topS 40
theorem sc_law_gate : FnScope ["_law_pool_here", "_law_name", "_law_nets_here", "_law_pins", "_law_chosen", "_law_code", "_law_table", "_law_k"] ["_law_pool_here", "_law_name", "_law_nets_here"] (defScope s_law_gate) := ⟨rfl, rfl, rfl, by decide +kernel, rfl, by decide +kernel, by decide +kernel⟩

def GShape (g : Gate) : Prop := g.spans.length = g.nets.length ∧ g.tab.length = 2 ^ g.nets.length ∧ g.nets.length ≤ 3 ∧ ∀ sp ∈ g.spans, 0 ≤ sp.1 ∧ sp.1 + 2 ≤ sp.2 ∧ sp.2 ≤ 10
theorem sh : ∀ np : Nat, np ≤ 3 → (0 : Int) < 1 * 2 ^ ((1 : Int) * 2 ^ ((np : Nat) : Int).toNat).toNat ∧ (1 : Int) * 2 ^ ((1 : Int) * 2 ^ ((np : Nat) : Int).toNat).toNat < 1073741824 ∧ ((0 : Int) ≤ 1 * 2 ^ ((np : Nat) : Int).toNat ∧ (1 : Int) * 2 ^ ((np : Nat) : Int).toNat ≤ 1000000) ∧
    (-(2 ^ 62) : Int) ≤ 1 * 2 ^ ((np : Nat) : Int).toNat ∧ (1 : Int) * 2 ^ ((np : Nat) : Int).toNat < 2 ^ 62 ∧ ((1 : Int) * 2 ^ ((np : Nat) : Int).toNat).toNat = 2 ^ np := by
  intro np h
  have : np = 0 ∨ np = 1 ∨ np = 2 ∨ np = 3 := by omega
  rcases this with rfl | rfl | rfl | rfl <;> decide
theorem But.free {p l : Addr} {H H1 : Hp} (b : But [p] H H1) (pl : PoolAt H1 p l) {x : Addr} (e : H1 x = none) : H x = none := by
  cases h : H x with
  | none => rfl
  | some o =>
    by_cases z : x = p
    · obtain ⟨_, _, _, _, z1, _⟩ := pl
      rw [z, z1] at e
      cases e
    · rw [b _ _ h fun y => z (List.mem_singleton.mp y)] at e
      cases e
theorem hE_tup {H : Hp} {p : Addr} {xs : List V} {o : HO} (e : H p = some (.lst xs)) : TupK H (upd H p o) := lst_tupK e
section
variable {P : Program} {w : World} {K : PySem.W.Frag} {mg : Str → Option Value} {base : Heap} {f : Addr} {fd : FuncData}
def spGate : Sp := fun vs H Q _ => ∃ (p l nl : Addr) (name : Str) (nets : List Str), vs = [.ref p, .str name, .ref nl] ∧ PoolAt H p l ∧ H nl = some (.lst (nets.map V.str)) ∧ nets.length ≤ 100 ∧
  ∀ a H' g, But [p] H H' → PoolAt H' p l → GateAt H' a g → g.name = name → (∀ n ∈ g.nets, n ∈ nets) → GShape g → Q (.ref a) H'
theorem ok_gate (F : Fun K "_law_gate" "_law_gate" s_law_gate f fd) (B : Bt mg) (D__law_draw : Ok P w K mg base "_law_draw" 2 ["_law_pool_here", "_law_many"] spDraw) (D__law_span : Ok P w K mg base "_law_span" 3 ["_law_pool_here"] spSpan) : FnOk P w K mg base CX0 4 f fd ["_law_pool_here", "_law_name", "_law_nets_here"] spGate := by
  refine F.ok sc_law_gate (fun vs H Q E h => ?_) (fun cdv A outer s H vs Q E hr h => ?_)
  · obtain ⟨_, _, _, _, _, rfl, _⟩ := h
    rfl
  obtain ⟨p, l, nl, name, nets, rfl, hp, hnl, hlen, q⟩ := h
  refine ⟨_, (pss_cons (ps_set (i := 3) sc_law_gate.nd rfl (Or.inl rfl) (pe_ifExp (pt_cmpR op_gt (pe_callB (cLen K) (by rfl) B.len_ PySem.boot_len (pa_cons (pv 2) pa_nil)) pe_int (nomark _)) (wIxT K (pe_tup (pa_cons pe_int (pa_cons pe_int (pa_cons pe_int (pa_cons pe_int (pa_cons pe_int (pa_cons pe_int (pa_cons pe_int (pa_cons pe_int pa_nil))))))))) (wCall D__law_draw (hr.mono (by first | decide | omega)) (pa_cons (pv 0) (pa_cons pe_int pa_nil)))) pe_int))
      (pss_cons (ps_set (i := 4) sc_law_gate.nd rfl (Or.inl rfl) (pe_callTy (cTuple K) (by rfl) B.tuple_ boot_tuple' (pa_cons (pe_lc (own := [("_law_k", 7)]) (g := (gName 7)) (tt := tYes) rfl sc_law_gate.nd (pi_range1 rfl B.range_ (pa_cons (pv 3) pa_nil)) (blkOk_by (N := ["_law_pool_here", "_law_name", "_law_nets_here", "_law_pins", "_law_chosen", "_law_code", "_law_table", "_law_k"]) (sc := defScope s_law_gate) (by decide +kernel)) (fun _ _ _ _ _ => (pg_name (i := 7) sc_law_gate.nd rfl (Or.inl rfl))) (fun _ _ _ _ _ => pts_nil) (fun _ _ _ _ _ => (wIxL K (pv 2) (wCall D__law_draw (hr.mono (by first | decide | omega)) (pa_cons (pv 0) (pa_cons (pe_callB (cLen K) (by rfl) B.len_ PySem.boot_len (pa_cons (pv 2) pa_nil)) pa_nil)))))) pa_nil)))
      (pss_cons (ps_set (i := 5) sc_law_gate.nd rfl (Or.inr rfl) (wCall D__law_draw (hr.mono (by first | decide | omega)) (pa_cons (pv 0) (pa_cons (pe_op op_shl pe_int (pe_op op_shl pe_int (pv 3))) pa_nil))))
      (pss_cons (ps_if (PW.pt (pw_and (pt_cmpR op_eq (pv 3) pe_int (nomark _)) (pw_and1 (pt_cmpR op_eq (wCall D__law_draw (hr.mono (by first | decide | omega)) (pa_cons (pv 0) (pa_cons pe_int pa_nil))) pe_int (nomark _))))) (pss_one (ps_set (i := 5) sc_law_gate.nd rfl (Or.inr rfl) (wIxT K (pe_tup (pa_cons pe_int (pa_cons pe_int (pa_cons pe_int (pa_cons pe_int (pa_cons pe_int (pa_cons pe_int pa_nil))))))) (wCall D__law_draw (hr.mono (by first | decide | omega)) (pa_cons (pv 0) (pa_cons pe_int pa_nil)))))) pss_nil)
      (pss_cons (ps_set (i := 6) sc_law_gate.nd rfl (Or.inl rfl) (pe_callTy (cTuple K) (by rfl) B.tuple_ boot_tuple' (pa_cons (pe_lc (own := [("_law_k", 7)]) (g := (gName 7)) (tt := tYes) rfl sc_law_gate.nd (pi_range1 rfl B.range_ (pa_cons (pe_op op_shl pe_int (pv 3)) pa_nil)) (blkOk_by (N := ["_law_pool_here", "_law_name", "_law_nets_here", "_law_pins", "_law_chosen", "_law_code", "_law_table", "_law_k"]) (sc := defScope s_law_gate) (by decide +kernel)) (fun _ _ _ _ _ => (pg_name (i := 7) sc_law_gate.nd rfl (Or.inl rfl))) (fun _ _ _ _ _ => pts_nil) (fun _ _ _ _ _ => (pe_cmpR op_eq (pe_op op_and (pe_op op_shr (pv 5) (pv 7)) pe_int) pe_int (nomark _)))) pa_nil)))
      (pss_one (ps_ret (pe_tup (pa_cons (pv 1) (pa_cons (pv 6) (pa_cons (pv 4) (pa_cons (pe_callTy (cTuple K) (by rfl) B.tuple_ boot_tuple' (pa_cons (pe_lc (own := [("_law_k", 7)]) (g := (gName 7)) (tt := tYes) rfl sc_law_gate.nd (pi_range1 rfl B.range_ (pa_cons (pv 3) pa_nil)) (blkOk_by (N := ["_law_pool_here", "_law_name", "_law_nets_here", "_law_pins", "_law_chosen", "_law_code", "_law_table", "_law_k"]) (sc := defScope s_law_gate) (by decide +kernel)) (fun _ _ _ _ _ => (pg_name (i := 7) sc_law_gate.nd rfl (Or.inl rfl))) (fun _ _ _ _ _ => pts_nil) (fun _ _ _ _ _ => (wCall D__law_span (hr.mono (by first | decide | omega)) (pa_cons (pv 0) pa_nil)))) pa_nil)) pa_nil)))))))))))), ?_⟩
  have nlp : nl ≠ p := fun z => by
    obtain ⟨_, _, _, _, z1, _⟩ := hp
    rw [z, z1] at hnl
    injection hnl with hnl
    injection hnl with hnl
    cases nets with
    | nil => cases hnl
    | cons a r => injection hnl with h1 _; cases h1
  refine ⟨.ref nl, rfl, nl, _, rfl, .inl (SqL.of hnl), _, 0, rfl, rfl, _, rfl, ?_⟩
  -- the pins: at most 3, none without nets
  have key : ∀ {R : V → Hp → Prop}, (∀ (np : Nat) H1, np ≤ 3 → (0 < np → 0 < nets.length) → But [p] H H1 → PoolAt H1 p l → R (.int np) H1) → (∀ x H1, x ∈ [(0 : Int), 1, 1, 2, 2, 2, 2, 3] → 0 < nets.length → But [p] H H1 → PoolAt H1 p l → R (.int x) H1) ∧ R (.int 0) H := fun {R} h =>
    ⟨fun x H1 hx hn b pl => by
      have hx' : 0 ≤ x ∧ x ≤ 3 := by simp at hx; omega
      have e : x = ((x.toNat : Nat) : Int) := by omega
      rw [e]
      exact h x.toNat H1 (by omega) (fun _ => hn) b pl, h 0 H (by omega) (fun z => absurd z (by omega)) (But.refl _ _) hp⟩
  refine ite2 (fun h0 => pickI [0, 1, 1, 2, 2, 2, 2, 3] rfl hp rfl (by decide) (by decide) fun x H1 hx b1 hp1 => ?_) (fun _ => ?_)
  · have hn : 0 < nets.length := by
      have := of_decide_eq_true h0
      rw [List.length_map] at this
      omega
    have hx' : 0 ≤ x ∧ x ≤ 3 := by simp at hx; omega
    obtain ⟨np, rfl⟩ : ∃ np : Nat, x = np := ⟨x.toNat, by omega⟩
    have hnp : np ≤ 3 := by omega
    have hpos : 0 < np → 0 < nets.length := fun _ => hn
    clear hx hx' h0 key
    refine ⟨.int np, rfl, np, rfl, by omega, by omega, fun C0 nC => ?_⟩
    obtain ⟨c1, c2⟩ := hp1.new nC
    rw [show ((np : Nat) : Int).toNat = np from Int.toNat_natCast np]
    refine lc_it walk_range (fun k H2 => ∃ chosen : List Str, But [p] H H2 ∧ PoolAt H2 p l ∧ H2 C0 = some (.lst (chosen.map V.str)) ∧ chosen.length = k ∧ ∀ n ∈ chosen, n ∈ nets) ⟨[], b1.trans (But.new nC), hp1.upd c1 c2, upd_same, rfl, fun n h => (nomatch h)⟩ (fun _ _ _ _ => True.intro) ?_ ?_
    · rintro k x H2 H3 hk ⟨chosen, b2, pl2, hC, hl, hin⟩ ⟨rfl, rfl⟩
      have hnl2 := PoolAt.but (l := l) b2 hnl nlp
      have hn := hpos (by omega)
      refine ⟨rfl, .ref nl, rfl, .ref p, rfl, .ref nl, rfl, nl, _, rfl, .inl (SqL.of hnl2), p, l, _, rfl, pl2, (by rw [List.length_map]; omega), (by rw [List.length_map]; omega), fun v H4 b4 pl4 v0 v1 => ?_⟩
      obtain ⟨n, en, hn1⟩ := atI_mem (xs := nets.map V.str) v0 v1
      obtain ⟨m, hm, rfl⟩ := List.mem_map.mp hn1
      refine ⟨nl, _, v, .str m, rfl, rfl, SqL.of (PoolAt.but (l := l) b4 hnl2 nlp), en, ?_⟩
      have hC4 := PoolAt.but (l := l) b4 hC c1
      have nCH : H C0 = none := b1.free hp1 nC
      refine ⟨_, hC4, ?_, chosen ++ [m], (b2.trans b4).mutN nCH, pl4.upd c1 c2, ?_, ?_, ?_⟩
      · rw [List.length_map]; exact szlt (by omega)
      · rw [upd_same, List.map_append]; rfl
      · rw [List.length_append, hl]; rfl
      · intro y hy
        rcases List.mem_append.mp hy with z | z
        · exact hin y z
        · rw [List.mem_singleton.mp z]; exact hm
    rintro H2 ⟨chosen, b2, pl2, hC, hcl, hin⟩
    refine ⟨C0, _, rfl, .inl ⟨SqL.of hC, fun cht nch => ?_⟩⟩
    obtain ⟨k1, k2⟩ := pl2.new nch
    have b3 := b2.trans (But.new (o := .tup (chosen.map V.str)) nch)
    have pl3 := pl2.upd (o := .tup (chosen.map V.str)) k1 k2
    have hch := upd_same (H := H2) (a := cht) (o := .tup (chosen.map V.str))
    generalize upd H2 cht (.tup (chosen.map V.str)) = H3 at b3 pl3 hch ⊢
    refine ⟨.ref p, rfl, .int np, rfl, 1, np, rfl, rfl, ⟨by omega, by omega, by decide⟩, 1, _, rfl, rfl, ⟨(sh np hnp).2.2.1.1, (sh np hnp).2.2.1.2, by decide⟩, p, l, _, rfl, pl3, (sh np hnp).1, (sh np hnp).2.1, fun code H4 b4 pl4 _ _ => ?_⟩
    have b5 := b3.trans b4
    have hch4 := PoolAt.but (l := l) b4 hch k1
    refine ⟨.int np, rfl, rfl, _, rfl, ite2 (fun _ => ?_) (fun _ => ite2 (fun h => by cases h) (fun _ => ?_))⟩
    rotate_left
    · have b := b5
      have pl := pl4
      have hch := hch4
      generalize H4 = G at *
      refine ⟨.int np, rfl, 1, np, rfl, rfl, ⟨by omega, by omega, by decide⟩, _, rfl, (sh np hnp).2.2.2.1, (sh np hnp).2.2.2.2.1, fun D nD => ?_⟩
      obtain ⟨d1, d2⟩ := pl.new nD
      rw [(sh np hnp).2.2.2.2.2]
      refine lc_it walk_range (fun k H1 => ∃ tab : List Bool, Same G H1 ∧ H1 D = some (.lst (tab.map V.bl)) ∧ tab.length = k) ⟨[], same_new nD, upd_same, rfl⟩ (fun _ _ _ _ => True.intro) ?_ ?_
      · rintro k x H1 H2 hk ⟨tab, s1, hD, hl⟩ ⟨rfl, rfl⟩
        have hk8 : k ≤ 8 := Nat.le_trans (Nat.le_of_lt hk) (Nat.le_trans (Nat.pow_le_pow_right (by decide) hnp) (by decide))
        refine ⟨rfl, _, rfl, _, rfl, code, _, rfl, rfl, (by omega), _, 1, rfl, rfl, rfl, _, hD, ?_, tab ++ [decide (V.int (Builtin.bitAnd (code / 2 ^ (0 + (k : Int)).toNat) 1) = V.int 1)], s1.mutN nD, ?_, ?_⟩
        · rw [List.length_map]; exact szlt (by omega)
        · rw [upd_same, List.map_append]; rfl
        · rw [List.length_append, hl]; rfl
      rintro G1 ⟨tab, s1, hD, htl⟩
      refine ⟨D, _, rfl, .inl ⟨SqL.of hD, fun t nt => ?_⟩⟩
      have s2 := s1.trans (same_new (o := .tup (tab.map V.bl)) nt)
      have pl2 := pl.keep s2
      have htab : (upd G1 t (.tup (tab.map V.bl))) t = some (.tup (tab.map V.bl)) := upd_same
      have htp : t ≠ p := (pl.keep s1 |>.new nt).1
      generalize upd G1 t (.tup (tab.map V.bl)) = G2 at s2 pl2 htab ⊢
      refine ⟨.str name, rfl, _, rfl, _, rfl, _, rfl, _, rfl, by omega, by omega, fun E nE => ?_⟩
      obtain ⟨e1, e2⟩ := pl2.new nE
      rw [show ((np : Nat) : Int).toNat = np from Int.toNat_natCast np]
      refine lc_it walk_range (fun k H1 => ∃ (sa : List Addr) (spans : List (Int × Int)), But [p] G2 H1 ∧ PoolAt H1 p l ∧ H1 E = some (.lst (sa.map V.ref)) ∧ Paired (SpanAt H1) sa spans ∧ spans.length = k ∧ ∀ sp ∈ spans, 0 ≤ sp.1 ∧ sp.1 + 2 ≤ sp.2 ∧ sp.2 ≤ 10)
        ⟨[], [], But.new nE, pl2.upd e1 e2, upd_same, .nil, rfl, fun sp h => (nomatch h)⟩ (fun _ _ _ _ => True.intro) ?_ ?_
      · rintro k x H1 H2 hk ⟨sa, spans, b1, pl1, hE, hp1, hl, hsp⟩ ⟨rfl, rfl⟩
        refine ⟨rfl, _, rfl, p, l, rfl, pl1, fun a H3 sp b3 pl3 ha q1 q2 q3 => ?_⟩
        have hE3 := PoolAt.but (l := l) b3 hE e1
        have lt3 := hE_tup (o := .lst (sa.map V.ref ++ [.ref a])) hE3
        refine ⟨_, hE3, ?_, sa ++ [a], spans ++ [sp], (b1.trans b3).mutN nE, pl3.upd e1 e2, ?_, ?_, ?_, ?_⟩
        · rw [List.length_map, Paired.length hp1]; exact szlt (by omega)
        · rw [upd_same, List.map_append]; rfl
        · exact Paired.snoc (Paired.mapP hp1 fun b sp' z => lt3 _ _ (b3 _ _ z fun y => by
            obtain ⟨_, _, _, _, z1, _⟩ := pl1
            rw [List.mem_singleton.mp y] at z
            unfold SpanAt at z
            rw [z1] at z
            cases z)) (lt3 _ _ ha)
        · rw [List.length_append, hl]; rfl
        · intro sp' h
          rcases List.mem_append.mp h with z | z
          · exact hsp sp' z
          · rw [List.mem_singleton.mp z]; exact ⟨q1, q2, q3⟩
      rintro G3 ⟨sa, spans, b3, pl3, hE, hp3, hsl, hsp⟩
      refine ⟨E, _, rfl, .inl ⟨SqL.of hE, fun r nr => ⟨szl (n := 4) (by decide), fun a na => ?_⟩⟩⟩
      have s4 := (same_new (o := .tup (sa.map V.ref)) nr).trans (same_new (o := .tup [.str name, .ref t, .ref cht, .ref r]) na)
      have hchp : cht ≠ p := fun z => by
        obtain ⟨_, _, _, _, z1, _⟩ := pl
        rw [z, z1] at hch
        cases hch
      refine q a _ ⟨name, tab, chosen, spans⟩ ((b.trans (Same.but _ s2)).trans (b3.trans (Same.but _ s4))) (pl3.keep s4) ⟨t, cht, r, sa, upd_same, ?_, ?_, ?_, Paired.mapP hp3 fun b' sp' z => s4 _ _ z⟩ rfl hin ?_
      · exact s4 _ _ (PoolAt.but (l := l) b3 htab htp)
      · exact s4 _ _ (PoolAt.but (l := l) b3 (s2 _ _ hch) hchp)
      · exact same_new na _ _ upd_same
      · exact ⟨by show spans.length = chosen.length; omega, by show tab.length = 2 ^ chosen.length; rw [htl, hcl], by show chosen.length ≤ 3; omega, hsp⟩
    refine ⟨.ref p, rfl, p, l, 2, rfl, pl4, by decide, by decide, fun v H5 b6 pl5 _ _ => ⟨rfl, _, rfl, ite2 (fun _ => pickI [8, 14, 6, 2, 7, 1] rfl pl5 rfl (by decide) (by decide) fun code H6 _ b7 pl6 => ?_) (fun _ => ?_)⟩⟩
    rotate_left
    · have b := b5.trans b6
      have pl := pl5
      have hch := PoolAt.but (l := l) b6 hch4 k1
      generalize H5 = G at *
      refine ⟨.int np, rfl, 1, np, rfl, rfl, ⟨by omega, by omega, by decide⟩, _, rfl, (sh np hnp).2.2.2.1, (sh np hnp).2.2.2.2.1, fun D nD => ?_⟩
      obtain ⟨d1, d2⟩ := pl.new nD
      rw [(sh np hnp).2.2.2.2.2]
      refine lc_it walk_range (fun k H1 => ∃ tab : List Bool, Same G H1 ∧ H1 D = some (.lst (tab.map V.bl)) ∧ tab.length = k) ⟨[], same_new nD, upd_same, rfl⟩ (fun _ _ _ _ => True.intro) ?_ ?_
      · rintro k x H1 H2 hk ⟨tab, s1, hD, hl⟩ ⟨rfl, rfl⟩
        have hk8 : k ≤ 8 := Nat.le_trans (Nat.le_of_lt hk) (Nat.le_trans (Nat.pow_le_pow_right (by decide) hnp) (by decide))
        refine ⟨rfl, _, rfl, _, rfl, code, _, rfl, rfl, (by omega), _, 1, rfl, rfl, rfl, _, hD, ?_, tab ++ [decide (V.int (Builtin.bitAnd (code / 2 ^ (0 + (k : Int)).toNat) 1) = V.int 1)], s1.mutN nD, ?_, ?_⟩
        · rw [List.length_map]; exact szlt (by omega)
        · rw [upd_same, List.map_append]; rfl
        · rw [List.length_append, hl]; rfl
      rintro G1 ⟨tab, s1, hD, htl⟩
      refine ⟨D, _, rfl, .inl ⟨SqL.of hD, fun t nt => ?_⟩⟩
      have s2 := s1.trans (same_new (o := .tup (tab.map V.bl)) nt)
      have pl2 := pl.keep s2
      have htab : (upd G1 t (.tup (tab.map V.bl))) t = some (.tup (tab.map V.bl)) := upd_same
      have htp : t ≠ p := (pl.keep s1 |>.new nt).1
      generalize upd G1 t (.tup (tab.map V.bl)) = G2 at s2 pl2 htab ⊢
      refine ⟨.str name, rfl, _, rfl, _, rfl, _, rfl, _, rfl, by omega, by omega, fun E nE => ?_⟩
      obtain ⟨e1, e2⟩ := pl2.new nE
      rw [show ((np : Nat) : Int).toNat = np from Int.toNat_natCast np]
      refine lc_it walk_range (fun k H1 => ∃ (sa : List Addr) (spans : List (Int × Int)), But [p] G2 H1 ∧ PoolAt H1 p l ∧ H1 E = some (.lst (sa.map V.ref)) ∧ Paired (SpanAt H1) sa spans ∧ spans.length = k ∧ ∀ sp ∈ spans, 0 ≤ sp.1 ∧ sp.1 + 2 ≤ sp.2 ∧ sp.2 ≤ 10)
        ⟨[], [], But.new nE, pl2.upd e1 e2, upd_same, .nil, rfl, fun sp h => (nomatch h)⟩ (fun _ _ _ _ => True.intro) ?_ ?_
      · rintro k x H1 H2 hk ⟨sa, spans, b1, pl1, hE, hp1, hl, hsp⟩ ⟨rfl, rfl⟩
        refine ⟨rfl, _, rfl, p, l, rfl, pl1, fun a H3 sp b3 pl3 ha q1 q2 q3 => ?_⟩
        have hE3 := PoolAt.but (l := l) b3 hE e1
        have lt3 := hE_tup (o := .lst (sa.map V.ref ++ [.ref a])) hE3
        refine ⟨_, hE3, ?_, sa ++ [a], spans ++ [sp], (b1.trans b3).mutN nE, pl3.upd e1 e2, ?_, ?_, ?_, ?_⟩
        · rw [List.length_map, Paired.length hp1]; exact szlt (by omega)
        · rw [upd_same, List.map_append]; rfl
        · exact Paired.snoc (Paired.mapP hp1 fun b sp' z => lt3 _ _ (b3 _ _ z fun y => by
            obtain ⟨_, _, _, _, z1, _⟩ := pl1
            rw [List.mem_singleton.mp y] at z
            unfold SpanAt at z
            rw [z1] at z
            cases z)) (lt3 _ _ ha)
        · rw [List.length_append, hl]; rfl
        · intro sp' h
          rcases List.mem_append.mp h with z | z
          · exact hsp sp' z
          · rw [List.mem_singleton.mp z]; exact ⟨q1, q2, q3⟩
      rintro G3 ⟨sa, spans, b3, pl3, hE, hp3, hsl, hsp⟩
      refine ⟨E, _, rfl, .inl ⟨SqL.of hE, fun r nr => ⟨szl (n := 4) (by decide), fun a na => ?_⟩⟩⟩
      have s4 := (same_new (o := .tup (sa.map V.ref)) nr).trans (same_new (o := .tup [.str name, .ref t, .ref cht, .ref r]) na)
      have hchp : cht ≠ p := fun z => by
        obtain ⟨_, _, _, _, z1, _⟩ := pl
        rw [z, z1] at hch
        cases hch
      refine q a _ ⟨name, tab, chosen, spans⟩ ((b.trans (Same.but _ s2)).trans (b3.trans (Same.but _ s4))) (pl3.keep s4) ⟨t, cht, r, sa, upd_same, ?_, ?_, ?_, Paired.mapP hp3 fun b' sp' z => s4 _ _ z⟩ rfl hin ?_
      · exact s4 _ _ (PoolAt.but (l := l) b3 htab htp)
      · exact s4 _ _ (PoolAt.but (l := l) b3 (s2 _ _ hch) hchp)
      · exact same_new na _ _ upd_same
      · exact ⟨by show spans.length = chosen.length; omega, by show tab.length = 2 ^ chosen.length; rw [htl, hcl], by show chosen.length ≤ 3; omega, hsp⟩
    have b := (b5.trans b6).trans b7
    have pl := pl6
    have hch := PoolAt.but (l := l) b7 (PoolAt.but (l := l) b6 hch4 k1) k1
    generalize H6 = G at *
    refine ⟨.int np, rfl, 1, np, rfl, rfl, ⟨by omega, by omega, by decide⟩, _, rfl, (sh np hnp).2.2.2.1, (sh np hnp).2.2.2.2.1, fun D nD => ?_⟩
    obtain ⟨d1, d2⟩ := pl.new nD
    rw [(sh np hnp).2.2.2.2.2]
    refine lc_it walk_range (fun k H1 => ∃ tab : List Bool, Same G H1 ∧ H1 D = some (.lst (tab.map V.bl)) ∧ tab.length = k) ⟨[], same_new nD, upd_same, rfl⟩ (fun _ _ _ _ => True.intro) ?_ ?_
    · rintro k x H1 H2 hk ⟨tab, s1, hD, hl⟩ ⟨rfl, rfl⟩
      have hk8 : k ≤ 8 := Nat.le_trans (Nat.le_of_lt hk) (Nat.le_trans (Nat.pow_le_pow_right (by decide) hnp) (by decide))
      refine ⟨rfl, _, rfl, _, rfl, code, _, rfl, rfl, (by omega), _, 1, rfl, rfl, rfl, _, hD, ?_, tab ++ [decide (V.int (Builtin.bitAnd (code / 2 ^ (0 + (k : Int)).toNat) 1) = V.int 1)], s1.mutN nD, ?_, ?_⟩
      · rw [List.length_map]; exact szlt (by omega)
      · rw [upd_same, List.map_append]; rfl
      · rw [List.length_append, hl]; rfl
    rintro G1 ⟨tab, s1, hD, htl⟩
    refine ⟨D, _, rfl, .inl ⟨SqL.of hD, fun t nt => ?_⟩⟩
    have s2 := s1.trans (same_new (o := .tup (tab.map V.bl)) nt)
    have pl2 := pl.keep s2
    have htab : (upd G1 t (.tup (tab.map V.bl))) t = some (.tup (tab.map V.bl)) := upd_same
    have htp : t ≠ p := (pl.keep s1 |>.new nt).1
    generalize upd G1 t (.tup (tab.map V.bl)) = G2 at s2 pl2 htab ⊢
    refine ⟨.str name, rfl, _, rfl, _, rfl, _, rfl, _, rfl, by omega, by omega, fun E nE => ?_⟩
    obtain ⟨e1, e2⟩ := pl2.new nE
    rw [show ((np : Nat) : Int).toNat = np from Int.toNat_natCast np]
    refine lc_it walk_range (fun k H1 => ∃ (sa : List Addr) (spans : List (Int × Int)), But [p] G2 H1 ∧ PoolAt H1 p l ∧ H1 E = some (.lst (sa.map V.ref)) ∧ Paired (SpanAt H1) sa spans ∧ spans.length = k ∧ ∀ sp ∈ spans, 0 ≤ sp.1 ∧ sp.1 + 2 ≤ sp.2 ∧ sp.2 ≤ 10)
      ⟨[], [], But.new nE, pl2.upd e1 e2, upd_same, .nil, rfl, fun sp h => (nomatch h)⟩ (fun _ _ _ _ => True.intro) ?_ ?_
    · rintro k x H1 H2 hk ⟨sa, spans, b1, pl1, hE, hp1, hl, hsp⟩ ⟨rfl, rfl⟩
      refine ⟨rfl, _, rfl, p, l, rfl, pl1, fun a H3 sp b3 pl3 ha q1 q2 q3 => ?_⟩
      have hE3 := PoolAt.but (l := l) b3 hE e1
      have lt3 := hE_tup (o := .lst (sa.map V.ref ++ [.ref a])) hE3
      refine ⟨_, hE3, ?_, sa ++ [a], spans ++ [sp], (b1.trans b3).mutN nE, pl3.upd e1 e2, ?_, ?_, ?_, ?_⟩
      · rw [List.length_map, Paired.length hp1]; exact szlt (by omega)
      · rw [upd_same, List.map_append]; rfl
      · exact Paired.snoc (Paired.mapP hp1 fun b sp' z => lt3 _ _ (b3 _ _ z fun y => by
          obtain ⟨_, _, _, _, z1, _⟩ := pl1
          rw [List.mem_singleton.mp y] at z
          unfold SpanAt at z
          rw [z1] at z
          cases z)) (lt3 _ _ ha)
      · rw [List.length_append, hl]; rfl
      · intro sp' h
        rcases List.mem_append.mp h with z | z
        · exact hsp sp' z
        · rw [List.mem_singleton.mp z]; exact ⟨q1, q2, q3⟩
    rintro G3 ⟨sa, spans, b3, pl3, hE, hp3, hsl, hsp⟩
    refine ⟨E, _, rfl, .inl ⟨SqL.of hE, fun r nr => ⟨szl (n := 4) (by decide), fun a na => ?_⟩⟩⟩
    have s4 := (same_new (o := .tup (sa.map V.ref)) nr).trans (same_new (o := .tup [.str name, .ref t, .ref cht, .ref r]) na)
    have hchp : cht ≠ p := fun z => by
      obtain ⟨_, _, _, _, z1, _⟩ := pl
      rw [z, z1] at hch
      cases hch
    refine q a _ ⟨name, tab, chosen, spans⟩ ((b.trans (Same.but _ s2)).trans (b3.trans (Same.but _ s4))) (pl3.keep s4) ⟨t, cht, r, sa, upd_same, ?_, ?_, ?_, Paired.mapP hp3 fun b' sp' z => s4 _ _ z⟩ rfl hin ?_
    · exact s4 _ _ (PoolAt.but (l := l) b3 htab htp)
    · exact s4 _ _ (PoolAt.but (l := l) b3 (s2 _ _ hch) hchp)
    · exact same_new na _ _ upd_same
    · exact ⟨by show spans.length = chosen.length; omega, by show tab.length = 2 ^ chosen.length; rw [htl, hcl], by show chosen.length ≤ 3; omega, hsp⟩
  · have b1 := But.refl [p] H
    have hp1 := hp
    have hnp : 0 ≤ 3 := by omega
    have hpos : 0 < 0 → 0 < nets.length := fun h => absurd h (by omega)
    clear key
    refine ⟨.int ((0 : Nat) : Int), rfl, ((0 : Nat) : Int), rfl, by omega, by omega, fun C0 nC => ?_⟩
    obtain ⟨c1, c2⟩ := hp1.new nC
    try rw [show (((0 : Nat) : Int)).toNat = 0 from rfl]
    refine lc_it walk_range (fun k H2 => ∃ chosen : List Str, But [p] H H2 ∧ PoolAt H2 p l ∧ H2 C0 = some (.lst (chosen.map V.str)) ∧ chosen.length = k ∧ ∀ n ∈ chosen, n ∈ nets) ⟨[], b1.trans (But.new nC), hp1.upd c1 c2, upd_same, rfl, fun n h => (nomatch h)⟩ (fun _ _ _ _ => True.intro) ?_ ?_
    · rintro k x H2 H3 hk ⟨chosen, b2, pl2, hC, hl, hin⟩ ⟨rfl, rfl⟩
      have hnl2 := PoolAt.but (l := l) b2 hnl nlp
      have hn := hpos (by omega)
      refine ⟨rfl, .ref nl, rfl, .ref p, rfl, .ref nl, rfl, nl, _, rfl, .inl (SqL.of hnl2), p, l, _, rfl, pl2, (by rw [List.length_map]; omega), (by rw [List.length_map]; omega), fun v H4 b4 pl4 v0 v1 => ?_⟩
      obtain ⟨n, en, hn1⟩ := atI_mem (xs := nets.map V.str) v0 v1
      obtain ⟨m, hm, rfl⟩ := List.mem_map.mp hn1
      refine ⟨nl, _, v, .str m, rfl, rfl, SqL.of (PoolAt.but (l := l) b4 hnl2 nlp), en, ?_⟩
      have hC4 := PoolAt.but (l := l) b4 hC c1
      have nCH : H C0 = none := b1.free hp1 nC
      refine ⟨_, hC4, ?_, chosen ++ [m], (b2.trans b4).mutN nCH, pl4.upd c1 c2, ?_, ?_, ?_⟩
      · rw [List.length_map]; exact szlt (by omega)
      · rw [upd_same, List.map_append]; rfl
      · rw [List.length_append, hl]; rfl
      · intro y hy
        rcases List.mem_append.mp hy with z | z
        · exact hin y z
        · rw [List.mem_singleton.mp z]; exact hm
    rintro H2 ⟨chosen, b2, pl2, hC, hcl, hin⟩
    refine ⟨C0, _, rfl, .inl ⟨SqL.of hC, fun cht nch => ?_⟩⟩
    obtain ⟨k1, k2⟩ := pl2.new nch
    have b3 := b2.trans (But.new (o := .tup (chosen.map V.str)) nch)
    have pl3 := pl2.upd (o := .tup (chosen.map V.str)) k1 k2
    have hch := upd_same (H := H2) (a := cht) (o := .tup (chosen.map V.str))
    generalize upd H2 cht (.tup (chosen.map V.str)) = H3 at b3 pl3 hch ⊢
    refine ⟨.ref p, rfl, .int ((0 : Nat) : Int), rfl, 1, ((0 : Nat) : Int), rfl, rfl, ⟨by omega, by omega, by decide⟩, 1, _, rfl, rfl, ⟨(sh 0 hnp).2.2.1.1, (sh 0 hnp).2.2.1.2, by decide⟩, p, l, _, rfl, pl3, (sh 0 hnp).1, (sh 0 hnp).2.1, fun code H4 b4 pl4 _ _ => ?_⟩
    have b5 := b3.trans b4
    have hch4 := PoolAt.but (l := l) b4 hch k1
    refine ⟨.int ((0 : Nat) : Int), rfl, rfl, _, rfl, ite2 (fun _ => ?_) (fun _ => ite2 (fun h => by cases h) (fun _ => ?_))⟩
    rotate_left
    · have b := b5
      have pl := pl4
      have hch := hch4
      generalize H4 = G at *
      refine ⟨.int ((0 : Nat) : Int), rfl, 1, ((0 : Nat) : Int), rfl, rfl, ⟨by omega, by omega, by decide⟩, _, rfl, (sh 0 hnp).2.2.2.1, (sh 0 hnp).2.2.2.2.1, fun D nD => ?_⟩
      obtain ⟨d1, d2⟩ := pl.new nD
      rw [(sh 0 hnp).2.2.2.2.2]
      refine lc_it walk_range (fun k H1 => ∃ tab : List Bool, Same G H1 ∧ H1 D = some (.lst (tab.map V.bl)) ∧ tab.length = k) ⟨[], same_new nD, upd_same, rfl⟩ (fun _ _ _ _ => True.intro) ?_ ?_
      · rintro k x H1 H2 hk ⟨tab, s1, hD, hl⟩ ⟨rfl, rfl⟩
        have hk8 : k ≤ 8 := Nat.le_trans (Nat.le_of_lt hk) (Nat.le_trans (Nat.pow_le_pow_right (by decide) hnp) (by decide))
        refine ⟨rfl, _, rfl, _, rfl, code, _, rfl, rfl, (by omega), _, 1, rfl, rfl, rfl, _, hD, ?_, tab ++ [decide (V.int (Builtin.bitAnd (code / 2 ^ (0 + (k : Int)).toNat) 1) = V.int 1)], s1.mutN nD, ?_, ?_⟩
        · rw [List.length_map]; exact szlt (by omega)
        · rw [upd_same, List.map_append]; rfl
        · rw [List.length_append, hl]; rfl
      rintro G1 ⟨tab, s1, hD, htl⟩
      refine ⟨D, _, rfl, .inl ⟨SqL.of hD, fun t nt => ?_⟩⟩
      have s2 := s1.trans (same_new (o := .tup (tab.map V.bl)) nt)
      have pl2 := pl.keep s2
      have htab : (upd G1 t (.tup (tab.map V.bl))) t = some (.tup (tab.map V.bl)) := upd_same
      have htp : t ≠ p := (pl.keep s1 |>.new nt).1
      generalize upd G1 t (.tup (tab.map V.bl)) = G2 at s2 pl2 htab ⊢
      refine ⟨.str name, rfl, _, rfl, _, rfl, _, rfl, _, rfl, by omega, by omega, fun E nE => ?_⟩
      obtain ⟨e1, e2⟩ := pl2.new nE
      try rw [show (((0 : Nat) : Int)).toNat = 0 from rfl]
      refine lc_it walk_range (fun k H1 => ∃ (sa : List Addr) (spans : List (Int × Int)), But [p] G2 H1 ∧ PoolAt H1 p l ∧ H1 E = some (.lst (sa.map V.ref)) ∧ Paired (SpanAt H1) sa spans ∧ spans.length = k ∧ ∀ sp ∈ spans, 0 ≤ sp.1 ∧ sp.1 + 2 ≤ sp.2 ∧ sp.2 ≤ 10)
        ⟨[], [], But.new nE, pl2.upd e1 e2, upd_same, .nil, rfl, fun sp h => (nomatch h)⟩ (fun _ _ _ _ => True.intro) ?_ ?_
      · rintro k x H1 H2 hk ⟨sa, spans, b1, pl1, hE, hp1, hl, hsp⟩ ⟨rfl, rfl⟩
        refine ⟨rfl, _, rfl, p, l, rfl, pl1, fun a H3 sp b3 pl3 ha q1 q2 q3 => ?_⟩
        have hE3 := PoolAt.but (l := l) b3 hE e1
        have lt3 := hE_tup (o := .lst (sa.map V.ref ++ [.ref a])) hE3
        refine ⟨_, hE3, ?_, sa ++ [a], spans ++ [sp], (b1.trans b3).mutN nE, pl3.upd e1 e2, ?_, ?_, ?_, ?_⟩
        · rw [List.length_map, Paired.length hp1]; exact szlt (by omega)
        · rw [upd_same, List.map_append]; rfl
        · exact Paired.snoc (Paired.mapP hp1 fun b sp' z => lt3 _ _ (b3 _ _ z fun y => by
            obtain ⟨_, _, _, _, z1, _⟩ := pl1
            rw [List.mem_singleton.mp y] at z
            unfold SpanAt at z
            rw [z1] at z
            cases z)) (lt3 _ _ ha)
        · rw [List.length_append, hl]; rfl
        · intro sp' h
          rcases List.mem_append.mp h with z | z
          · exact hsp sp' z
          · rw [List.mem_singleton.mp z]; exact ⟨q1, q2, q3⟩
      rintro G3 ⟨sa, spans, b3, pl3, hE, hp3, hsl, hsp⟩
      refine ⟨E, _, rfl, .inl ⟨SqL.of hE, fun r nr => ⟨szl (n := 4) (by decide), fun a na => ?_⟩⟩⟩
      have s4 := (same_new (o := .tup (sa.map V.ref)) nr).trans (same_new (o := .tup [.str name, .ref t, .ref cht, .ref r]) na)
      have hchp : cht ≠ p := fun z => by
        obtain ⟨_, _, _, _, z1, _⟩ := pl
        rw [z, z1] at hch
        cases hch
      refine q a _ ⟨name, tab, chosen, spans⟩ ((b.trans (Same.but _ s2)).trans (b3.trans (Same.but _ s4))) (pl3.keep s4) ⟨t, cht, r, sa, upd_same, ?_, ?_, ?_, Paired.mapP hp3 fun b' sp' z => s4 _ _ z⟩ rfl hin ?_
      · exact s4 _ _ (PoolAt.but (l := l) b3 htab htp)
      · exact s4 _ _ (PoolAt.but (l := l) b3 (s2 _ _ hch) hchp)
      · exact same_new na _ _ upd_same
      · exact ⟨by show spans.length = chosen.length; omega, by show tab.length = 2 ^ chosen.length; rw [htl, hcl], by show chosen.length ≤ 3; omega, hsp⟩
    refine ⟨.ref p, rfl, p, l, 2, rfl, pl4, by decide, by decide, fun v H5 b6 pl5 _ _ => ⟨rfl, _, rfl, ite2 (fun _ => pickI [8, 14, 6, 2, 7, 1] rfl pl5 rfl (by decide) (by decide) fun code H6 _ b7 pl6 => ?_) (fun _ => ?_)⟩⟩
    rotate_left
    · have b := b5.trans b6
      have pl := pl5
      have hch := PoolAt.but (l := l) b6 hch4 k1
      generalize H5 = G at *
      refine ⟨.int ((0 : Nat) : Int), rfl, 1, ((0 : Nat) : Int), rfl, rfl, ⟨by omega, by omega, by decide⟩, _, rfl, (sh 0 hnp).2.2.2.1, (sh 0 hnp).2.2.2.2.1, fun D nD => ?_⟩
      obtain ⟨d1, d2⟩ := pl.new nD
      rw [(sh 0 hnp).2.2.2.2.2]
      refine lc_it walk_range (fun k H1 => ∃ tab : List Bool, Same G H1 ∧ H1 D = some (.lst (tab.map V.bl)) ∧ tab.length = k) ⟨[], same_new nD, upd_same, rfl⟩ (fun _ _ _ _ => True.intro) ?_ ?_
      · rintro k x H1 H2 hk ⟨tab, s1, hD, hl⟩ ⟨rfl, rfl⟩
        have hk8 : k ≤ 8 := Nat.le_trans (Nat.le_of_lt hk) (Nat.le_trans (Nat.pow_le_pow_right (by decide) hnp) (by decide))
        refine ⟨rfl, _, rfl, _, rfl, code, _, rfl, rfl, (by omega), _, 1, rfl, rfl, rfl, _, hD, ?_, tab ++ [decide (V.int (Builtin.bitAnd (code / 2 ^ (0 + (k : Int)).toNat) 1) = V.int 1)], s1.mutN nD, ?_, ?_⟩
        · rw [List.length_map]; exact szlt (by omega)
        · rw [upd_same, List.map_append]; rfl
        · rw [List.length_append, hl]; rfl
      rintro G1 ⟨tab, s1, hD, htl⟩
      refine ⟨D, _, rfl, .inl ⟨SqL.of hD, fun t nt => ?_⟩⟩
      have s2 := s1.trans (same_new (o := .tup (tab.map V.bl)) nt)
      have pl2 := pl.keep s2
      have htab : (upd G1 t (.tup (tab.map V.bl))) t = some (.tup (tab.map V.bl)) := upd_same
      have htp : t ≠ p := (pl.keep s1 |>.new nt).1
      generalize upd G1 t (.tup (tab.map V.bl)) = G2 at s2 pl2 htab ⊢
      refine ⟨.str name, rfl, _, rfl, _, rfl, _, rfl, _, rfl, by omega, by omega, fun E nE => ?_⟩
      obtain ⟨e1, e2⟩ := pl2.new nE
      try rw [show (((0 : Nat) : Int)).toNat = 0 from rfl]
      refine lc_it walk_range (fun k H1 => ∃ (sa : List Addr) (spans : List (Int × Int)), But [p] G2 H1 ∧ PoolAt H1 p l ∧ H1 E = some (.lst (sa.map V.ref)) ∧ Paired (SpanAt H1) sa spans ∧ spans.length = k ∧ ∀ sp ∈ spans, 0 ≤ sp.1 ∧ sp.1 + 2 ≤ sp.2 ∧ sp.2 ≤ 10)
        ⟨[], [], But.new nE, pl2.upd e1 e2, upd_same, .nil, rfl, fun sp h => (nomatch h)⟩ (fun _ _ _ _ => True.intro) ?_ ?_
      · rintro k x H1 H2 hk ⟨sa, spans, b1, pl1, hE, hp1, hl, hsp⟩ ⟨rfl, rfl⟩
        refine ⟨rfl, _, rfl, p, l, rfl, pl1, fun a H3 sp b3 pl3 ha q1 q2 q3 => ?_⟩
        have hE3 := PoolAt.but (l := l) b3 hE e1
        have lt3 := hE_tup (o := .lst (sa.map V.ref ++ [.ref a])) hE3
        refine ⟨_, hE3, ?_, sa ++ [a], spans ++ [sp], (b1.trans b3).mutN nE, pl3.upd e1 e2, ?_, ?_, ?_, ?_⟩
        · rw [List.length_map, Paired.length hp1]; exact szlt (by omega)
        · rw [upd_same, List.map_append]; rfl
        · exact Paired.snoc (Paired.mapP hp1 fun b sp' z => lt3 _ _ (b3 _ _ z fun y => by
            obtain ⟨_, _, _, _, z1, _⟩ := pl1
            rw [List.mem_singleton.mp y] at z
            unfold SpanAt at z
            rw [z1] at z
            cases z)) (lt3 _ _ ha)
        · rw [List.length_append, hl]; rfl
        · intro sp' h
          rcases List.mem_append.mp h with z | z
          · exact hsp sp' z
          · rw [List.mem_singleton.mp z]; exact ⟨q1, q2, q3⟩
      rintro G3 ⟨sa, spans, b3, pl3, hE, hp3, hsl, hsp⟩
      refine ⟨E, _, rfl, .inl ⟨SqL.of hE, fun r nr => ⟨szl (n := 4) (by decide), fun a na => ?_⟩⟩⟩
      have s4 := (same_new (o := .tup (sa.map V.ref)) nr).trans (same_new (o := .tup [.str name, .ref t, .ref cht, .ref r]) na)
      have hchp : cht ≠ p := fun z => by
        obtain ⟨_, _, _, _, z1, _⟩ := pl
        rw [z, z1] at hch
        cases hch
      refine q a _ ⟨name, tab, chosen, spans⟩ ((b.trans (Same.but _ s2)).trans (b3.trans (Same.but _ s4))) (pl3.keep s4) ⟨t, cht, r, sa, upd_same, ?_, ?_, ?_, Paired.mapP hp3 fun b' sp' z => s4 _ _ z⟩ rfl hin ?_
      · exact s4 _ _ (PoolAt.but (l := l) b3 htab htp)
      · exact s4 _ _ (PoolAt.but (l := l) b3 (s2 _ _ hch) hchp)
      · exact same_new na _ _ upd_same
      · exact ⟨by show spans.length = chosen.length; omega, by show tab.length = 2 ^ chosen.length; rw [htl, hcl], by show chosen.length ≤ 3; omega, hsp⟩
    have b := (b5.trans b6).trans b7
    have pl := pl6
    have hch := PoolAt.but (l := l) b7 (PoolAt.but (l := l) b6 hch4 k1) k1
    generalize H6 = G at *
    refine ⟨.int ((0 : Nat) : Int), rfl, 1, ((0 : Nat) : Int), rfl, rfl, ⟨by omega, by omega, by decide⟩, _, rfl, (sh 0 hnp).2.2.2.1, (sh 0 hnp).2.2.2.2.1, fun D nD => ?_⟩
    obtain ⟨d1, d2⟩ := pl.new nD
    rw [(sh 0 hnp).2.2.2.2.2]
    refine lc_it walk_range (fun k H1 => ∃ tab : List Bool, Same G H1 ∧ H1 D = some (.lst (tab.map V.bl)) ∧ tab.length = k) ⟨[], same_new nD, upd_same, rfl⟩ (fun _ _ _ _ => True.intro) ?_ ?_
    · rintro k x H1 H2 hk ⟨tab, s1, hD, hl⟩ ⟨rfl, rfl⟩
      have hk8 : k ≤ 8 := Nat.le_trans (Nat.le_of_lt hk) (Nat.le_trans (Nat.pow_le_pow_right (by decide) hnp) (by decide))
      refine ⟨rfl, _, rfl, _, rfl, code, _, rfl, rfl, (by omega), _, 1, rfl, rfl, rfl, _, hD, ?_, tab ++ [decide (V.int (Builtin.bitAnd (code / 2 ^ (0 + (k : Int)).toNat) 1) = V.int 1)], s1.mutN nD, ?_, ?_⟩
      · rw [List.length_map]; exact szlt (by omega)
      · rw [upd_same, List.map_append]; rfl
      · rw [List.length_append, hl]; rfl
    rintro G1 ⟨tab, s1, hD, htl⟩
    refine ⟨D, _, rfl, .inl ⟨SqL.of hD, fun t nt => ?_⟩⟩
    have s2 := s1.trans (same_new (o := .tup (tab.map V.bl)) nt)
    have pl2 := pl.keep s2
    have htab : (upd G1 t (.tup (tab.map V.bl))) t = some (.tup (tab.map V.bl)) := upd_same
    have htp : t ≠ p := (pl.keep s1 |>.new nt).1
    generalize upd G1 t (.tup (tab.map V.bl)) = G2 at s2 pl2 htab ⊢
    refine ⟨.str name, rfl, _, rfl, _, rfl, _, rfl, _, rfl, by omega, by omega, fun E nE => ?_⟩
    obtain ⟨e1, e2⟩ := pl2.new nE
    try rw [show (((0 : Nat) : Int)).toNat = 0 from rfl]
    refine lc_it walk_range (fun k H1 => ∃ (sa : List Addr) (spans : List (Int × Int)), But [p] G2 H1 ∧ PoolAt H1 p l ∧ H1 E = some (.lst (sa.map V.ref)) ∧ Paired (SpanAt H1) sa spans ∧ spans.length = k ∧ ∀ sp ∈ spans, 0 ≤ sp.1 ∧ sp.1 + 2 ≤ sp.2 ∧ sp.2 ≤ 10)
      ⟨[], [], But.new nE, pl2.upd e1 e2, upd_same, .nil, rfl, fun sp h => (nomatch h)⟩ (fun _ _ _ _ => True.intro) ?_ ?_
    · rintro k x H1 H2 hk ⟨sa, spans, b1, pl1, hE, hp1, hl, hsp⟩ ⟨rfl, rfl⟩
      refine ⟨rfl, _, rfl, p, l, rfl, pl1, fun a H3 sp b3 pl3 ha q1 q2 q3 => ?_⟩
      have hE3 := PoolAt.but (l := l) b3 hE e1
      have lt3 := hE_tup (o := .lst (sa.map V.ref ++ [.ref a])) hE3
      refine ⟨_, hE3, ?_, sa ++ [a], spans ++ [sp], (b1.trans b3).mutN nE, pl3.upd e1 e2, ?_, ?_, ?_, ?_⟩
      · rw [List.length_map, Paired.length hp1]; exact szlt (by omega)
      · rw [upd_same, List.map_append]; rfl
      · exact Paired.snoc (Paired.mapP hp1 fun b sp' z => lt3 _ _ (b3 _ _ z fun y => by
          obtain ⟨_, _, _, _, z1, _⟩ := pl1
          rw [List.mem_singleton.mp y] at z
          unfold SpanAt at z
          rw [z1] at z
          cases z)) (lt3 _ _ ha)
      · rw [List.length_append, hl]; rfl
      · intro sp' h
        rcases List.mem_append.mp h with z | z
        · exact hsp sp' z
        · rw [List.mem_singleton.mp z]; exact ⟨q1, q2, q3⟩
    rintro G3 ⟨sa, spans, b3, pl3, hE, hp3, hsl, hsp⟩
    refine ⟨E, _, rfl, .inl ⟨SqL.of hE, fun r nr => ⟨szl (n := 4) (by decide), fun a na => ?_⟩⟩⟩
    have s4 := (same_new (o := .tup (sa.map V.ref)) nr).trans (same_new (o := .tup [.str name, .ref t, .ref cht, .ref r]) na)
    have hchp : cht ≠ p := fun z => by
      obtain ⟨_, _, _, _, z1, _⟩ := pl
      rw [z, z1] at hch
      cases hch
    refine q a _ ⟨name, tab, chosen, spans⟩ ((b.trans (Same.but _ s2)).trans (b3.trans (Same.but _ s4))) (pl3.keep s4) ⟨t, cht, r, sa, upd_same, ?_, ?_, ?_, Paired.mapP hp3 fun b' sp' z => s4 _ _ z⟩ rfl hin ?_
    · exact s4 _ _ (PoolAt.but (l := l) b3 htab htp)
    · exact s4 _ _ (PoolAt.but (l := l) b3 (s2 _ _ hch) hchp)
    · exact same_new na _ _ upd_same
    · exact ⟨by show spans.length = chosen.length; omega, by show tab.length = 2 ^ chosen.length; rw [htl, hcl], by show chosen.length ≤ 3; omega, hsp⟩
end
end L2.Sg

/-! the law's circuits -/
namespace L2.Sg
open PySem PySem.Spec PyProof.Rows L2.Lx
abbrev s_law_circuit : Stmt := topS 42
theorem sc_law_circuit : FnScope ["_law_pool_here", "_law_inputs", "_law_regs", "_law_most", "_law_names_here", "_law_nets_here", "_law_gates", "_law_k", "_law_gate_here", "_law_rows", "_law_net", "_law_times_here"] ["_law_pool_here", "_law_inputs", "_law_regs", "_law_most"] (defScope s_law_circuit) := ⟨rfl, rfl, rfl, by decide +kernel, rfl, by decide +kernel, by decide +kernel⟩

theorem wf_of {ns : List Str} {a b : Nat} {gs ord : List Gate} (hnd : ns.Nodup) (hlen : a + b + ord.length ≤ ns.length) (hp : ord.Perm gs) (h : ∀ (i : Nat) g, ord[i]? = some g → ns[a + b + i]? = some g.name ∧ GShape g ∧ ∀ n ∈ g.nets, n ∈ ns.take (a + b + i))
    (ho : ord.length ≤ 6) (hab : a + b ≤ 5) : Wf ⟨ns.take a, gs, (ns.drop a).take b⟩ ord := by
  have es : ns.take a ++ (ns.drop a).take b = ns.take (a + b) := List.take_add.symm
  have eo : ord.map Gate.name = (ns.drop (a + b)).take ord.length := by
    apply List.ext_getElem?
    intro i
    rw [List.getElem?_map, List.getElem?_take, List.getElem?_drop]
    by_cases hi : i < ord.length
    · rw [if_pos hi, List.getElem?_eq_getElem hi]
      exact (h i _ (List.getElem?_eq_getElem hi)).1.symm
    · rw [if_neg hi, List.getElem?_eq_none (by omega)]
      rfl
  have en : (ns.take a ++ (ns.drop a).take b) ++ ord.map Gate.name = ns.take (a + b + ord.length) := by
    rw [es, eo]
    exact List.take_add.symm
  refine ⟨?_, hp, ?_, ?_, ?_, ?_⟩
  · have pm : ((ns.take a ++ (ns.drop a).take b) ++ ord.map Gate.name).Perm ((ns.take a ++ (ns.drop a).take b) ++ gs.map Gate.name) := (hp.map _).append_left _
    refine pm.nodup_iff.mp ?_
    rw [en]
    exact hnd.sublist (List.take_sublist _ _)
  · intro i g e n hn
    have hm := (h i g e).2.2 n hn
    rw [List.take_add] at hm
    show n ∈ ns.take a ++ (ns.drop a).take b ∨ _
    rw [es]
    rcases List.mem_append.mp hm with z | z
    · exact .inl z
    · right
      obtain ⟨j, hj, ej⟩ := List.mem_iff_getElem.mp z
      have hj1 : j < i := by
        rw [List.length_take] at hj
        omega
      have hi := (List.getElem?_eq_some_iff.mp e).1
      have e2 : ns[a + b + j]? = some n := by
        have q : (List.take i (List.drop (a + b) ns))[j]? = some n := by rw [← ej]; exact List.getElem?_eq_getElem hj
        rw [List.getElem?_take, if_pos hj1, List.getElem?_drop] at q
        exact q
      have ej2 : ord[j]? = some (ord[j]'(by omega)) := List.getElem?_eq_getElem (by omega)
      refine ⟨j, _, hj1, ej2, ?_⟩
      have := (h j _ ej2).1
      rw [e2] at this
      exact (Option.some.inj this).symm
  · intro g hg
    obtain ⟨i, hi, ei⟩ := List.mem_iff_getElem.mp (hp.mem_iff.mpr hg)
    exact (h i g (by rw [← ei]; exact List.getElem?_eq_getElem hi)).2.1
  · show gs.length ≤ 6
    rw [← hp.length_eq]
    exact ho
  · show (ns.take a ++ (ns.drop a).take b).length ≤ 10
    rw [es, List.length_take]
    omega
theorem paired_app {α β : Type} {G : α → β → Prop} {l1 m1 : List α} {l2 m2 : List β} (h : Paired G l1 l2) (h' : Paired G m1 m2) : Paired G (l1 ++ m1) (l2 ++ m2) := by
  induction h with
  | nil => exact h'
  | cons r t ih => exact .cons r ih
theorem paired_take {α β : Type} {G : α → β → Prop} {l1 : List α} {l2 : List β} (h : Paired G l1 l2) : ∀ i, Paired G (l1.take i) (l2.take i) := by
  induction h with
  | nil => intro i; rw [List.take_nil, List.take_nil]; exact .nil
  | cons r t ih =>
    intro i
    cases i with
    | zero => exact .nil
    | succ i => exact .cons r (ih i)
theorem paired_drop {α β : Type} {G : α → β → Prop} {l1 : List α} {l2 : List β} (h : Paired G l1 l2) : ∀ i, Paired G (l1.drop i) (l2.drop i) := by
  induction h with
  | nil => intro i; rw [List.drop_nil, List.drop_nil]; exact .nil
  | cons r t ih =>
    intro i
    cases i with
    | zero => exact .cons r t
    | succ i => exact ih i
theorem cutV_take {xs : List V} {k : Nat} : cutV xs none (some (k : Int)) = xs.take k := by
  unfold cutV
  rw [HT.sIx_none, HT.sIx_nat, Nat.sub_zero, List.drop_zero]
  by_cases h : k ≤ xs.length
  · rw [Nat.min_eq_left h]
  · rw [Nat.min_eq_right (by omega), List.take_of_length_le (Nat.le_refl _), List.take_of_length_le (by omega)]
theorem pool_tupK {H H' : Hp} {p l : Addr} (x : PoolAt H p l) (b : But [p] H H') : TupK H H' := b.tupK fun m hm xs e => by
  obtain ⟨_, _, _, _, z1, _⟩ := x
  rw [List.mem_singleton.mp hm, z1] at e
  cases e
section
variable {P : Program} {w : World} {K : PySem.W.Frag} {mg : Str → Option Value} {base : Heap} {f : Addr} {fd : FuncData}
def spCircuit : Sp := fun vs H Q _ => ∃ (p l : Addr) (a b : Nat), vs = [.ref p, .int a, .int b, .int 6] ∧ PoolAt H p l ∧ a ≤ 3 ∧ b ≤ 2 ∧ ∀ c H' C ord, But [p] H H' → PoolAt H' p l → CircAt H' c C → Wf C ord → Q (.ref c) H'
/-- what stands at a turn of the gates' loop -/
structure CrSt (H0 H : Hp) (p l na nl gp : Addr) (ns : List Str) (a b k : Nat) (ord : List Gate) : Prop where
  but : But [p] H0 H
  pool : PoolAt H p l
  names : H na = some (.lst (ns.map V.str))
  nets : H nl = some (.lst ((ns.take (a + b + k)).map V.str))
  gates : ∃ (ga : List Addr) (gs : List Gate), H gp = some (.lst (ga.map V.ref)) ∧ Paired (GateAt H) ga gs ∧ ord.Perm gs
  len : ord.length = k
  told : ∀ (i : Nat) g, ord[i]? = some g → ns[a + b + i]? = some g.name ∧ GShape g ∧ ∀ n ∈ g.nets, n ∈ ns.take (a + b + i)
theorem ok_circuit (F : Fun K "_law_circuit" "_law_circuit" s_law_circuit f fd) (B : Bt mg) (D__law_draw : Ok P w K mg base "_law_draw" 2 ["_law_pool_here", "_law_many"] spDraw) (D__law_names : Ok P w K mg base "_law_names" 3 ["_law_pool_here", "_law_many"] spNames) (D__law_gate : Ok P w K mg base "_law_gate" 4 ["_law_pool_here", "_law_name", "_law_nets_here"] spGate) (D__law_times : Ok P w K mg base "_law_times" 3 ["_law_pool_here"] spTimes) :
    FnOk P w K mg base CX0 5 f fd ["_law_pool_here", "_law_inputs", "_law_regs", "_law_most"] spCircuit := by
  refine F.ok sc_law_circuit (fun vs H Q E h => ?_) (fun cdv A outer s H vs Q E hr h => ?_)
  · obtain ⟨_, _, _, _, rfl, _⟩ := h
    rfl
  obtain ⟨p, l, a, b, rfl, hp, ha, hb, q⟩ := h
  refine ⟨_, (pss_cons (ps_set (i := 4) sc_law_circuit.nd rfl (Or.inl rfl) (wCall D__law_names (hr.mono (by first | decide | omega)) (pa_cons (pv 0) (pa_cons (pe_op op_add (pe_op op_add (pv 1) (pv 2)) (pv 3)) pa_nil))))
      (pss_cons (ps_set (i := 5) sc_law_circuit.nd rfl (Or.inl rfl) (pe_callTy (cList K) (by rfl) B.list_ boot_list' (pa_cons (wSl K (pv 4) po_none (po_some (pe_op op_add (pv 1) (pv 2)))) pa_nil)))
      (pss_cons (ps_set (i := 6) sc_law_circuit.nd rfl (Or.inl rfl) (pe_lst pa_nil))
      (pss_cons (ps_for PassesOwn.never rfl (pi_range1 rfl B.range_ (pa_cons (wCall D__law_draw (hr.mono (by first | decide | omega)) (pa_cons (pv 0) (pa_cons (pe_op op_add (pv 3) pe_int) pa_nil))) pa_nil)) (pg_name (i := 7) sc_law_circuit.nd rfl (Or.inl rfl)) (pss_cons (ps_set (i := 8) sc_law_circuit.nd rfl (Or.inl rfl) (wCall D__law_gate (hr.mono (by first | decide | omega)) (pa_cons (pv 0) (pa_cons (wIxL K (pv 4) (pe_op op_add (pe_op op_add (pv 1) (pv 2)) (pv 7))) (pa_cons (pv 5) pa_nil)))))
      (pss_cons (ps_expr (pe_bm PySem.F.plainAttrs_list PySem.F.slot_list_append PySem.F.type_list_append mt_append (pv 5) (pa_cons (wIxT K (pv 8) pe_int) pa_nil)))
      (pss_one (ps_expr (pe_bm PySem.F.plainAttrs_list PySem.F.slot_list_insert PySem.F.type_list_insert mt_insert (pv 6) (pa_cons (wCall D__law_draw (hr.mono (by first | decide | omega)) (pa_cons (pv 0) (pa_cons (pe_op op_add (pe_callB (cLen K) (by rfl) B.len_ PySem.boot_len (pa_cons (pv 6) pa_nil)) pe_int) pa_nil))) (pa_cons (pv 8) pa_nil))))))))
      (pss_cons (ps_set (i := 9) sc_law_circuit.nd rfl (Or.inl rfl) (pe_lst pa_nil))
      (pss_cons (ps_for PassesOwn.never rfl (pi_range1 rfl B.range_ (pa_cons (pv 2) pa_nil)) (pg_name (i := 7) sc_law_circuit.nd rfl (Or.inl rfl)) (pss_cons (ps_set (i := 10) sc_law_circuit.nd rfl (Or.inl rfl) (wIxL K (pv 5) (pe_op op_sub (pe_op op_sub (pe_callB (cLen K) (by rfl) B.len_ PySem.boot_len (pa_cons (pv 5) pa_nil)) pe_int) (pe_op op_fdiv (wCall D__law_draw (hr.mono (by first | decide | omega)) (pa_cons (pv 0) (pa_cons (pe_callB (cLen K) (by rfl) B.len_ PySem.boot_len (pa_cons (pv 5) pa_nil)) pa_nil))) pe_int))))
      (pss_cons (ps_set (i := 11) sc_law_circuit.nd rfl (Or.inl rfl) (wCall D__law_times (hr.mono (by first | decide | omega)) (pa_cons (pv 0) pa_nil)))
      (pss_one (ps_expr (pe_bm PySem.F.plainAttrs_list PySem.F.slot_list_append PySem.F.type_list_append mt_append (pv 9) (pa_cons (pe_tup (pa_cons (wIxL K (pv 4) (pe_op op_add (pv 1) (pv 7))) (pa_cons (pv 10) (pa_cons (wIxT K (pv 11) pe_int) (pa_cons (wIxT K (pv 11) pe_int) (pa_cons (wIxT K (pv 11) pe_int) (pa_cons (wIxT K (pv 11) pe_int) (pa_cons (pe_cmpR op_eq (wCall D__law_draw (hr.mono (by first | decide | omega)) (pa_cons (pv 0) (pa_cons pe_int pa_nil))) pe_int (nomark _)) pa_nil)))))))) pa_nil)))))))
      (pss_one (ps_ret (pe_tup (pa_cons (pe_callTy (cTuple K) (by rfl) B.tuple_ boot_tuple' (pa_cons (wSl K (pv 4) po_none (po_some (pv 1))) pa_nil)) (pa_cons (pe_callTy (cTuple K) (by rfl) B.tuple_ boot_tuple' (pa_cons (pv 6) pa_nil)) (pa_cons (pe_callTy (cTuple K) (by rfl) B.tuple_ boot_tuple' (pa_cons (pv 9) pa_nil)) (pa_cons (pe_tup pa_nil) pa_nil))))))))))))), ?_⟩
  refine ⟨_, rfl, _, rfl, _, rfl, a, b, rfl, rfl, _, rfl, _, 6, rfl, rfl, p, l, _, rfl, hp, by omega, by omega, fun na H1 ns b1 hp1 nna hna hlen hnd => ?_⟩
  have hlen' : ns.length = a + b + 6 := by omega
  obtain ⟨a1, a2⟩ := hp.new nna
  refine ⟨_, rfl, _, rfl, _, rfl, a, b, rfl, rfl, _, rfl, na, _, rfl, SqL.of hna, fun s1 ns1 => ?_⟩
  have ecut : cutV (ns.map V.str) none (some ((a : Int) + (b : Int))) = (ns.take (a + b)).map V.str := by
    rw [show (a : Int) + (b : Int) = ((a + b : Nat) : Int) by omega, cutV_take, List.map_take]
  rw [ecut]
  refine ⟨s1, _, rfl, .inl (SqL.of upd_same), fun nl nnl => ⟨Nat.zero_le _, fun gp ngp => ?_⟩⟩
  have s12 := (same_new (o := .lst ((ns.take (a + b)).map V.str)) ns1).trans (same_new (o := .lst ((ns.take (a + b)).map V.str)) nnl)
  have s13 := s12.trans (same_new (o := .lst []) ngp)
  have hp3 := hp1.keep s13
  have b3 : But [p] H _ := b1.trans (Same.but [p] s13)
  have hna3 := s13 _ _ hna
  have hnl3 := same_new (o := .lst []) ngp _ _ (upd_same (H := upd H1 s1 (.lst ((ns.take (a + b)).map V.str))) (a := nl) (o := .lst ((ns.take (a + b)).map V.str)))
  have hgp3 := upd_same (H := upd (upd H1 s1 (.lst ((ns.take (a + b)).map V.str))) nl (.lst ((ns.take (a + b)).map V.str))) (a := gp) (o := .lst [])
  have n1 : nl ≠ na := (ne_of_none ((same_new ns1) _ _ hna) nnl).symm
  have n2 : gp ≠ na := (ne_of_none (s12 _ _ hna) ngp).symm
  have n3 : gp ≠ nl := (ne_of_none upd_same ngp).symm
  have fr1 : ∀ x, H1 x = none → H x = none := fun x e => b1.free hp1 e
  have nlH : H nl = none := fr1 _ ((same_new ns1).free nnl)
  have gpH : H gp = none := fr1 _ (s12.free ngp)
  obtain ⟨l1, l2⟩ := hp.new nlH
  obtain ⟨g1, g2⟩ := hp.new gpH
  generalize upd (upd (upd H1 s1 (.lst ((ns.take (a + b)).map V.str))) nl (.lst ((ns.take (a + b)).map V.str))) gp (.lst []) = H3 at hp3 b3 hna3 hnl3 hgp3 ⊢
  refine ⟨_, rfl, _, rfl, 6, 1, rfl, rfl, p, l, _, rfl, hp3, by decide, by decide, fun m H4 b4 hp4 m0 m1 => ⟨m, rfl, by omega, by omega, ?_⟩⟩
  refine for_range (fun k σ H5 => ∃ y7 y8 ord, σ = [some (.ref p), some (.int a), some (.int b), some (.int 6), some (.ref na), some (.ref nl), some (.ref gp), y7, y8, none, none, none] ∧ CrSt H H5 p l na nl gp ns a b k ord)
    ⟨none, none, [], rfl, b3.trans b4, hp4, PoolAt.but (l := l) b4 hna3 a1, PoolAt.but (l := l) b4 hnl3 l1, ⟨[], [], PoolAt.but (l := l) b4 hgp3 g1, .nil, .nil⟩, rfl, fun i g h => by simp at h⟩ ?_ ?_
  · rintro k σ H5 hk ⟨y7, y8, ord, rfl, S⟩
    have hk6 : k < 6 := by omega
    obtain ⟨name, en⟩ : ∃ name, ns[a + b + k]? = some name := ⟨_, List.getElem?_eq_getElem (by omega)⟩
    have eat : atI (ns.map V.str) ((a : Int) + (b : Int) + (0 + (k : Int))) = some (.str name) := by
      rw [show (a : Int) + (b : Int) + (0 + (k : Int)) = ((a + b + k : Nat) : Int) by omega]
      exact atI_map en
    have htl : (ns.take (a + b + k)).length = a + b + k := by rw [List.length_take]; omega
    refine ⟨_, rfl, _, rfl, _, rfl, _, rfl, a, b, rfl, rfl, _, rfl, _, _, rfl, rfl, na, _, _, .str name, rfl, rfl, SqL.of S.names, eat, _, rfl, p, l, nl, name, ns.take (a + b + k), rfl, S.pool, S.nets, by omega, fun gad H6 g b6 hp6 hg gn gin gsh => ?_⟩
    have tk6 := pool_tupK S.pool b6
    have hg0 := hg
    obtain ⟨tb, gn1, rr, sa, hy1, hy2, hy3, hy4, hy5⟩ := hg0
    have hnl6 := PoolAt.but (l := l) b6 S.nets l1
    refine ⟨_, rfl, .inl ⟨rfl, _, SqL.of hnl6⟩, _, rfl, gad, _, 0, .str g.name, rfl, rfl, SqT.of hy1, atI_nat (j := 0) rfl, nl, _, _, rfl, rfl, hnl6, ?_, ?_⟩
    · rw [List.length_map, htl]; exact szlt (by omega)
    obtain ⟨ga, gs, h1, h2, h3⟩ := S.gates
    have hgp7 := PoolAt.but (l := l) b6 h1 g1
    have hgp8 : (upd H6 nl (.lst ((ns.take (a + b + k)).map V.str ++ [.str g.name]))) gp = some (.lst (ga.map V.ref)) := by rw [upd_ne n3]; exact hgp7
    have tk7 : TupK H6 (upd H6 nl (.lst ((ns.take (a + b + k)).map V.str ++ [.str g.name]))) := lst_tupK hnl6
    have hp7 := hp6.upd (o := .lst ((ns.take (a + b + k)).map V.str ++ [.str g.name])) l1 l2
    have b7 := (S.but.trans b6).mutN (o := .lst ((ns.take (a + b + k)).map V.str ++ [.str g.name])) nlH
    have hna7 : (upd H6 nl (.lst ((ns.take (a + b + k)).map V.str ++ [.str g.name]))) na = some (.lst (ns.map V.str)) := by rw [upd_ne n1.symm]; exact PoolAt.but (l := l) b6 S.names a1
    have hnl7 : (upd H6 nl (.lst ((ns.take (a + b + k)).map V.str ++ [.str g.name]))) nl = some (.lst ((ns.take (a + b + (k + 1))).map V.str)) := by
      rw [upd_same, show a + b + (k + 1) = (a + b + k) + 1 by omega, take_snoc en, List.map_append, gn]
      rfl
    have hg7 := hg.keep tk7
    have hgs7 := Paired.mapP h2 fun x y (z : GateAt H5 x y) => (z.keep tk6).keep tk7
    have lga : ga.length ≤ 6 := by
      rw [Paired.length h2, ← h3.length_eq, S.len]; omega
    clear hy1 hy2 hy3 hy4 hy5 hg hgp7 tk7 tk6 hnl6 h2
    generalize upd H6 nl (.lst ((ns.take (a + b + k)).map V.str ++ [.str g.name])) = H7 at hgp8 hp7 b7 hna7 hnl7 hg7 hgs7 ⊢
    refine ⟨_, rfl, .inl ⟨rfl, _, SqL.of hgp8⟩, _, rfl, _, rfl, gp, _, rfl, .inl (SqL.of hgp8), _, 1, rfl, rfl, p, l, _, rfl, hp7, (by rw [List.length_map]; omega), (by rw [List.length_map]; omega), fun ix H8 b8 hp8 i0 i1 => ?_⟩
    rw [List.length_map] at i1
    have tk8 := pool_tupK hp7 b8
    have hgp9 := PoolAt.but (l := l) b8 hgp8 g1
    refine ⟨_, rfl, gp, _, ix, .ref gad, rfl, rfl, hgp9, ?_, i0, by omega, ?_⟩
    · rw [List.length_map]; exact szlt (by omega)
    have tk9 : TupK H8 (upd H8 gp (.lst ((ga.map V.ref).take ix.toNat ++ [.ref gad] ++ (ga.map V.ref).drop ix.toNat))) := lst_tupK hgp9
    have hgs9 := Paired.mapP hgs7 fun x y (z : GateAt H7 x y) => (z.keep tk8).keep tk9
    refine ⟨_, _, ord ++ [g], rfl, (b7.trans b8).mutN gpH, hp8.upd g1 g2, ?_, ?_, ⟨ga.take ix.toNat ++ [gad] ++ ga.drop ix.toNat, gs.take ix.toNat ++ [g] ++ gs.drop ix.toNat, ?_, ?_, ?_⟩, ?_, ?_⟩
    · rw [upd_ne n2.symm]; exact PoolAt.but (l := l) b8 hna7 a1
    · rw [upd_ne n3.symm]; exact PoolAt.but (l := l) b8 hnl7 l1
    · rw [upd_same, List.map_append, List.map_append, List.map_take, List.map_drop]; rfl
    · exact paired_app (paired_app (paired_take hgs9 _) (.cons ((hg7.keep tk8).keep tk9) .nil)) (paired_drop hgs9 _)
    · have e1 : (gs.take ix.toNat ++ [g] ++ gs.drop ix.toNat).Perm (gs ++ [g]) := by
        rw [List.append_assoc]
        refine List.Perm.trans (List.Perm.append_left _ List.perm_append_comm) ?_
        rw [← List.append_assoc, List.take_append_drop]
      exact (h3.append_right [g]).trans e1.symm
    · rw [List.length_append, S.len]; rfl
    · intro i x hx
      by_cases hi : i < ord.length
      · rw [List.getElem?_append_left hi] at hx
        exact S.told i x hx
      · rw [List.getElem?_append_right (by omega)] at hx
        have hz : i - ord.length = 0 := by
          have := (List.getElem?_eq_some_iff.mp hx).1
          simp at this
          omega
        rw [hz] at hx
        have hx' := Option.some.inj hx
        have hik : i = k := by have := S.len; omega
        rw [← hx', hik, gn]
        exact ⟨en, gsh, gin⟩
  rintro σ H5 ⟨y7, y8, ord, rfl, S⟩
  obtain ⟨ga, gs, h1, h2, h3⟩ := S.gates
  have hol : ord.length ≤ 6 := by have := S.len; omega
  have W := wf_of hnd (by have := S.len; omega) h3 S.told hol (by omega : a + b ≤ 5)
  refine ⟨Nat.zero_le _, fun rp nrp => ?_⟩
  have sr := same_new (o := .lst []) nrp
  have rpH : H rp = none := S.but.free S.pool nrp
  obtain ⟨r1, r2⟩ := hp.new rpH
  have m1' : na ≠ rp := ne_of_none S.names nrp
  have m2' : nl ≠ rp := ne_of_none S.nets nrp
  have m3' : gp ≠ rp := ne_of_none h1 nrp
  refine ⟨_, rfl, (b : Int), rfl, by omega, by omega, ?_⟩
  rw [Int.toNat_natCast]
  refine for_range (fun k σ H6 => ∃ y7 y8 y10 y11 ra, σ = [some (.ref p), some (.int a), some (.int b), some (.int 6), some (.ref na), some (.ref nl), some (.ref gp), y7, y8, some (.ref rp), y10, y11] ∧ But [p] H H6 ∧ PoolAt H6 p l ∧ H6 na = some (.lst (ns.map V.str)) ∧ H6 nl = some (.lst ((ns.take (a + b + m.toNat)).map V.str)) ∧
      H6 gp = some (.lst (ga.map V.ref)) ∧ Paired (GateAt H6) ga gs ∧ H6 rp = some (.lst (ra.map V.ref)) ∧ Paired (RegAt H6) ra ((ns.drop a).take k))
    ⟨y7, y8, none, none, [], rfl, S.but.trans (Same.but _ sr), S.pool.keep sr, sr _ _ S.names, sr _ _ S.nets, sr _ _ h1, Paired.mapP h2 fun x y z => z.keep sr.tupK, upd_same, .nil⟩ ?_ ?_
  · rintro k σ H6 hk ⟨y7, y8, y10, y11, ra, rfl, b6, hp6, hna6, hnl6, hgp6, hgs6, hrp6, hra6⟩
    have htl : (ns.take (a + b + m.toNat)).length = a + b + m.toNat := by rw [List.length_take]; omega
    have enl : (((ns.take (a + b + m.toNat)).map V.str).length : Int) = ((a + b + m.toNat : Nat) : Int) := by rw [List.length_map, htl]
    refine ⟨_, rfl, _, rfl, nl, _, rfl, .inl (SqL.of hnl6), _, 1, rfl, rfl, _, rfl, _, rfl, nl, _, rfl, .inl (SqL.of hnl6), p, l, _, rfl, hp6, by omega, by omega, fun v H7 b7 hp7 v0 v1 => ?_⟩
    refine ⟨v, 2, rfl, rfl, ⟨by decide, by decide⟩, _, _, rfl, rfl, ?_⟩
    have hnl7 := PoolAt.but (l := l) b7 hnl6 l1
    obtain ⟨x, ex, _⟩ := atI_mem (xs := (ns.take (a + b + m.toNat)).map V.str) (v := (((ns.take (a + b + m.toNat)).map V.str).length : Int) - 1 - v / 2) (by omega) (by omega)
    refine ⟨nl, _, _, x, rfl, rfl, SqL.of hnl7, ex, ?_⟩
    refine ⟨_, rfl, p, l, rfl, hp7, fun ta H8 x0 x1 x2 x3 b8 hp8 hta => ?_⟩
    have hna8 := PoolAt.but (l := l) b8 (PoolAt.but (l := l) b7 hna6 a1) a1
    have hrp8 := PoolAt.but (l := l) b8 (PoolAt.but (l := l) b7 hrp6 r1) r1
    obtain ⟨name, en⟩ : ∃ name, ns[a + k]? = some name := ⟨_, List.getElem?_eq_getElem (by omega)⟩
    have eat : atI (ns.map V.str) ((a : Int) + (0 + (k : Int))) = some (.str name) := by
      rw [show (a : Int) + (0 + (k : Int)) = ((a + k : Nat) : Int) by omega]
      exact atI_map en
    have st := SqT.of (K := K) hta
    refine ⟨_, rfl, .inl ⟨rfl, _, SqL.of hrp8⟩, _, rfl, _, rfl, _, rfl, a, _, rfl, rfl, na, _, _, .str name, rfl, rfl, SqL.of hna8, eat, _, rfl, _, rfl, ta, _, 0, x0, rfl, rfl, st, atI_nat (j := 0) rfl, _, rfl, ta, _, 1, x1, rfl, rfl, st, atI_nat (j := 1) rfl, _, rfl, ta, _, 2, x2, rfl, rfl, st, atI_nat (j := 2) rfl, _, rfl, ta, _, 3, x3, rfl, rfl, st, atI_nat (j := 3) rfl, _, rfl, p, l, 2, rfl, hp8, by decide, by decide, fun u H9 b9 hp9 _ _ => ⟨rfl, szl (n := 7) (by decide), fun ro nro => ?_⟩⟩
    have s10 := same_new (o := .tup [.str name, x, x0, x1, x2, x3, .bl (decide (V.int u = V.int 1))]) nro
    have hrp9 := PoolAt.but (l := l) b9 hrp8 r1
    have hrp10 := s10 _ _ hrp9
    have lra : ra.length ≤ 2 := by
      rw [Paired.length hra6, List.length_take]; omega
    refine ⟨rp, _, _, rfl, rfl, hrp10, ?_, ?_⟩
    · rw [List.length_map]; exact szlt (by omega)
    have tk : TupK H6 H9 := fun b' xs e => pool_tupK hp8 b9 _ _ (pool_tupK hp7 b8 _ _ (pool_tupK hp6 b7 _ _ e))
    have tk2 : TupK H6 (upd (upd H9 ro (.tup [.str name, x, x0, x1, x2, x3, .bl (decide (V.int u = V.int 1))])) rp (.lst (ra.map V.ref ++ [.ref ro]))) := fun b' xs e => lst_tupK hrp10 _ _ (s10.tupK _ _ (tk _ _ e))
    refine ⟨_, _, _, _, ra ++ [ro], rfl, ((((b6.trans b7).trans b8).trans b9).trans (Same.but _ s10)).mutN rpH, (hp9.keep s10).upd r1 r2, ?_, ?_, ?_, Paired.mapP hgs6 fun x y z => z.keep tk2, ?_, ?_⟩
    · rw [upd_ne m1']; exact s10 _ _ (PoolAt.but (l := l) b9 hna8 a1)
    · rw [upd_ne m2']; exact s10 _ _ (PoolAt.but (l := l) b9 (PoolAt.but (l := l) b8 hnl7 l1) l1)
    · rw [upd_ne m3']; exact s10 _ _ (PoolAt.but (l := l) b9 (PoolAt.but (l := l) b8 (PoolAt.but (l := l) b7 hgp6 g1) g1) g1)
    · rw [upd_same, List.map_append]; rfl
    · have ek : (ns.drop a)[k]? = some name := by rw [List.getElem?_drop]; exact en
      rw [take_snoc ek]
      exact Paired.snoc (Paired.mapP hra6 fun x y z => z.keep tk2) ⟨_, lst_tupK hrp10 _ _ upd_same⟩
  · rintro σ H6 ⟨y7, y8, y10, y11, ra, rfl, b6, hp6, hna6, hnl6, hgp6, hgs6, hrp6, hra6⟩
    have ecut2 : cutV (ns.map V.str) none (some (a : Int)) = (ns.take a).map V.str := by rw [cutV_take, List.map_take]
    refine ⟨_, rfl, _, rfl, _, rfl, na, _, rfl, SqL.of hna6, fun s2 ns2 => ?_⟩
    rw [ecut2]
    refine ⟨s2, _, rfl, .inl ⟨SqL.of upd_same, fun it nit => ?_⟩⟩
    have t1 := (same_new (o := .lst ((ns.take a).map V.str)) ns2).trans (same_new (o := .tup ((ns.take a).map V.str)) nit)
    refine ⟨_, rfl, gp, _, rfl, .inl ⟨SqL.of (t1 _ _ hgp6), fun gt ngt => ?_⟩⟩
    have t2 := t1.trans (same_new (o := .tup (ga.map V.ref)) ngt)
    refine ⟨_, rfl, rp, _, rfl, .inl ⟨SqL.of (t2 _ _ hrp6), fun rt nrt => ?_⟩⟩
    have t3 := t2.trans (same_new (o := .tup (ra.map V.ref)) nrt)
    refine ⟨Nat.zero_le _, fun et net => ⟨szl (n := 4) (by decide), fun c nc => ?_⟩⟩
    have u1 := same_new (o := .tup []) net
    have u2 := same_new (o := .tup [.ref it, .ref gt, .ref rt, .ref et]) nc
    have t5 := t3.trans (u1.trans u2)
    refine q c _ ⟨ns.take a, gs, (ns.drop a).take b⟩ ord (b6.trans (Same.but _ t5)) (hp6.keep t5) ⟨it, gt, rt, et, ga, ra, upd_same, ?_, ?_, Paired.mapP hgs6 fun x y z => z.keep t5.tupK, ?_, Paired.mapP hra6 fun x y z => z.keep t5.tupK⟩ W
    · exact u2 _ _ (u1 _ _ (same_new nrt _ _ (same_new ngt _ _ upd_same)))
    · exact u2 _ _ (u1 _ _ (same_new nrt _ _ upd_same))
    · exact u2 _ _ (u1 _ _ upd_same)
end
end L2.Sg

/-! the law's same, waves -/
namespace L2.Sg
open PySem PySem.Spec PyProof.Rows L2.Lx ClX
abbrev s_law_same : Stmt := topS 34
theorem sc_law_same : FnScope ["_law_actual", "_law_due", "_law_k"] ["_law_actual", "_law_due"] (defScope s_law_same) := ⟨rfl, rfl, rfl, by decide +kernel, rfl, by decide +kernel, by decide +kernel⟩
abbrev s_law_wave : Stmt := topS 59
theorem sc_law_wave : FnScope ["_law_pool_here", "_law_window_here", "_law_value_here", "_law_bits", "_law_time", "_law_before", "_law_after"] ["_law_pool_here", "_law_window_here", "_law_value_here"] (defScope s_law_wave) := ⟨rfl, rfl, rfl, by decide +kernel, rfl, by decide +kernel, by decide +kernel⟩

/-- a classmethod that is called with all its keywords -/
structure CMOk (P : Program) (w : World) (K : PySem.W.Frag) (mg : Str → Option Value) (base : Heap) (x : Str) (C : Addr) (m : Str) (k n : Nat) (ps ks : List Str) (sp : Sp) : Prop where
  ex : ∃ (g p : Addr) (mc : Value) (fd : FuncData), FnOk P w K mg base CX0 k g fd ps sp ∧ CRead K C mc ∧ CMet K C mc m p g ∧ KBn K fd ps (n + 1) ks (fun us ws => us ++ ws) (fun vs zs => vs ++ zs)
  mgC : mg x = some (.ref C)
theorem wCMethK {P : Program} {w : World} {K : PySem.W.Frag} {mg : Str → Option Value} {base : Heap} {X : Cx} {x m : Str} {C : Addr} {k n : Nat} {ps ks : List Str} {sp : Sp} {o e : Expr} {es : List Expr} {kws : List Keyword} {t tk : TA} {pos apos : Pos} {ta : TE} {pl : Sem Bool}
    (D : CMOk P w K mg base x C m k n ps ks sp) (ho : PE X o ta) (hr : Room k X.A) (ha : PA X (e :: es) t) (hkw : PK X kws tk) (hP : X.prog = P := by rfl) (hw : X.w = w := by rfl) (hK : X.K = K := by rfl) (hmg : X.mg = mg := by rfl) (hbase : X.base = base := by rfl)
    (hall : (backToKw pos (keywordEach kws X.env)).all (·.1.isSome) = true := by rfl) (hks : (backToKw pos (keywordEach kws X.env)).filterMap (·.1) = ks := by rfl)
    (hst : starEach (e :: es) X.env = (false, eval e X.env) :: starEach es X.env := by rfl)
    (hpl : ((backTo pos (starEach (e :: es) X.env)).any (·.1) || (backToKw pos (keywordEach kws X.env)).any (·.1.isNone)) = false := by rfl)
    (ht : eval (.Call (.Attribute o m apos) (e :: es) kws pos) X.env = (do
      let ov ← eval o X.env
      standAt apos.atName
      let (f, first) ← holding [ov] (getMethod ov m pl)
      callWith pos f first (backTo pos (starEach (e :: es) X.env)) (backToKw pos (keywordEach kws X.env))) := by rfl) :
    PE X (.Call (.Attribute o m apos) (e :: es) kws pos) (tCMethK C n ks.length sp (fun vs zs => vs ++ zs) E0 ta t tk) := by
  subst hP hw hK hmg hbase
  obtain ⟨g, p, mc, fd, F, r, c, hb⟩ := D.ex
  exact pe_cmethK (GV := fun vs zs => vs ++ zs) (G := fun us ws => us ++ ws) ho r c F hr hb pass0 ha hkw hall hks hst hpl ht
section
variable {P : Program} {w : World} {K : PySem.W.Frag} {mg : Str → Option Value} {base : Heap} {f : Addr} {fd : FuncData} {CW : Addr}
def spSame : Sp := fun vs H Q _ => ∃ a b : Bool, vs = [.bl a, .bl b] ∧ (a = b → Q (.bl true) H) ∧ (a ≠ b → Q (.bl false) H)
theorem ok_same (F : Fun K "_law_same" "_law_same" s_law_same f fd) (B : Bt mg) (D__law_same : Ok P w K mg base "_law_same" 1 ["_law_actual", "_law_due"] spNo) : FnOk P w K mg base CX0 2 f fd ["_law_actual", "_law_due"] spSame := by
  refine F.ok sc_law_same (fun vs H Q E h => ?_) (fun cdv A outer s H vs Q E hr h => ?_)
  · obtain ⟨_, _, rfl, _⟩ := h
    rfl
  obtain ⟨a, b, rfl, q1, q2⟩ := h
  refine ⟨_, (pss_cons (ps_if (PW.pt (pw_or (pt_val (pe_callB (cIsi K) (by rfl) B.isinstance_ boot_isi' (pa_cons (pv 1) (pa_cons (pe_bltn (v := .ty "tuple") (by rfl) B.tuple_ boot_tuple' rfl) pa_nil)))) (pw_or1 (pt_val (pe_callB (cIsi K) (by rfl) B.isinstance_ boot_isi' (pa_cons (pv 1) (pa_cons (pe_bltn (v := .ty "list") (by rfl) B.list_ boot_list' rfl) pa_nil))))))) (pss_cons (ps_if (PW.pt (pw_or (pt_cmpR op_ne (pe_callB (cIsi K) (by rfl) B.isinstance_ boot_isi' (pa_cons (pv 1) (pa_cons (pe_bltn (v := .ty "tuple") (by rfl) B.tuple_ boot_tuple' rfl) pa_nil))) (pe_callB (cIsi K) (by rfl) B.isinstance_ boot_isi' (pa_cons (pv 0) (pa_cons (pe_bltn (v := .ty "tuple") (by rfl) B.tuple_ boot_tuple' rfl) pa_nil))) (nomark _)) (pw_or1 (pt_cmpR op_ne (pe_callB (cIsi K) (by rfl) B.isinstance_ boot_isi' (pa_cons (pv 1) (pa_cons (pe_bltn (v := .ty "list") (by rfl) B.list_ boot_list' rfl) pa_nil))) (pe_callB (cIsi K) (by rfl) B.isinstance_ boot_isi' (pa_cons (pv 0) (pa_cons (pe_bltn (v := .ty "list") (by rfl) B.list_ boot_list' rfl) pa_nil))) (nomark _))))) (pss_one (ps_ret pe_bl)) pss_nil)
      (pss_cons (ps_if (pt_cmpR op_ne (pe_callB (cLen K) (by rfl) B.len_ PySem.boot_len (pa_cons (pv 0) pa_nil)) (pe_callB (cLen K) (by rfl) B.len_ PySem.boot_len (pa_cons (pv 1) pa_nil)) (nomark _)) (pss_one (ps_ret pe_bl)) pss_nil)
      (pss_cons (ps_for PassesOwn.never rfl (pi_range1 rfl B.range_ (pa_cons (pe_callB (cLen K) (by rfl) B.len_ PySem.boot_len (pa_cons (pv 1) pa_nil)) pa_nil)) (pg_name (i := 2) sc_law_same.nd rfl (Or.inl rfl)) (pss_one (ps_if (pt_not (pt_val (wCall D__law_same (hr.mono (by first | decide | omega)) (pa_cons (wIxL K (pv 0) (pv 2)) (pa_cons (wIxL K (pv 1) (pv 2)) pa_nil))))) (pss_one (ps_ret pe_bl)) pss_nil)))
      (pss_one (ps_ret pe_bl))))) pss_nil)
      (pss_cons (ps_if (pt_cmp (pc_isN (pv 1)) rfl) (pss_one (ps_ret (pe_cmp (pc_isN (pv 0)) rfl))) pss_nil)
      (pss_cons (ps_if (pt_val (pe_callB (cIsi K) (by rfl) B.isinstance_ boot_isi' (pa_cons (pv 1) (pa_cons (pe_bltn (v := .ty "bool") (by rfl) B.bool_ boot_bool' rfl) pa_nil)))) (pss_one (ps_ret (pe_and (pe_callB (cIsi K) (by rfl) B.isinstance_ boot_isi' (pa_cons (pv 0) (pa_cons (pe_bltn (v := .ty "bool") (by rfl) B.bool_ boot_bool' rfl) pa_nil))) (pe_one (pe_cmpR op_eq (pv 0) (pv 1) (nomark _)))))) pss_nil)
      (pss_cons (ps_if (pt_val (pe_callB (cIsi K) (by rfl) B.isinstance_ boot_isi' (pa_cons (pv 1) (pa_cons (pe_bltn (v := .ty "int") (by rfl) B.int_ boot_int' rfl) pa_nil)))) (pss_one (ps_ret (pe_and (pe_callB (cIsi K) (by rfl) B.isinstance_ boot_isi' (pa_cons (pv 0) (pa_cons (pe_bltn (v := .ty "int") (by rfl) B.int_ boot_int' rfl) pa_nil))) (pe_and (pe_not (pe_callB (cIsi K) (by rfl) B.isinstance_ boot_isi' (pa_cons (pv 0) (pa_cons (pe_bltn (v := .ty "bool") (by rfl) B.bool_ boot_bool' rfl) pa_nil)))) (pe_one (pe_cmpR op_eq (pv 0) (pv 1) (nomark _))))))) pss_nil)
      (pss_one (ps_ret (pe_and (pe_callB (cIsi K) (by rfl) B.isinstance_ boot_isi' (pa_cons (pv 0) (pa_cons (pe_bltn (v := .ty "str") (by rfl) B.str_ boot_str' rfl) pa_nil))) (pe_one (pe_cmpR op_eq (pv 0) (pv 1) (nomark _)))))))))), ?_⟩
  have ta : TyX K H (.bl a) (.type "bool") := .base (.bl a)
  have tb : TyX K H (.bl b) (.type "bool") := .base (.bl b)
  have isi : ∀ (n : String) (r : Bool), kitB "bool" n = some r → PySem.W.kitOne K (.type "bool") (.type n) = some r := fun n r h => kit_ty h
  refine ⟨_, rfl, _, .ty "tuple", _, _, false, rfl, .ty _, tb, isi _ _ (by decide +kernel), _, rfl, ite2 (fun h => by cases h) (fun _ => ?_)⟩
  refine ⟨_, rfl, _, .ty "list", _, _, false, rfl, .ty _, tb, isi _ _ (by decide +kernel), _, rfl, ite2 (fun h => by cases h) (fun _ => ?_)⟩
  refine ⟨_, rfl, _, rfl, ite2 (fun h => nomatch of_decide_eq_true h) (fun _ => ?_)⟩
  refine ⟨_, rfl, _, .ty "bool", _, _, true, rfl, .ty _, tb, isi _ _ (by decide +kernel), _, rfl, ite2 (fun _ => ?_) (fun h => absurd rfl h)⟩
  refine ⟨_, rfl, _, .ty "bool", _, _, true, rfl, .ty _, ta, isi _ _ (by decide +kernel), _, rfl, ite2 (fun _ => ?_) (fun h => absurd rfl h)⟩
  refine ⟨_, rfl, _, rfl, rfl, ?_⟩
  by_cases e : a = b
  · subst e
    rw [decide_eq_true rfl]
    exact q1 rfl
  · rw [decide_eq_false fun z => e (V.bl.inj z)]
    exact q2 e
theorem ok_same_no (F : Fun K "_law_same" "_law_same" s_law_same f fd) : FnOk P w K mg base CX0 1 f fd ["_law_actual", "_law_due"] spNo :=
  F.ok sc_law_same (fun vs H Q E h => h.elim) (fun cdv A outer s H vs Q E hr h => h.elim)
def spWave (CW : Addr) : Sp := fun vs H Q _ => ∃ (p l wa : Addr) (v : Bool) (wn : Win), vs = [.ref p, .ref wa, .bl v] ∧ PoolAt H p l ∧ WinAt H wa wn ∧ (∀ s, wn.1 = some s → -3 ≤ s) ∧ (∀ u, wn.2 = some u → u ≤ 28) ∧
  ∀ x H' fw, But [p] H H' → PoolAt H' p l → WvIs CW H' x fw → (∀ t, inW wn t = true → fw t = v) → Q (.ref x) H'
theorem ok_wave (F : Fun K "_law_wave" "_law_wave" s_law_wave f fd) (B : Bt mg) (D__law_draw : Ok P w K mg base "_law_draw" 2 ["_law_pool_here", "_law_many"] spDraw) (D__law_inside : Ok P w K mg base "_law_inside" 1 ["_law_window_here", "_law_time"] spInside)
    (D_of_bits : CMOk P w K mg base "Waveform" CW "of_bits" 3 2 ["cls", "first", "bits", "before", "after"] ["before", "after"] (spOfBits CW)) : FnOk P w K mg base CX0 4 f fd ["_law_pool_here", "_law_window_here", "_law_value_here"] (spWave CW) := by
  refine F.ok sc_law_wave (fun vs H Q E h => ?_) (fun cdv A outer s H vs Q E hr h => ?_)
  · obtain ⟨_, _, _, _, _, rfl, _⟩ := h
    rfl
  obtain ⟨p, l, wa, v, wn, rfl, hp, hw, w1, w2, q⟩ := h
  refine ⟨_, (pss_cons (ps_set (i := 3) sc_law_wave.nd rfl (Or.inl rfl) (pe_lst pa_nil))
      (pss_cons (ps_for PassesOwn.never rfl (pi_range2 rfl B.range_ (pa_cons (pe_un un_neg pe_int) (pa_cons pe_int pa_nil))) (pg_name (i := 4) sc_law_wave.nd rfl (Or.inl rfl)) (pss_one (ps_expr (pe_bm PySem.F.plainAttrs_list PySem.F.slot_list_append PySem.F.type_list_append mt_append (pv 3) (pa_cons (pe_ifExp (pt_val (wCall D__law_inside (hr.mono (by first | decide | omega)) (pa_cons (pv 1) (pa_cons (pv 4) pa_nil)))) (pv 2) (pe_cmpR op_eq (wCall D__law_draw (hr.mono (by first | decide | omega)) (pa_cons (pv 0) (pa_cons pe_int pa_nil))) pe_int (nomark _))) pa_nil)))))
      (pss_cons (ps_set (i := 5) sc_law_wave.nd rfl (Or.inl rfl) (pe_ifExp (pt_cmp (pc_isN (wIxT K (pv 1) pe_int)) rfl) (pv 2) (pe_cmpR op_eq (wCall D__law_draw (hr.mono (by first | decide | omega)) (pa_cons (pv 0) (pa_cons pe_int pa_nil))) pe_int (nomark _))))
      (pss_cons (ps_set (i := 6) sc_law_wave.nd rfl (Or.inl rfl) (pe_ifExp (pt_cmp (pc_isN (wIxT K (pv 1) pe_int)) rfl) (pv 2) (pe_cmpR op_eq (wCall D__law_draw (hr.mono (by first | decide | omega)) (pa_cons (pv 0) (pa_cons pe_int pa_nil))) pe_int (nomark _))))
      (pss_one (ps_ret (wCMethK D_of_bits (pe_glob (v := .ref _) (by rfl) D_of_bits.mgC rfl) (hr.mono (by first | decide | omega)) (pa_cons (pe_un un_neg pe_int) (pa_cons (pv 3) pa_nil)) (pk_cons (pv 5) (pk_cons (pv 6) pk_nil))))))))), ?_⟩
  have hwp : wa ≠ p := fun z => by
    obtain ⟨_, _, _, _, z1, _⟩ := hp
    unfold WinAt at hw
    rw [z, z1] at hw
    cases hw
  refine ⟨Nat.zero_le _, fun bp nbp => ?_⟩
  obtain ⟨d1, d2⟩ := hp.new nbp
  refine ⟨60, rfl, -60, 80, rfl, ⟨by decide, by decide, by decide, by decide⟩, ?_⟩
  refine for_range (fun k σ H1 => ∃ y4 bs, σ = [some (.ref p), some (.ref wa), some (.bl v), some (.ref bp), y4, none, none] ∧ But [p] H H1 ∧ PoolAt H1 p l ∧ H1 bp = some (.lst (bs.map V.bl)) ∧ bs.length = k ∧ ∀ (j : Nat) b, bs[j]? = some b → inW wn (-60 + (j : Int)) = true → b = v)
    ⟨none, [], rfl, But.new nbp, hp.upd d1 d2, upd_same, rfl, fun j b h => by simp at h⟩ ?_ ?_
  · rintro k σ H1 hk ⟨y4, bs, rfl, b1, hp1, hb1, hl, hin⟩
    have hk' : k < 140 := hk
    have hw1 : WinAt H1 wa wn := PoolAt.but (l := l) b1 hw hwp
    refine ⟨_, rfl, .inl ⟨rfl, _, SqL.of hb1⟩, _, rfl, _, rfl, wa, wn, _, rfl, hw1, _, rfl, ite2 (fun hi => ⟨_, rfl, ?_⟩) (fun hi => ⟨_, rfl, p, l, 2, rfl, hp1, by decide, by decide, fun u H2 b2 hp2 _ _ => ⟨rfl, ?_⟩⟩)⟩
    · refine ⟨bp, _, _, rfl, rfl, hb1, ?_, _, bs ++ [v], rfl, b1.mutN nbp, hp1.upd d1 d2, ?_, ?_, fun j b hj hw' => ?_⟩
      · rw [List.length_map]; exact szlt (by omega)
      · rw [upd_same, List.map_append]; rfl
      · rw [List.length_append, hl]; rfl
      · by_cases hjl : j < bs.length
        · rw [List.getElem?_append_left hjl] at hj
          exact hin j b hj hw'
        · rw [List.getElem?_append_right (by omega)] at hj
          have := List.mem_of_getElem? hj
          exact List.mem_singleton.mp this
    · have hb2 := PoolAt.but (l := l) b2 hb1 d1
      refine ⟨bp, _, _, rfl, rfl, hb2, ?_, _, bs ++ [decide (V.int u = V.int 1)], rfl, (b1.trans b2).mutN nbp, hp2.upd d1 d2, ?_, ?_, fun j b hj hw' => ?_⟩
      · rw [List.length_map]; exact szlt (by omega)
      · rw [upd_same, List.map_append]; rfl
      · rw [List.length_append, hl]; rfl
      · by_cases hjl : j < bs.length
        · rw [List.getElem?_append_left hjl] at hj
          exact hin j b hj hw'
        · rw [List.getElem?_append_right (by omega)] at hj
          have hz := (List.getElem?_eq_some_iff.mp hj).1
          simp at hz
          have ej : j = k := by omega
          rw [ej] at hw'
          exact absurd hw' hi
  rintro σ H1 ⟨y4, bs, rfl, b1, hp1, hb1, hl, hin⟩
  have hl' : bs.length = 140 := hl
  have isN : ∀ x : Option Int, decide (wV x = V.non) = true → x = none := fun x h => by
    cases x with
    | none => rfl
    | some i => exact nomatch of_decide_eq_true h
  -- the end
  have fin : ∀ (b0 b2 : Bool) (H2 : Hp), But [p] H1 H2 → PoolAt H2 p l → (wn.1 = none → b0 = v) → (wn.2 = none → b2 = v) → spOfBits CW [.ref CW, .int (-60), .ref bp, .bl b0, .bl b2] H2 Q E := fun b0 b2 H2 bb hp2 e0 e2 => by
    have hb2 := PoolAt.but (l := l) bb hb1 d1
    refine ⟨bp, -60, bs, b0, b2, rfl, hb2, by omega, fun x H' chs s' nx hwv hcl hval => ?_⟩
    refine q x H' (bitAt (-60) bs b0 b2) ((b1.trans bb).trans (Same.but _ s')) (hp2.keep s') ⟨b0, chs, hwv, hcl, hval⟩ fun t ht => ?_
    unfold bitAt
    rw [hl']
    unfold inW at ht
    rw [Bool.and_eq_true] at ht
    by_cases c1 : t < -60
    · rw [show min (t - -60 + 1).toNat (140 + 1) = 0 by omega]
      show b0 = v
      apply e0
      cases e : wn.1 with
      | none => rfl
      | some s =>
        rw [e] at ht
        have := of_decide_eq_true ht.1
        have := w1 s e
        omega
    · by_cases c2 : t < 80
      · have hz : min (t - -60 + 1).toNat (140 + 1) = (t + 60).toNat + 1 := by omega
        rw [hz, List.getD_cons_succ, List.getD_eq_getElem?_getD, List.getElem?_append_left (by omega), List.getElem?_eq_getElem (by omega)]
        refine hin (t + 60).toNat _ (List.getElem?_eq_getElem (by omega)) ?_
        rw [show -60 + (((t + 60).toNat : Nat) : Int) = t by omega]
        unfold inW
        rw [Bool.and_eq_true]
        exact ht
      · have hz : min (t - -60 + 1).toNat (140 + 1) = 140 + 1 := by omega
        rw [hz, List.getD_cons_succ, List.getD_eq_getElem?_getD, List.getElem?_append_right (by omega), hl']
        show b2 = v
        apply e2
        cases e : wn.2 with
        | none => rfl
        | some u =>
          rw [e] at ht
          have := of_decide_eq_true ht.2
          have := w2 u e
          omega
  have hw1 : WinAt H1 wa wn := PoolAt.but (l := l) b1 hw hwp
  refine ⟨_, rfl, wa, _, 0, wV wn.1, rfl, rfl, SqT.of hw1, atI_nat (j := 0) rfl, _, rfl, ite2 (fun h0 => ⟨_, rfl, ?_⟩) (fun h0 => ⟨_, rfl, p, l, 2, rfl, hp1, by decide, by decide, fun u H2 b2 hp2 _ _ => ⟨rfl, ?_⟩⟩)⟩
  · refine ⟨_, rfl, wa, _, 1, wV wn.2, rfl, rfl, SqT.of hw1, atI_nat (j := 1) rfl, _, rfl, ite2 (fun h2 => ⟨_, rfl, ?_⟩) (fun h2 => ⟨_, rfl, p, l, 2, rfl, hp1, by decide, by decide, fun u H2 b2 hp2 _ _ => ⟨rfl, ?_⟩⟩)⟩
    · exact ⟨rfl, 60, rfl, _, rfl, _, rfl, _, rfl, rfl, rfl, fin v v H1 (But.refl _ _) hp1 (fun _ => rfl) (fun _ => rfl)⟩
    · exact ⟨rfl, 60, rfl, _, rfl, _, rfl, _, rfl, rfl, rfl, fin v _ H2 b2 hp2 (fun _ => rfl) (fun e => absurd (by rw [e]; exact decide_eq_true rfl) h2)⟩
  · have hw2 : WinAt H2 wa wn := PoolAt.but (l := l) b2 hw1 hwp
    refine ⟨_, rfl, wa, _, 1, wV wn.2, rfl, rfl, SqT.of hw2, atI_nat (j := 1) rfl, _, rfl, ite2 (fun h2 => ⟨_, rfl, ?_⟩) (fun h2 => ⟨_, rfl, p, l, 2, rfl, hp2, by decide, by decide, fun u2 H3 b3 hp3 _ _ => ⟨rfl, ?_⟩⟩)⟩
    · exact ⟨rfl, 60, rfl, _, rfl, _, rfl, _, rfl, rfl, rfl, fin _ v H2 b2 hp2 (fun e => absurd (by rw [e]; exact decide_eq_true rfl) h0) (fun _ => rfl)⟩
    · exact ⟨rfl, 60, rfl, _, rfl, _, rfl, _, rfl, rfl, rfl, fin _ _ H3 (b2.trans b3) hp3 (fun e => absurd (by rw [e]; exact decide_eq_true rfl) h0) (fun e => absurd (by rw [e]; exact decide_eq_true rfl) h2)⟩
end
end L2.Sg

/-! the law's delays -/
namespace L2.Sg
open PySem PySem.Spec PyProof.Rows L2.Lx
abbrev s_law_delays : Stmt := topS 56
theorem sc_law_delays : FnScope ["_law_pool_here", "_law_circuit_here", "_law_most", "_law_rows", "_law_gate_here", "_law_row", "_law_span_here", "_law_k"] ["_law_pool_here", "_law_circuit_here", "_law_most"] (defScope s_law_delays) := ⟨rfl, rfl, rfl, by decide +kernel, rfl, by decide +kernel, by decide +kernel⟩

theorem pool_ref {H H' : Hp} {p l a : Addr} {ys : List Addr} (x : PoolAt H p l) (b : But [p] H H') (e : H a = some (.lst (ys.map V.ref))) : H' a = some (.lst (ys.map V.ref)) := b _ _ e fun z => by
  obtain ⟨_, _, _, _, z1, _⟩ := x
  rw [List.mem_singleton.mp z, z1] at e
  injection e with e
  injection e with e
  cases ys with
  | nil => cases e
  | cons a r =>
    injection e with _ e
    cases r with
    | nil => cases e
    | cons a r => injection e with e _; cases e
theorem pool_int {H H' : Hp} {p l a : Addr} {ys : List Int} (x : PoolAt H p l) (b : But [p] H H') (e : H a = some (.lst (ys.map V.int))) : H' a = some (.lst (ys.map V.int)) := b _ _ e fun z => by
  obtain ⟨_, _, _, _, z1, _⟩ := x
  rw [List.mem_singleton.mp z, z1] at e
  injection e with e
  injection e with e
  cases ys with
  | nil => cases e
  | cons a r => injection e with e _; cases e
theorem DelAt.pool {H H' : Hp} {p l d : Addr} {D : Dl} (x : DelAt H d D) (pl : PoolAt H p l) (b : But [p] H H') : DelAt H' d D := by
  obtain ⟨ra, h, q⟩ := x
  exact ⟨ra, pool_ref pl b h, Paired.mapP q fun _ _ ⟨pa, g1, g2⟩ => ⟨pa, pool_ref pl b g1, Paired.mapP g2 fun _ _ z => pool_int pl b z⟩⟩
section
variable {P : Program} {w : World} {K : PySem.W.Frag} {mg : Str → Option Value} {base : Heap} {f : Addr} {fd : FuncData}
def spDelays : Sp := fun vs H Q _ => ∃ (p l c : Addr) (C : Circ) (ord : List Gate), vs = [.ref p, .ref c, .int 6] ∧ PoolAt H p l ∧ CircAt H c C ∧ Wf C ord ∧ ∀ d H' D, But [p] H H' → PoolAt H' p l → DelAt H' d D → DelOk C D → Q (.ref d) H'
/-- a gate's rows, apart from the list at R -/
def RwN (H : Hp) (R a : Addr) (rows : List (List Int)) : Prop := ∃ pa : List Addr, H a = some (.lst (pa.map V.ref)) ∧ a ≠ R ∧ Paired (fun b row => RowAt H b row ∧ b ≠ R) pa rows
theorem RwN.keep {H H' : Hp} {p l R a : Addr} {rows : List (List Int)} (x : RwN H R a rows) (pl : PoolAt H p l) (b : But [p] H H') : RwN H' R a rows := by
  obtain ⟨pa, g1, g2, g3⟩ := x
  exact ⟨pa, pool_ref pl b g1, g2, Paired.mapP g3 fun _ _ ⟨z1, z2⟩ => ⟨pool_int pl b z1, z2⟩⟩
def RwOk (g : Gate) (rows : List (List Int)) : Prop := ∀ (k : Nat) sp row, g.spans[k]? = some sp → rows[k]? = some row → 0 < row.length ∧ row.length ≤ 6 ∧ ∀ d ∈ row, sp.1 ≤ d ∧ d ≤ sp.2
theorem ok_delays (F : Fun K "_law_delays" "_law_delays" s_law_delays f fd) (B : Bt mg) (D__law_draw : Ok P w K mg base "_law_draw" 2 ["_law_pool_here", "_law_many"] spDraw) : FnOk P w K mg base CX0 3 f fd ["_law_pool_here", "_law_circuit_here", "_law_most"] spDelays := by
  refine F.ok sc_law_delays (fun vs H Q E h => ?_) (fun cdv A outer s H vs Q E hr h => ?_)
  · obtain ⟨_, _, _, _, _, rfl, _⟩ := h
    rfl
  obtain ⟨p, l, c, C, ord, rfl, hp, hc, W, q⟩ := h
  refine ⟨_, (pss_cons (ps_set (i := 3) sc_law_delays.nd rfl (Or.inl rfl) (pe_lst pa_nil))
      (pss_cons (ps_for PassesOwn.never rfl (wForT K (wIxT K (pv 1) pe_int)) (pg_name (i := 4) sc_law_delays.nd rfl (Or.inl rfl)) (pss_cons (ps_set (i := 5) sc_law_delays.nd rfl (Or.inl rfl) (pe_lst pa_nil))
      (pss_cons (ps_for PassesOwn.never rfl (wForT K (wIxT K (pv 4) pe_int)) (pg_name (i := 6) sc_law_delays.nd rfl (Or.inr rfl)) (pss_one (ps_expr (pe_bm PySem.F.plainAttrs_list PySem.F.slot_list_append PySem.F.type_list_append mt_append (pv 5) (pa_cons (pe_lc (own := [("_law_k", 7)]) (g := (gName 7)) (tt := tYes) rfl sc_law_delays.nd (pi_range1 rfl B.range_ (pa_cons (pe_op op_add pe_int (wCall D__law_draw (hr.mono (by first | decide | omega)) (pa_cons (pv 0) (pa_cons (pv 2) pa_nil)))) pa_nil)) (blkOk_by (N := ["_law_pool_here", "_law_circuit_here", "_law_most", "_law_rows", "_law_gate_here", "_law_row", "_law_span_here", "_law_k"]) (sc := defScope s_law_delays) (by decide +kernel)) (fun _ _ _ _ _ => (pg_name (i := 7) sc_law_delays.nd rfl (Or.inl rfl))) (fun _ _ _ _ _ => pts_nil) (fun _ _ _ _ _ => (pe_op op_add (wIxT K (pv 6) pe_int) (wCall D__law_draw (hr.mono (by first | decide | omega)) (pa_cons (pv 0) (pa_cons (pe_op op_add (pe_op op_sub (wIxT K (pv 6) pe_int) (wIxT K (pv 6) pe_int)) pe_int) pa_nil)))))) pa_nil)))))
      (pss_one (ps_expr (pe_bm PySem.F.plainAttrs_list PySem.F.slot_list_append PySem.F.type_list_append mt_append (pv 3) (pa_cons (pv 5) pa_nil)))))))
      (pss_one (ps_ret (pv 3))))), ?_⟩
  have few := W.few
  obtain ⟨ci, cg, cr, co, ga, ra0, h1, h2, h3, h4, h5, h6⟩ := hc
  have lg := Paired.length h4
  refine ⟨Nat.zero_le _, fun R nR => ?_⟩
  obtain ⟨R1, R2⟩ := hp.new nR
  have sR := same_new (o := .lst []) nR
  refine ⟨_, rfl, c, _, 1, _, rfl, rfl, SqT.of (sR _ _ h1), atI_nat (j := 1) rfl, cg, rfl, ⟨_, SqT.of (sR _ _ h3)⟩, for_it walk_tup
    (fun i σ H1 => ∃ (y4 y5 y6 : Option V) (ra : List Addr) (D : Dl), σ = [some (.ref p), some (.ref c), some (.int 6), some (.ref R), y4, y5, y6, none] ∧ But [p] H H1 ∧ PoolAt H1 p l ∧ H1 R = some (.lst (ra.map V.ref)) ∧ Paired (RwN H1 R) ra D ∧ D.length = i ∧
      ∀ (j : Nat) g rows, C.gates[j]? = some g → D[j]? = some rows → rows.length = g.spans.length ∧ RwOk g rows)
    ⟨none, none, none, [], [], rfl, But.new nR, hp.upd R1 R2, upd_same, .nil, rfl, fun j g rows _ h => by simp at h⟩ (fun i σ H1 _ ⟨_, _, _, _, _, _, b, _⟩ => SqT.of (pool_tupK hp b _ _ h3)) ?_ ?_⟩
  · rintro i x σ H1 H2 hi ⟨y4, y5, y6, ra, D, rfl, b1, hp1, hR, hra, hDl, hD⟩ ⟨rfl, ex⟩
    obtain ⟨gad, ega, rfl⟩ := get_map ex
    obtain ⟨g, eg, tb, n1, rr, sa, hy1, hy2, hy3, hy4, hy5⟩ := pget h4 ega
    obtain ⟨shp, tabl, n3, spn⟩ := W.shape g (List.mem_of_getElem? eg)
    have tk : TupK H H2 := pool_tupK hp b1
    refine ⟨Nat.zero_le _, fun r nr => ?_⟩
    obtain ⟨r1, r2⟩ := hp1.new nr
    have nrR : r ≠ R := (ne_of_none hR nr).symm
    have sr := same_new (o := .lst []) nr
    have lsa := Paired.length hy5
    refine ⟨_, rfl, gad, _, 3, _, rfl, rfl, SqT.of (sr _ _ (tk _ _ hy1)), atI_nat (j := 3) rfl, rr, rfl, ⟨_, SqT.of (sr _ _ (tk _ _ hy4))⟩, for_it walk_tup
      (fun j σ H3 => ∃ (y6 : Option V) (pa : List Addr) (rows : List (List Int)), σ = [some (.ref p), some (.ref c), some (.int 6), some (.ref R), some (.ref gad), some (.ref r), y6, none] ∧ But [p] H2 H3 ∧ PoolAt H3 p l ∧ H3 r = some (.lst (pa.map V.ref)) ∧ Paired (fun b row => RowAt H3 b row ∧ b ≠ R ∧ b ≠ r) pa rows ∧ rows.length = j ∧ RwOk g rows)
      ⟨y6, [], [], rfl, But.new nr, hp1.upd r1 r2, upd_same, .nil, rfl, fun k sp row _ h => by simp at h⟩ (fun j σ H3 _ ⟨_, _, _, _, b, _⟩ => SqT.of (pool_tupK hp1 b _ _ (tk _ _ hy4))) ?_ ?_⟩
    · rintro j x σ H3 H4 hj ⟨y6, pa, rows, rfl, b3, hp3, hr, hpa, hrl, hok⟩ ⟨rfl, ex⟩
      obtain ⟨spa, esa, rfl⟩ := get_map ex
      obtain ⟨sp, esp, hsp⟩ := pget hy5 esa
      obtain ⟨q1, q2, q3⟩ := spn sp (List.mem_of_getElem? esp)
      have hsp4 : SpanAt H4 spa sp := pool_tupK hp1 b3 _ _ (tk _ _ hsp)
      have hR4 := pool_ref hp1 b3 hR
      refine ⟨_, rfl, .inl ⟨rfl, _, SqL.of hr⟩, ?_⟩
      refine ⟨_, rfl, _, rfl, p, l, 6, rfl, hp3, by decide, by decide, fun v H5 b5 hp5 v0 v1 => ⟨1, v, rfl, rfl, 1 + v, rfl, by omega, by omega, fun E nE => ?_⟩⟩
      have hr5 := PoolAt.but (l := l) b5 hr r1
      have hR5 := PoolAt.but (l := l) b5 hR4 R1
      obtain ⟨e1, e2⟩ := hp5.new nE
      have nEr : E ≠ r := (ne_of_none hr5 nE).symm
      have nER : E ≠ R := (ne_of_none hR5 nE).symm
      refine lc_it walk_range (fun m H6 => ∃ ds : List Int, But [p] H5 H6 ∧ PoolAt H6 p l ∧ H6 E = some (.lst (ds.map V.int)) ∧ ds.length = m ∧ ∀ d ∈ ds, sp.1 ≤ d ∧ d ≤ sp.2) ⟨[], But.new nE, hp5.upd e1 e2, upd_same, rfl, fun d h => (nomatch h)⟩ (fun _ _ _ _ => True.intro) ?_ ?_
      · rintro m x H6 H7 hm ⟨ds, b6, hp6, hE, hdl, hds⟩ ⟨rfl, rfl⟩
        have hsp6 : SpanAt H7 spa sp := pool_tupK hp5 b6 _ _ (pool_tupK hp3 b5 _ _ hsp4)
        refine ⟨rfl, _, rfl, spa, _, 0, .int sp.1, rfl, rfl, SqT.of hsp6, atI_nat (j := 0) rfl, _, rfl, _, rfl, spa, _, 1, .int sp.2, rfl, rfl, SqT.of hsp6, atI_nat (j := 1) rfl, _, rfl, spa, _, 0, .int sp.1, rfl, rfl, SqT.of hsp6, atI_nat (j := 0) rfl, sp.2, sp.1, rfl, rfl, _, 1, rfl, rfl, p, l, _, rfl, hp6, by omega, by omega, fun u H8 b8 hp8 u0 u1 => ⟨sp.1, u, rfl, rfl, ?_⟩⟩
        have hE8 := PoolAt.but (l := l) b8 hE e1
        refine ⟨_, hE8, ?_, ds ++ [sp.1 + u], (b6.trans b8).mutN nE, hp8.upd e1 e2, ?_, ?_, ?_⟩
        · rw [List.length_map]; exact szlt (by omega)
        · rw [upd_same, List.map_append]; rfl
        · rw [List.length_append, hdl]; rfl
        · intro d hd
          rcases List.mem_append.mp hd with z | z
          · exact hds d z
          · rw [List.mem_singleton.mp z]
            omega
      · rintro H6 ⟨ds, b6, hp6, hE, hdl, hds⟩
        have hr6 := PoolAt.but (l := l) b6 hr5 r1
        have b36 := (b3.trans b5).trans b6
        refine ⟨r, _, _, rfl, rfl, hr6, ?_, ?_⟩
        · rw [List.length_map, Paired.length hpa, hrl]
          rw [List.length_map] at hj
          exact szlt (by omega)
        refine ⟨_, pa ++ [E], rows ++ [ds], rfl, b36.mutN nr, hp6.upd r1 r2, ?_, ?_, ?_, ?_⟩
        · rw [upd_same, List.map_append]; rfl
        · refine Paired.snoc (Paired.mapP hpa fun b row ⟨z1, z2, z3⟩ => ⟨?_, z2, z3⟩) ⟨?_, nER, nEr⟩
          · show upd H6 r _ b = _
            rw [upd_ne z3]
            exact pool_int hp5 b6 (pool_int hp3 b5 z1)
          · show upd H6 r _ E = _
            rw [upd_ne nEr]
            exact hE
        · rw [List.length_append, hrl]; rfl
        · intro k sp' row e1' e2'
          by_cases hk : k < rows.length
          · rw [List.getElem?_append_left hk] at e2'
            exact hok k sp' row e1' e2'
          · rw [List.getElem?_append_right (by omega)] at e2'
            have hz := (List.getElem?_eq_some_iff.mp e2').1
            simp at hz
            have ek : k = j := by omega
            rw [show k - rows.length = 0 by omega] at e2'
            have e3 := Option.some.inj e2'
            rw [ek, esp] at e1'
            have e4 := Option.some.inj e1'
            rw [← e3, ← e4]
            exact ⟨by omega, by omega, hds⟩
    · rintro σ H3 ⟨y6, pa, rows, rfl, b3, hp3, hr, hpa, hrl, hok⟩
      have hR3 := pool_ref hp1 b3 hR
      refine ⟨_, rfl, .inl ⟨rfl, _, SqL.of hR3⟩, _, rfl, R, _, _, rfl, rfl, hR3, ?_, ?_⟩
      · rw [List.length_map, Paired.length hra, hDl]
        rw [List.length_map] at hi
        exact szlt (by omega)
      have hRn := hR3
      rw [List.length_map] at hrl
      refine ⟨_, _, _, ra ++ [r], D ++ [rows], rfl, (b1.trans b3).mutN nR, hp3.upd R1 R2, ?_, ?_, ?_, ?_⟩
      · rw [upd_same, List.map_append]; rfl
      · refine Paired.snoc (Paired.mapP hra fun a rs z => ?_) ⟨pa, ?_, nrR, Paired.mapP hpa fun b row ⟨z1, z2, z3⟩ => ⟨?_, z2⟩⟩
        · obtain ⟨pa', g1, g2, g3⟩ := z.keep hp1 b3
          refine ⟨pa', by rw [upd_ne g2]; exact g1, g2, Paired.mapP g3 fun b row ⟨z1, z2⟩ => ⟨?_, z2⟩⟩
          show upd H3 R _ b = _
          rw [upd_ne z2]
          exact z1
        · rw [upd_ne nrR]; exact hr
        · show upd H3 R _ b = _
          rw [upd_ne z2]
          exact z1
      · rw [List.length_append, hDl]; rfl
      · intro k g' rows' e1 e2
        by_cases hk : k < D.length
        · rw [List.getElem?_append_left hk] at e2
          exact hD k g' rows' e1 e2
        · rw [List.getElem?_append_right (by omega)] at e2
          have hz := (List.getElem?_eq_some_iff.mp e2).1
          simp at hz
          have ek : k = i := by omega
          rw [show k - D.length = 0 by omega] at e2
          have e3 := Option.some.inj e2
          rw [ek, eg] at e1
          have e4 := Option.some.inj e1
          rw [← e3, ← e4]
          exact ⟨by omega, hok⟩
  · rintro σ H1 ⟨y4, y5, y6, ra, D, rfl, b1, hp1, hR, hra, hDl, hD⟩
    rw [List.length_map] at hDl
    refine ⟨_, rfl, q R H1 D b1 hp1 ⟨ra, hR, Paired.mapP hra fun a rs ⟨pa, g1, _, g3⟩ => ⟨pa, g1, Paired.mapP g3 fun b row z => z.1⟩⟩ ⟨by omega, fun j g rows e1 e2 => ?_⟩⟩
    obtain ⟨z1, z2⟩ := hD j g rows e1 e2
    have := (W.shape g (List.mem_of_getElem? e1)).1
    exact ⟨by omega, z2⟩
end
end L2.Sg

/-! the law -/
namespace L2.Sg
open PySem PySem.Spec PyProof.Rows L2.Lx ClX
abbrev slaw : Stmt := topS 60
theorem sclaw : FnScope ["_law_script", "_law_pool_here", "_law_circuit_here", "_law_names_here", "_law_windows", "_law_vector_here", "_law_delays_here", "_law_waves", "_law_run", "_law_told", "_law_values", "_law_net", "_law_time", "_law_k"] ["_law_script"] (defScope slaw) := ⟨rfl, rfl, rfl, by decide +kernel, rfl, by decide +kernel, by decide +kernel⟩

theorem pairs_of {α β : Type} {G : α → β → Prop} : ∀ {l1 : List α} {l2 : List β}, l1.length = l2.length → (∀ (i : Nat) a b, l1[i]? = some a → l2[i]? = some b → G a b) → Paired G l1 l2
  | [], [], _, _ => .nil
  | [], _ :: _, h, _ => by cases h
  | _ :: _, [], h, _ => by cases h
  | a :: r, b :: q, h, f => .cons (f 0 a b rfl rfl) (pairs_of (by simpa using h) fun i x y hx hy => f (i + 1) x y (by simpa using hx) (by simpa using hy))
/-- by a net's place among the sources -/
def bySrc {α : Type} (srcs : List Str) (xs : List α) (d : α) (n : Str) : α := xs.getD (srcs.findIdx (· == n)) d
theorem bySrc_at {α : Type} {srcs : List Str} {xs : List α} {d : α} {i : Nat} {n : Str} {x : α} (hn : srcs.Nodup) (h : srcs[i]? = some n) (hx : xs[i]? = some x) : bySrc srcs xs d n = x := by
  unfold bySrc
  rw [findIdx_nd hn h, List.getD_eq_getElem?_getD, hx]
  rfl
section
variable {P : Program} {w : World} {K : PySem.W.Frag} {mg : Str → Option Value} {base : Heap} {f : Addr} {fd : FuncData} {Y : Cs} {CS : Addr}
def spLaw (K : PySem.W.Frag) : Sp := fun vs H Q _ => ∃ (a : Addr) (xs : List Int), vs = [.ref a] ∧ SqL K H a (xs.map V.int) ∧ xs.length ≤ 1000 ∧ ∀ H', Q (.bl true) H'
theorem ok_law (F : Fun K "law" "law" slaw f fd) (B : Bt mg) (D__law_pool : Ok P w K mg base "_law_pool" 1 ["_law_script"] (spPool K)) (D__law_draw : Ok P w K mg base "_law_draw" 2 ["_law_pool_here", "_law_many"] spDraw) (D__law_circuit : Ok P w K mg base "_law_circuit" 5 ["_law_pool_here", "_law_inputs", "_law_regs", "_law_most"] spCircuit)
    (D__law_sources : Ok P w K mg base "_law_sources" 1 ["_law_circuit_here"] spSources) (D__law_window : Ok P w K mg base "_law_window" 3 ["_law_pool_here", "_law_since", "_law_until"] spWindow) (D__law_vector : Ok P w K mg base "_law_vector" 3 ["_law_pool_here", "_law_many"] spVector) (D__law_delays : Ok P w K mg base "_law_delays" 3 ["_law_pool_here", "_law_circuit_here", "_law_most"] spDelays)
    (D__law_wave : Ok P w K mg base "_law_wave" 4 ["_law_pool_here", "_law_window_here", "_law_value_here"] (spWave Y.CW)) (D_Run : COk P w K mg base "Run" Y.CR 4 ["self", "circuit", "waves", "delays"] (spRunInit P w Y)) (D__law_same : Ok P w K mg base "_law_same" 2 ["_law_actual", "_law_due"] spSame) (D_respects : MOk P w K mg base Y.CR "respects" 3 ["self", "vector", "windows"] (spRespects P w Y))
    (D_Settled : COk P w K mg base "Settled" CS 2 ["self", "circuit", "windows"] (spSetInit P w CS)) (D__law_settle : Ok P w K mg base "_law_settle" 3 ["_law_circuit_here", "_law_vector_here"] spSettle) (D__law_nets : Ok P w K mg base "_law_nets" 2 ["_law_circuit_here"] spAllNets)
    (D_is_settled : MOk P w K mg base CS "is_settled" 17 ["self", "net", "time", "vector"] (spIsSettled P w CS)) (D_run_value : MOk P w K mg base Y.CR "value" 10 ["self", "net", "time"] (spRunVal P w Y)) : FnOk P w K mg base CX0 18 f fd ["_law_script"] (spLaw K) := by
  refine F.ok sclaw (fun vs H Q E h => ?_) (fun cdv A outer s H vs Q E hr h => ?_)
  · obtain ⟨_, _, rfl, _⟩ := h
    rfl
  obtain ⟨sa, xs, rfl, hsa, hxl, q⟩ := h
  refine ⟨_, (pss_cons (ps_set (i := 1) sclaw.nd rfl (Or.inr rfl) (wCall D__law_pool (hr.mono (by first | decide | omega)) (pa_cons (pv 0) pa_nil)))
      (pss_cons (ps_set (i := 2) sclaw.nd rfl (Or.inl rfl) (wCall D__law_circuit (hr.mono (by first | decide | omega)) (pa_cons (pv 1) (pa_cons (wCall D__law_draw (hr.mono (by first | decide | omega)) (pa_cons (pv 1) (pa_cons pe_int pa_nil))) (pa_cons (wCall D__law_draw (hr.mono (by first | decide | omega)) (pa_cons (pv 1) (pa_cons pe_int pa_nil))) (pa_cons pe_int pa_nil))))))
      (pss_cons (ps_set (i := 3) sclaw.nd rfl (Or.inl rfl) (wCall D__law_sources (hr.mono (by first | decide | omega)) (pa_cons (pv 2) pa_nil)))
      (pss_cons (ps_set (i := 4) sclaw.nd rfl (Or.inr rfl) (pe_lc (own := [("_law_net", 11)]) (g := (gName 11)) (tt := tYes) rfl sclaw.nd (wForL K (pv 3)) (blkOk_by (N := ["_law_script", "_law_pool_here", "_law_circuit_here", "_law_names_here", "_law_windows", "_law_vector_here", "_law_delays_here", "_law_waves", "_law_run", "_law_told", "_law_values", "_law_net", "_law_time", "_law_k"]) (sc := defScope slaw) (by decide +kernel)) (fun _ _ _ _ _ => (pg_name (i := 11) sclaw.nd rfl (Or.inl rfl))) (fun _ _ _ _ _ => pts_nil) (fun _ _ _ _ _ => (wCall D__law_window (hr.mono (by first | decide | omega)) (pa_cons (pv 1) (pa_cons (wCall D__law_draw (hr.mono (by first | decide | omega)) (pa_cons (pv 1) (pa_cons pe_int pa_nil))) (pa_cons (wCall D__law_draw (hr.mono (by first | decide | omega)) (pa_cons (pv 1) (pa_cons pe_int pa_nil))) pa_nil)))))))
      (pss_cons (ps_set (i := 5) sclaw.nd rfl (Or.inr rfl) (wCall D__law_vector (hr.mono (by first | decide | omega)) (pa_cons (pv 1) (pa_cons (pe_callB (cLen K) (by rfl) B.len_ PySem.boot_len (pa_cons (pv 3) pa_nil)) pa_nil))))
      (pss_cons (ps_set (i := 6) sclaw.nd rfl (Or.inl rfl) (wCall D__law_delays (hr.mono (by first | decide | omega)) (pa_cons (pv 1) (pa_cons (pv 2) (pa_cons pe_int pa_nil)))))
      (pss_cons (ps_setLc (i := 7) (own := [("_law_k", 13)]) (g := (gName 13)) (tt := tYes) rfl sclaw.nd rfl rfl (sw_true rfl rfl rfl (by decide +kernel)) (pi_range1 rfl B.range_ (pa_cons (pe_callB (cLen K) (by rfl) B.len_ PySem.boot_len (pa_cons (pv 3) pa_nil)) pa_nil)) (blkOk_by (N := ["_law_script", "_law_pool_here", "_law_circuit_here", "_law_names_here", "_law_windows", "_law_vector_here", "_law_delays_here", "_law_waves", "_law_run", "_law_told", "_law_values", "_law_net", "_law_time", "_law_k"]) (sc := defScope slaw) (by decide +kernel)) (fun _ _ _ _ _ => (pg_name (i := 13) sclaw.nd rfl (Or.inl rfl))) (fun _ _ _ _ _ => pts_nil) (fun _ _ _ _ _ => (wCall D__law_wave (hr.mono (by first | decide | omega)) (pa_cons (pv 1) (pa_cons (wIxL K (pv 4) (pv 13)) (pa_cons (wIxT K (pv 5) (pv 13)) pa_nil))))))
      (pss_cons (ps_set (i := 8) sclaw.nd rfl (Or.inl rfl) (wMake D_Run (hr.mono (by first | decide | omega)) (pa_cons (pv 2) (pa_cons (pv 7) (pa_cons (pv 6) pa_nil)))))
      (pss_cons (ps_if (pt_not (pt_val (wCall D__law_same (hr.mono (by first | decide | omega)) (pa_cons (wMeth D_respects (pv 8) (hr.mono (by first | decide | omega)) (pa_cons (pv 5) (pa_cons (pv 4) pa_nil))) (pa_cons pe_bl pa_nil))))) (pss_one (ps_ret pe_bl)) pss_nil)
      (pss_cons (ps_set (i := 9) sclaw.nd rfl (Or.inl rfl) (wMake D_Settled (hr.mono (by first | decide | omega)) (pa_cons (pv 2) (pa_cons (pv 4) pa_nil))))
      (pss_cons (ps_set (i := 10) sclaw.nd rfl (Or.inl rfl) (wCall D__law_settle (hr.mono (by first | decide | omega)) (pa_cons (pv 2) (pa_cons (pv 5) pa_nil))))
      (pss_cons (ps_for PassesOwn.never rfl (wForL K (wCall D__law_nets (hr.mono (by first | decide | omega)) (pa_cons (pv 2) pa_nil))) (pg_name (i := 11) sclaw.nd rfl (Or.inl rfl)) (pss_one (ps_for PassesOwn.never rfl (pi_range2 rfl B.range_ (pa_cons (pe_un un_neg pe_int) (pa_cons pe_int pa_nil))) (pg_name (i := 12) sclaw.nd rfl (Or.inl rfl)) (pss_one (ps_if (PW.pt (pw_and (pt_val (wMeth D_is_settled (pv 9) (hr.mono (by first | decide | omega)) (pa_cons (pv 11) (pa_cons (pv 12) (pa_cons (pv 5) pa_nil))))) (pw_and1 (pt_not (pt_val (wCall D__law_same (hr.mono (by first | decide | omega)) (pa_cons (wMeth D_run_value (pv 8) (hr.mono (by first | decide | omega)) (pa_cons (pv 11) (pa_cons (pv 12) pa_nil))) (pa_cons (wDG hr.units (pv 10) (pv 11)) pa_nil)))))))) (pss_one (ps_ret pe_bl)) pss_nil)))))
      (pss_one (ps_ret pe_bl)))))))))))))), ?_⟩
  refine ⟨_, rfl, sa, xs, rfl, hsa, hxl, fun p l H1 s1 np nl hp => ?_⟩
  -- the circuit
  refine ⟨_, rfl, _, rfl, p, l, 4, rfl, hp, by decide, by decide, fun v1 H2 b2 hp2 u0 u1 => ⟨_, rfl, p, l, 3, rfl, hp2, by decide, by decide, fun v2 H3 b3 hp3 w0 w1 => ?_⟩⟩
  obtain ⟨a, rfl⟩ : ∃ a : Nat, v1 = a := ⟨v1.toNat, by omega⟩
  obtain ⟨b, rfl⟩ : ∃ b : Nat, v2 = b := ⟨v2.toNat, by omega⟩
  refine ⟨p, l, a, b, rfl, hp3, by omega, by omega, fun c H4 C ord b4 hp4 hc4 W => ?_⟩
  have few := W.few
  have few2 := W.few2
  have sm := W.small
  -- names
  refine ⟨_, rfl, c, C, rfl, hc4, by omega, fun nm H5 s5 nnm hnm => ?_⟩
  have hp5 := hp4.keep s5
  have hc5 := hc4.keep s5.tupK
  obtain ⟨nm1, nm2⟩ := hp4.new nnm
  clear hc4 b4 hp3 b3 hp2 b2 hp
  -- windows
  refine ⟨_, rfl, nm, rfl, ⟨_, SqL.of hnm⟩, fun Wd nWd => ?_⟩
  obtain ⟨d1, d2⟩ := hp5.new nWd
  have nWn : nm ≠ Wd := ne_of_none hnm nWd
  refine lc_it walk_list (fun i H6 => ∃ (wna : List Addr) (wins : List Win), But [p] H5 H6 ∧ PoolAt H6 p l ∧ H6 Wd = some (.lst (wna.map V.ref)) ∧ Paired (WinAt H6) wna wins ∧ wins.length = i ∧ ∀ wn ∈ wins, (∀ s, wn.1 = some s → -3 ≤ s) ∧ (∀ u, wn.2 = some u → u ≤ 28))
    ⟨[], [], But.new nWd, hp5.upd d1 d2, upd_same, .nil, rfl, fun wn h => (nomatch h)⟩ (fun i H6 _ ⟨_, _, b, _⟩ => SqL.of (PoolAt.but (l := l) b hnm nm1)) ?_ ?_
  · rintro i x H6 H7 hi ⟨wna, wins, b6, hp6, hWd, hws, hwl, hwb⟩ ⟨rfl, ex⟩
    refine ⟨rfl, _, rfl, _, rfl, p, l, 4, rfl, hp6, by decide, by decide, fun v3 H8 b8 hp8 _ _ => ⟨_, rfl, p, l, 3, rfl, hp8, by decide, by decide, fun v4 H9 b9 hp9 _ _ => ?_⟩⟩
    refine ⟨p, l, v3, v4, rfl, hp9, fun wa H10 wn b10 hp10 hwa q1 q2 => ?_⟩
    have bb := (b8.trans b9).trans b10
    have hWd10 := PoolAt.but (l := l) bb hWd d1
    have tk : TupK H7 (upd H10 Wd (.lst (wna.map V.ref ++ [.ref wa]))) := fun b' xs e => lst_tupK hWd10 _ _ (pool_tupK hp6 bb _ _ e)
    refine ⟨_, hWd10, ?_, wna ++ [wa], wins ++ [wn], (b6.trans bb).mutN nWd, hp10.upd d1 d2, ?_, ?_, ?_, ?_⟩
    · rw [List.length_map, Paired.length hws, hwl]
      rw [List.length_map] at hi
      exact szlt (by omega)
    · rw [upd_same, List.map_append]; rfl
    · exact Paired.snoc (Paired.mapP hws fun x y z => tk _ _ z) (lst_tupK hWd10 _ _ hwa)
    · rw [List.length_append, hwl]; rfl
    · intro wn' h
      rcases List.mem_append.mp h with z | z
      · exact hwb wn' z
      · rw [List.mem_singleton.mp z]; exact ⟨q1, q2⟩
  rintro H6 ⟨wna, wins, b6, hp6, hWd, hws, hwl, hwb⟩
  rw [List.length_map] at hwl
  have hnm6 := PoolAt.but (l := l) b6 hnm nm1
  have hc6 := hc5.keep (pool_tupK hp5 b6)
  -- vector
  refine ⟨_, rfl, _, rfl, nm, _, rfl, .inl (SqL.of hnm6), p, l, _, rfl, hp6, by omega, (by rw [List.length_map]; omega), fun v H7 vec b7 hp7 hv hvl => ?_⟩
  rw [List.length_map, Int.toNat_natCast] at hvl
  have tk7 := pool_tupK hp6 b7
  have hc7 := hc6.keep tk7
  -- delays
  refine ⟨_, rfl, _, rfl, p, l, c, C, ord, rfl, hp7, hc7, W, fun d H8 D b8 hp8 hd ok => ?_⟩
  have tk8 := pool_tupK hp7 b8
  have hc8 := hc7.keep tk8
  have hv8 := tk8 _ _ hv
  have hWd8 := pool_ref hp7 b8 (pool_ref hp6 b7 hWd)
  have hws8 := Paired.mapP hws fun x y (z : WinAt H6 x y) => tk8 _ _ (tk7 _ _ z)
  have hnm8 := PoolAt.but (l := l) b8 (PoolAt.but (l := l) b7 hnm6 nm1) nm1
  have lws := Paired.length hws8
  clear hc7 hc6 hc5 hws hWd hv hnm6 hnm
  -- waves
  refine ⟨_, rfl, nm, _, rfl, .inl (SqL.of hnm8), _, rfl, (by rw [List.length_map]; omega), (by rw [List.length_map]; omega), fun Wv nWv => ?_⟩
  rw [List.length_map, Int.toNat_natCast]
  obtain ⟨e1, e2⟩ := hp8.new nWv
  refine lc_it walk_range (fun i H9 => ∃ (was : List Addr) (fws : List (Int → Bool)), But [p] H8 H9 ∧ PoolAt H9 p l ∧ H9 Wv = some (.lst (was.map V.ref)) ∧ Paired (WvIs Y.CW H9) was fws ∧ fws.length = i ∧
      ∀ (j : Nat) fw wn bv, fws[j]? = some fw → wins[j]? = some wn → vec[j]? = some bv → ∀ t, inW wn t = true → fw t = bv)
    ⟨[], [], But.new nWv, hp8.upd e1 e2, upd_same, .nil, rfl, fun j fw wn bv h => by simp at h⟩ (fun _ _ _ _ => True.intro) ?_ ?_
  · rintro i x H9 H10 hi ⟨was, fws, b9, hp9, hWv, hwv, hfl, hfw⟩ ⟨rfl, rfl⟩
    have tk9 := pool_tupK hp8 b9
    have hWd9 := pool_ref hp8 b9 hWd8
    obtain ⟨wn, ewn⟩ : ∃ wn, wins[i]? = some wn := ⟨_, List.getElem?_eq_getElem (by omega)⟩
    obtain ⟨wa, ewa, hwa⟩ := pget2 hws8 ewn
    obtain ⟨bv, ebv⟩ : ∃ bv, vec[i]? = some bv := ⟨_, List.getElem?_eq_getElem (by omega)⟩
    obtain ⟨k1, k2⟩ := hwb wn (List.mem_of_getElem? ewn)
    refine ⟨rfl, _, rfl, _, rfl, _, rfl, Wd, _, _, .ref wa, rfl, rfl, SqL.of hWd9, (by rw [Int.zero_add]; exact atI_map ewa), _, rfl, _, rfl, v, _, _, .bl bv, rfl, rfl, SqT.of (tk9 _ _ hv8), (by rw [Int.zero_add]; exact atI_map ebv), ?_⟩
    refine ⟨p, l, wa, bv, wn, rfl, hp9, tk9 _ _ hwa, k1, k2, fun xw H11 fw b11 hp11 hxw hfv => ?_⟩
    have hWv11 := PoolAt.but (l := l) b11 hWv e1
    have keepW : ∀ {wa : Addr} {fw : Int → Bool} {G G' : Hp}, TupK G G' → (∀ C dx fs, G wa = some (.ins C dx fs) → G' wa = some (.ins C dx fs)) → WvIs Y.CW G wa fw → WvIs Y.CW G' wa fw := by
      intro wa fw G G' tk hi h
      obtain ⟨st, chs, ⟨dx, tt, fs, z1, z2, z3, z4, z5, z6⟩, r⟩ := h
      exact ⟨st, chs, ⟨dx, tt, fs, hi _ _ _ z1, z2, z3, z4, z5, tk _ _ z6⟩, r⟩
    have insP : ∀ {a : Addr} {C dx : Addr} {fs : List (Str × V)}, H10 a = some (.ins C dx fs) → H11 a = some (.ins C dx fs) := fun {a C dx fs} e => b11 _ _ e fun z => by
      obtain ⟨_, _, _, _, z1, _⟩ := hp9
      rw [List.mem_singleton.mp z, z1] at e
      cases e
    have insL : ∀ {o : HO} {a : Addr} {C dx : Addr} {fs : List (Str × V)}, H11 a = some (.ins C dx fs) → (upd H11 Wv o) a = some (.ins C dx fs) := fun {o a C dx fs} e => by
      rw [upd_ne (fun z => by rw [z, hWv11] at e; cases e)]
      exact e
    refine ⟨_, hWv11, ?_, was ++ [xw], fws ++ [fw], (b9.trans b11).mutN nWv, hp11.upd e1 e2, ?_, ?_, ?_, ?_⟩
    · rw [List.length_map, Paired.length hwv, hfl]
      exact szlt (by omega)
    · rw [upd_same, List.map_append]; rfl
    · exact Paired.snoc (Paired.mapP hwv fun x y z => keepW (fun b' xs e => lst_tupK hWv11 _ _ (pool_tupK hp9 b11 _ _ e)) (fun C dx fs e => insL (insP e)) z) (keepW (lst_tupK hWv11) (fun C dx fs e => insL e) hxw)
    · rw [List.length_append, hfl]; rfl
    · intro j fw' wn' bv' h1 h2 h3
      by_cases hj : j < fws.length
      · rw [List.getElem?_append_left hj] at h1
        exact hfw j fw' wn' bv' h1 h2 h3
      · rw [List.getElem?_append_right (by omega)] at h1
        have hz := (List.getElem?_eq_some_iff.mp h1).1
        simp at hz
        have ej : j = i := by omega
        rw [show j - fws.length = 0 by omega] at h1
        have f1 := Option.some.inj h1
        rw [ej] at h2 h3
        rw [ewn] at h2
        rw [ebv] at h3
        have f2 := Option.some.inj h2
        have f3 := Option.some.inj h3
        rw [← f1, ← f2, ← f3]
        exact hfv
  rintro H9 ⟨was, fws, b9, hp9, hWv, hwv, hfl, hfw⟩
  have tk9 := pool_tupK hp8 b9
  have hc9 := hc8.keep tk9
  have hd9 := hd.pool hp8 b9
  have hv9 := tk9 _ _ hv8
  have hWd9 := pool_ref hp8 b9 hWd8
  have hws9 := Paired.mapP hws8 fun x y (z : WinAt H8 x y) => tk9 _ _ z
  have lwv := Paired.length hwv
  clear hws8 hWd8 hv8 hc8 hd hnm8
  -- the model of the waves and windows
  have hws : ∀ (i : Nat) n fw, C.srcs[i]? = some n → fws[i]? = some fw → bySrc C.srcs fws (fun _ => false) n = fw := fun i n fw h1 h2 => bySrc_at W.snd h1 h2
  have hwf : ∀ (i : Nat) n wn, C.srcs[i]? = some n → wins[i]? = some wn → bySrc C.srcs wins (none, none) n = wn := fun i n wn h1 h2 => bySrc_at W.snd h1 h2
  have PW : Paired (fun wa n => WvIs Y.CW H9 wa (bySrc C.srcs fws (fun _ => false) n)) was C.srcs := pairs_of (by omega) fun i wa n h1 h2 => by
    obtain ⟨fw, e, z⟩ := pget hwv h1
    rw [hws i n fw h2 e]
    exact z
  have PN : Paired (fun wa n => WinAt H9 wa (bySrc C.srcs wins (none, none) n)) wna C.srcs := pairs_of (by omega) fun i wa n h1 h2 => by
    obtain ⟨wn, e, z⟩ := pget hws9 h1
    rw [hwf i n wn h2 e]
    exact z
  have hsrc : ∀ n ∈ C.srcs, ∀ t, inW (bySrc C.srcs wins (none, none) n) t = true → bySrc C.srcs fws (fun _ => false) n t = srcVal C.srcs vec n := by
    intro n hn t ht
    obtain ⟨i, hi, ei⟩ := List.mem_iff_getElem.mp hn
    have en : C.srcs[i]? = some n := by rw [← ei]; exact List.getElem?_eq_getElem hi
    have e1 : fws[i]? = some (fws[i]'(by omega)) := List.getElem?_eq_getElem (by omega)
    have e2 : wins[i]? = some (wins[i]'(by omega)) := List.getElem?_eq_getElem (by omega)
    have e3 : vec[i]? = some (vec[i]'(by omega)) := List.getElem?_eq_getElem (by omega)
    rw [hwf i n _ en e2] at ht
    rw [hws i n _ en e1, srcVal_at W.snd en e3]
    exact hfw i _ _ _ e1 e2 e3 t ht
  have law := fits_law W ok hsrc
  generalize hwsd : bySrc C.srcs fws (fun _ => false) = ws at *
  generalize hwfd : bySrc C.srcs wins (none, none) = wf at *
  -- the run
  refine ⟨_, rfl, _, rfl, _, rfl, fun r dxr nr ndr ner => ?_⟩
  have nrn : (upd H9 dxr (.own r)) r = none := by rw [upd_ne ner.symm]; exact nr
  have sA : Same H9 (upd (upd H9 dxr (.own r)) r (.ins Y.CR dxr [])) := (same_new ndr).trans (same_new nrn)
  refine ⟨r, c, Wv, d, dxr, was, C, ord, D, ws, rfl, upd_same, hc9.keep sA.tupK, W, hd9.keep sA.lstK, ok, sA _ _ hWv, Paired.mapP PW fun x y z => z.keepX sA.keepX, fun H10 ta kn b10 nkn S => ⟨rfl, ?_⟩⟩
  have s10 : Same H9 H10 := fun b o e => b10 b o (sA _ _ e) fun z => by rw [List.mem_singleton.mp z, nr] at e; cases e
  have hv10 := s10 _ _ hv9
  have hWd10 := s10 _ _ hWd9
  have PN10 := Paired.mapP PN fun x y (z : WinAt H9 x _) => s10 _ _ z
  have hws10 := Paired.mapP hws9 fun x y (z : WinAt H9 x y) => s10 _ _ z
  have hc10 := S.circ
  obtain ⟨dxr', fsr, wd, r1, r2, r3, r4, r5, r6, r7, r8⟩ := S.run
  have hin : ∀ (i : Nat) n bv wn, C.srcs[i]? = some n → vec[i]? = some bv → wins[i]? = some wn → ∀ t, inW wn t = true → ws n t = bv := fun i n bv wn e1 e2 e3 t ht => by
    have e4 := hwf i n wn e1 e3
    have := hsrc n (List.mem_of_getElem? e1) t (by rw [e4]; exact ht)
    rw [this, srcVal_at W.snd e1 e2]
  refine ⟨_, rfl, r, dxr', fsr, rfl, r1, r7, _, rfl, _, rfl, r, ta, c, kn, v, Wd, C, ord, D, ws, [], vec, wna, wins, rfl, S, W, hv10, hWd10, hws10, hvl, hwl, hin, fun H11 s11 => ?_⟩
  refine ⟨true, true, rfl, fun _ => ⟨_, rfl, ite2 (fun h => by cases h) (fun _ => ?_)⟩, fun h => absurd rfl h⟩
  have S11 : RS P w Y H11 r ta c kn C D ws [] := S.keep s11.keepX (S.nd.keep s11.tupK fun o e => s11 _ _ e)
  -- what is settled
  refine ⟨_, rfl, _, rfl, fun s dxs ns nds nes => ?_⟩
  have nsn : (upd H11 dxs (.own s)) s = none := by rw [upd_ne nes.symm]; exact ns
  have sB : Same H11 (upd (upd H11 dxs (.own s)) s (.ins CS dxs [])) := (same_new nds).trans (same_new nsn)
  refine ⟨s, c, Wd, dxs, wna, C, ord, wf, vec, rfl, upd_same, S11.circ.keep sB.tupK, W, sB _ _ (s11 _ _ hWd10), Paired.mapP PN10 fun x y z => sB _ _ (s11 _ _ z), fun H12 k2 vd b12 nk2 nvd SS12 => ⟨rfl, ?_⟩⟩
  have s12 : Same H11 H12 := fun b o e => b12 b o (sB _ _ e) fun z => by rw [List.mem_singleton.mp z, ns] at e; cases e
  have S12 : RS P w Y H12 r ta c kn C D ws [] := S11.keep s12.keepX (S11.nd.keep s12.tupK fun o e => s12 _ _ e)
  have nkk : kn ≠ k2 := fun z => by obtain ⟨φ, e⟩ := S11.nd.ext; rw [z, sB.free nk2] at e; cases e
  have nkv : kn ≠ vd := fun z => by obtain ⟨φ, e⟩ := S11.nd.ext; rw [z, sB.free nvd] at e; cases e
  have hv12 := s12 _ _ (s11 _ _ hv10)
  -- the law's own values
  refine ⟨_, rfl, _, rfl, c, v, C, ord, vec, rfl, S12.circ, W, hv12, hvl, fun vl H13 s13 nvl hvls => ?_⟩
  have S13 : RS P w Y H13 r ta c kn C D ws [] := S12.keep s13.keepX (S12.nd.keep s13.tupK fun o e => s13 _ _ e)
  refine ⟨_, rfl, c, C, rfl, S13.circ, sm, fun nl H14 s14 nnl hnl => ⟨nl, rfl, ⟨_, SqL.of hnl⟩, ?_⟩⟩
  have S14 : RS P w Y H14 r ta c kn C D ws [] := S13.keep s14.keepX (S13.nd.keep s14.tupK fun o e => s14 _ _ e)
  have SS14 := (SS12.same s13).same s14
  have hvl14 : SvAt H14 vl C vec := hvls.keep fun o e => s14 _ _ e
  have hv14 := s14 _ _ (s13 _ _ hv12)
  refine for_it walk_list (fun i σ H15 => ∃ (y11 y12 : Option V) (kvs : List (NestedKey × V)), σ = [some (.ref sa), some (.ref p), some (.ref c), some (.ref nm), some (.ref Wd), some (.ref v), some (.ref d), some (.ref Wv), some (.ref r), some (.ref s), some (.ref vl), y11, y12, none] ∧ KeepX H14 H15 ∧ RS P w Y H15 r ta c kn C D ws kvs ∧ Kn C [] (rv C D ws) kvs ∧ SS P w CS H15 s c k2 vd C wf vec)
    ⟨none, none, [], rfl, KeepX.refl _, S14, Kn.nil, SS14⟩ (fun i σ H15 _ ⟨_, _, _, _, k, _⟩ => SqL.of (k.lstK _ _ hnl)) ?_ ?_
  · rintro i x σ H15 H16 hi ⟨y11, y12, kvs, rfl, k15, S15, K15, SS15⟩ ⟨rfl, ex⟩
    obtain ⟨n, en, rfl⟩ := get_map ex
    have hn := List.mem_of_getElem? en
    refine ⟨4, rfl, -4, 34, rfl, ⟨by decide, by decide, by decide, by decide⟩, for_range (fun z σ H17 => ∃ (y12 : Option V) (kvs : List (NestedKey × V)), σ = [some (.ref sa), some (.ref p), some (.ref c), some (.ref nm), some (.ref Wd), some (.ref v), some (.ref d), some (.ref Wv), some (.ref r), some (.ref s), some (.ref vl), some (.str n), y12, none] ∧ KeepX H14 H17 ∧ RS P w Y H17 r ta c kn C D ws kvs ∧ Kn C [] (rv C D ws) kvs ∧ SS P w CS H17 s c k2 vd C wf vec)
      ⟨y12, kvs, rfl, k15, S15, K15, SS15⟩ ?_ ?_⟩
    · rintro z σ H17 hz ⟨y12, kvs, rfl, k17, S17, K17, SS17⟩
      have hz' : z < 38 := hz
      obtain ⟨dxs', fss, swd, sdd, g1, _, _, _, _, _, _, _, _, _, g11, _, _⟩ := SS17.obj
      refine ⟨_, rfl, s, dxs', fss, rfl, g1, g11, _, rfl, _, rfl, _, rfl, s, c, k2, vd, v, C, ord, wf, vec, n, -4 + (z : Int), rfl, SS17, W, k17.tupK _ _ hv14, hvl, hn, by omega, by omega, fun H18 b18 SS18 => ?_⟩
      have k18 := SS17.butX b18
      have S18 : RS P w Y H18 r ta c kn C D ws kvs := S17.keep k18 (S17.nd.keep k18.tupK fun o e => b18 _ _ e fun y => by
        rcases List.mem_cons.mp y with e | e
        · exact nkk e
        · exact nkv (List.mem_singleton.mp e))
      refine ⟨_, rfl, ite2 (fun hf => ?_) (fun _ => ⟨_, kvs, rfl, k17.trans k18, S18, K17, SS18⟩)⟩
      obtain ⟨dxr2, fsr2, wd2, t1, t2, t3, t4, t5, t6, t7, t8⟩ := S18.run
      refine ⟨_, rfl, r, dxr2, fsr2, rfl, t1, t6, _, rfl, _, rfl, r, ta, c, kn, C, ord, D, ws, kvs, n, -4 + (z : Int), rfl, S18, W, ok, K17, hn, by omega, by omega, fun H19 kvs' b19 S19 K19 => ?_⟩
      have k19 : KeepX H18 H19 := b19.keepX fun m hm => by rw [List.mem_singleton.mp hm]; exact S18.nd.ext
      have SS19 : SS P w CS H19 s c k2 vd C wf vec := SS18.keep k19 (SS18.known.keep k19 fun o e => b19 _ _ e fun y => nkk (List.mem_singleton.mp y).symm) (SS18.vals.keep k19 fun o e => b19 _ _ e fun y => nkv (List.mem_singleton.mp y).symm)
      have kk := (k17.trans k18).trans k19
      obtain ⟨kd, v1, v2⟩ := hvl14
      refine ⟨_, rfl, _, rfl, vl, .bl (sv C vec n), rfl, (by rw [← v2 n hn]; exact DGet.k (k := Sum.inr n) (kk.dK v1)), ?_⟩
      have e := law n hn _ hf
      refine ⟨_, _, rfl, fun _ => ⟨_, rfl, ite2 (fun h => by cases h) (fun _ => ⟨_, kvs', rfl, kk, S19, K19, SS19⟩)⟩, fun h => absurd e h⟩
    · rintro σ H17 ⟨y12, kvs, rfl, k17, S17, K17, SS17⟩
      exact ⟨_, _, kvs, rfl, k17, S17, K17, SS17⟩
  · rintro σ H15 ⟨y11, y12, kvs, rfl, k15, S15, K15, SS15⟩
    exact q _
end
end L2.Sg

/-! what the top has left; all promises together -/
namespace L2.Sg
open PySem PySem.Spec PyProof.Rows L2.Lx ClX
/-- a def of the top stands -/
structure DAt (K : PySem.W.Frag) (mg : Str → Option Value) (x : Str) (st : Stmt) : Prop where
  ex : ∃ f fd, Fun K x x st f fd ∧ mg x = some (.ref f)
/-- a method stands -/
structure MAt (K : PySem.W.Frag) (C : Addr) (m qual : Str) (st : Stmt) : Prop where
  ex : ∃ f fd, Fun K m qual st f fd ∧ Meth K C m f
/-- a class stands -/
structure CAt (K : PySem.W.Frag) (mg : Str → Option Value) (x : Str) (C : Addr) : Prop where
  cls : Cls K C
  mgC : mg x = some (.ref C)
  makes : PySem.W.makesIn K C = true
  kp : PySem.W.keepIn K (.ref C) = true
section
variable {K : PySem.W.Frag} {h : Heap} {mg : Str → Option Value} {C f : Addr} {od an : Option Addr} {sl : Array (Option Value)} {oc kV dc pm cd ct : Value}
theorem mkD {x : Str} {st : Stmt} (X : K.In h) (N : h.Ns mainGlobals mg) (a : PySem.W.nsIn K mainGlobals x = some (some (.ref f))) (l : K.lookup f = some ⟨oc, od, .func (PySem.W.fnOf x x (defArgs st) (defBody st) (defScope st) .none kV dc pm an cd ct), sl⟩)
    (c : PySem.W.codeIn K cd x = true) (k : PySem.W.keepIn K (.ref f) = true) : DAt K mg x st := ⟨⟨f, _, fun_mk (st := st) l c k, PySem.W.mg_of X N a⟩⟩
theorem mkM {m qual : Str} {st : Stmt} (a : PySem.W.findIn K (.ref C) m = some (some (.ref f))) (i : PySem.W.isFn K (.ref f) = true) (l : K.lookup f = some ⟨oc, od, .func (PySem.W.fnOf m qual (defArgs st) (defBody st) (defScope st) .none kV dc pm an cd ct), sl⟩)
    (c : PySem.W.codeIn K cd qual = true) (k : PySem.W.keepIn K (.ref f) = true) : MAt K C m qual st := ⟨⟨f, _, fun_mk (st := st) l c k, ⟨a, i, k⟩⟩⟩
theorem mkC {x : Str} (X : K.In h) (N : h.Ns mainGlobals mg) (a : PySem.W.nsIn K mainGlobals x = some (some (.ref C))) (pg : PySem.W.plainGet K C Str.empty = true) (hd : PySem.W.hasDictIn K C = true) (po : PySem.W.plainOver K C = true) (sa : PySem.W.findIn K (.ref C) "__setattr__" = some (some (.builtin "object.__setattr__")))
    (mk : PySem.W.makesIn K C = true) (kc : PySem.W.keepIn K (.ref C) = true) : CAt K mg x C := ⟨⟨pg, hd, po, sa⟩, PySem.W.mg_of X N a, mk, kc⟩
/-- the classmethod of_bits stands -/
structure OAt (K : PySem.W.Frag) (C : Addr) : Prop where
  ex : ∃ g p fd, Fun K "of_bits" "Waveform.of_bits" sWaveform_of_bits g fd ∧ CRead K C (.type "type") ∧ CMet K C (.type "type") "of_bits" p g
theorem mkO {p : Addr} {rest : List Value} (rd : PySem.W.readsIn K C (.type "type") = true) (ga : PySem.W.specialIn K (.ref C) "__getattribute__" = some (some (.builtin "type.__getattribute__")))
    (at_ : PySem.W.findCls K (.ref C) (.type "type") "of_bits" = some (.get (.builtin "classmethod.__get__") (.ref p) .none (.ref C))) (rc : PySem.W.recIn K p "classmethod" = some (.ref f :: rest)) (fi : PySem.W.fnIn K f = true)
    (l : K.lookup f = some ⟨oc, od, .func (PySem.W.fnOf "of_bits" "Waveform.of_bits" (defArgs sWaveform_of_bits) (defBody sWaveform_of_bits) (defScope sWaveform_of_bits) .none kV dc pm an cd ct), sl⟩) (c : PySem.W.codeIn K cd "Waveform.of_bits" = true) (k : PySem.W.keepIn K (.ref f) = true) : OAt K C :=
  ⟨⟨f, p, _, fun_mk (st := sWaveform_of_bits) l c k, ⟨rd, ga⟩, ⟨at_, ⟨rest, rc⟩, fi⟩⟩⟩
end
structure KWaveform (K : PySem.W.Frag) (mg : Str → Option Value) (C : Addr) : Prop where
  c : CAt K mg "Waveform" C
  n0 : PySem.W.findIn K (.ref C) "_start" = some none
  n1 : PySem.W.findIn K (.ref C) "_changes" = some none
  m0 : MAt K C "__init__" "Waveform.__init__" sWaveformU_initU
  m1 : MAt K C "changes" "Waveform.changes" sWaveform_changes
  m2 : MAt K C "value_at" "Waveform.value_at" sWaveform_value_at
  o : OAt K C

structure KTracker (K : PySem.W.Frag) (mg : Str → Option Value) (C : Addr) : Prop where
  c : CAt K mg "Tracker" C
  n0 : PySem.W.findIn K (.ref C) "circuit" = some none
  n1 : PySem.W.findIn K (.ref C) "delays" = some none
  n2 : PySem.W.findIn K (.ref C) "origin" = some none
  n3 : PySem.W.findIn K (.ref C) "driven" = some none
  n4 : PySem.W.findIn K (.ref C) "known" = some none
  m0 : MAt K C "__init__" "Tracker.__init__" sTrackerU_initU
  m1 : MAt K C "value" "Tracker.value" sTracker_value

structure KRun (K : PySem.W.Frag) (mg : Str → Option Value) (C : Addr) : Prop where
  c : CAt K mg "Run" C
  n0 : PySem.W.findIn K (.ref C) "_circuit" = some none
  n1 : PySem.W.findIn K (.ref C) "_waves" = some none
  n2 : PySem.W.findIn K (.ref C) "_tracker" = some none
  m0 : MAt K C "__init__" "Run.__init__" sRunU_initU
  m1 : MAt K C "source_value" "Run.source_value" sRun_source_value
  m2 : MAt K C "value" "Run.value" sRun_value
  m3 : MAt K C "respects" "Run.respects" sRun_respects

structure KSettled (K : PySem.W.Frag) (mg : Str → Option Value) (C : Addr) : Prop where
  c : CAt K mg "Settled" C
  n0 : PySem.W.findIn K (.ref C) "_circuit" = some none
  n1 : PySem.W.findIn K (.ref C) "_windows" = some none
  n2 : PySem.W.findIn K (.ref C) "_driven" = some none
  n3 : PySem.W.findIn K (.ref C) "_known" = some none
  n4 : PySem.W.findIn K (.ref C) "_values" = some none
  m0 : MAt K C "__init__" "Settled.__init__" sSettledU_initU
  m1 : MAt K C "_check" "Settled._check" sSettledUcheck
  m2 : MAt K C "settled_value" "Settled.settled_value" sSettled_settled_value
  m3 : MAt K C "fits" "Settled.fits" sSettled_fits
  m4 : MAt K C "marks" "Settled.marks" sSettled_marks
  m5 : MAt K C "is_settled" "Settled.is_settled" sSettled_is_settled

structure KBt (K : PySem.W.Frag) (mg : Str → Option Value) : Prop where
  bt : Bt mg
theorem mkBt {K : PySem.W.Frag} {h : Heap} {mg : Str → Option Value} (X : K.In h) (N : h.Ns mainGlobals mg) (z0 : PySem.W.nsIn K mainGlobals "len" = some none) (z1 : PySem.W.nsIn K mainGlobals "list" = some none) (z2 : PySem.W.nsIn K mainGlobals "tuple" = some none) (z3 : PySem.W.nsIn K mainGlobals "int" = some none) (z4 : PySem.W.nsIn K mainGlobals "bool" = some none) (z5 : PySem.W.nsIn K mainGlobals "str" = some none) (z6 : PySem.W.nsIn K mainGlobals "range" = some none) (z7 : PySem.W.nsIn K mainGlobals "zip" = some none) (z8 : PySem.W.nsIn K mainGlobals "enumerate" = some none) (z9 : PySem.W.nsIn K mainGlobals "min" = some none) (z10 : PySem.W.nsIn K mainGlobals "max" = some none) (z11 : PySem.W.nsIn K mainGlobals "sum" = some none) (z12 : PySem.W.nsIn K mainGlobals "all" = some none) (z13 : PySem.W.nsIn K mainGlobals "isinstance" = some none) : Bt mg :=
  ⟨PySem.W.mg_none_of X N z0, PySem.W.mg_none_of X N z1, PySem.W.mg_none_of X N z2, PySem.W.mg_none_of X N z3, PySem.W.mg_none_of X N z4, PySem.W.mg_none_of X N z5, PySem.W.mg_none_of X N z6, PySem.W.mg_none_of X N z7, PySem.W.mg_none_of X N z8, PySem.W.mg_none_of X N z9, PySem.W.mg_none_of X N z10, PySem.W.mg_none_of X N z11, PySem.W.mg_none_of X N z12, PySem.W.mg_none_of X N z13⟩
section
variable {P : Program} {w : World} {K : PySem.W.Frag} {mg : Str → Option Value} {base : Heap} {x : Str} {C : Addr} {st : Stmt} {k : Nat} {ps : List Str} {sp : Sp}
theorem DAt.ok (D : DAt K mg x st) (b : ∀ {f fd}, Fun K x x st f fd → Binds K fd ps []) (o : ∀ {f fd}, Fun K x x st f fd → FnOk P w K mg base CX0 k f fd ps sp) : Ok P w K mg base x k ps sp := by
  obtain ⟨f, fd, F, e⟩ := D.ex
  exact ⟨⟨f, fd, o F, e, F.kp, b F⟩⟩
theorem MAt.ok {m qual : Str} (M : MAt K C m qual st) (c : Cls K C) (b : ∀ {f fd}, Fun K m qual st f fd → Binds K fd ps []) (o : ∀ {f fd}, Fun K m qual st f fd → Meth K C m f → FnOk P w K mg base CX0 k f fd ps sp) : MOk P w K mg base C m k ps sp := by
  obtain ⟨f, fd, F, M⟩ := M.ex
  exact ⟨⟨f, fd, o F M, M, b F⟩, c⟩
theorem CAt.ok {qual : Str} (c : CAt K mg x C) (M : MAt K C "__init__" qual st) (b : ∀ {f fd}, Fun K "__init__" qual st f fd → Binds K fd ps []) (o : ∀ {f fd}, Fun K "__init__" qual st f fd → FnOk P w K mg base CX0 k f fd ps sp) : COk P w K mg base x C k ps sp := by
  obtain ⟨f, fd, F, M⟩ := M.ex
  exact ⟨⟨f, fd, o F, ⟨c.makes, M.at_, M.fn, c.kp⟩, b F⟩, c.mgC⟩
end
theorem vals_app : ∀ {vs : List V} {us : List Value} {zs : List V} {ws : List Value}, Vals vs us → Vals zs ws → Vals (vs ++ zs) (us ++ ws)
  | _, _, _, _, .nil, h => h
  | _, _, _, _, .cons r t, h => .cons r (vals_app t h)
theorem all_ok {P : Program} {w : World} {K : PySem.W.Frag} {mg : Str → Option Value} {fa CW CT CR CS : Addr} (hfa : mg "law" = some (.ref fa)) (B : Bt mg) (kW : KWaveform K mg CW) (kT : KTracker K mg CT) (kR : KRun K mg CR) (kS : KSettled K mg CS) (dlook_up : DAt K mg "look_up" slook_up) (dagrees : DAt K mg "agrees" sagrees) (dforced : DAt K mg "forced" sforced) (dsources : DAt K mg "sources" ssources) (dall_nets : DAt K mg "all_nets" sall_nets) (dcheck_net : DAt K mg "check_net" scheck_net) (ddrivers : DAt K mg "drivers" sdrivers) (dgate_order : DAt K mg "gate_order" sgate_order) (dsettle : DAt K mg "settle" ssettle) (din_window : DAt K mg "in_window" sin_window) (dholds : DAt K mg "holds" sholds) (dcheck_delays : DAt K mg "check_delays" scheck_delays) (d_law_same : DAt K mg "_law_same" s_law_same) (d_law_pool : DAt K mg "_law_pool" s_law_pool) (d_law_spread : DAt K mg "_law_spread" s_law_spread) (d_law_draw : DAt K mg "_law_draw" s_law_draw) (d_law_names : DAt K mg "_law_names" s_law_names) (d_law_span : DAt K mg "_law_span" s_law_span) (d_law_gate : DAt K mg "_law_gate" s_law_gate) (d_law_times : DAt K mg "_law_times" s_law_times) (d_law_circuit : DAt K mg "_law_circuit" s_law_circuit) (d_law_sources : DAt K mg "_law_sources" s_law_sources) (d_law_nets : DAt K mg "_law_nets" s_law_nets) (d_law_sorted_gates : DAt K mg "_law_sorted_gates" s_law_sorted_gates) (d_law_settle : DAt K mg "_law_settle" s_law_settle) (d_law_vector : DAt K mg "_law_vector" s_law_vector) (d_law_window : DAt K mg "_law_window" s_law_window) (d_law_inside : DAt K mg "_law_inside" s_law_inside) (d_law_delays : DAt K mg "_law_delays" s_law_delays) (d_law_wave : DAt K mg "_law_wave" s_law_wave) (dlaw : DAt K mg "law" slaw) :
    ∃ fd : FuncData, (∀ (s : Shared) (v : Value), BindsTo s fd ⟨[v], []⟩ [("_law_script", v)]) ∧ ∀ base : Heap, FnOk P w K mg base CX0 18 fa fd ["_law_script"] (spLaw K) := by
  obtain ⟨f, fd, F, e⟩ := dlaw.ex
  have e2 := hfa.symm.trans e
  cases e2
  refine ⟨fd, fun s v => ?_, fun base => ?_⟩
  · obtain ⟨oc, od, kV, doc, pm, an, cdv, ct, osl, rfl, lk, hcd⟩ := F.ex
    exact .of_eq rfl
  · let Y : Cs := ⟨CW, CT, CR⟩
    have WC : WvC K CW := ⟨kW.c.cls, kW.n0, kW.n1⟩
    have TC : TrC K CT := ⟨kT.c.cls, kT.n0, kT.n1, kT.n2, kT.n3, kT.n4⟩
    have RC : RnC K CR := ⟨kR.c.cls, kR.n0, kR.n1, kR.n2⟩
    have SC : SeC K CS := ⟨kS.c.cls, kS.n0, kS.n1, kS.n2, kS.n3, kS.n4⟩
    have D_look_up : Ok P w K mg base "look_up" 1 ["table", "bits"] _ := dlook_up.ok (fun F => F.binds (ps := ["table", "bits"]) fun _ _ _ _ _ _ us hl => match us, hl with | [_, _], _ => rfl) fun F => ok_look_up F B
    have D_agrees : Ok P w K mg base "agrees" 1 ["index", "partial"] _ := dagrees.ok (fun F => F.binds (ps := ["index", "partial"]) fun _ _ _ _ _ _ us hl => match us, hl with | [_, _], _ => rfl) fun F => ok_agrees F B
    have D_forced : Ok P w K mg base "forced" 2 ["table", "partial"] _ := dforced.ok (fun F => F.binds (ps := ["table", "partial"]) fun _ _ _ _ _ _ us hl => match us, hl with | [_, _], _ => rfl) fun F => ok_forced F B D_agrees
    have D_sources : Ok P w K mg base "sources" 1 ["circuit"] _ := dsources.ok (fun F => F.binds (ps := ["circuit"]) fun _ _ _ _ _ _ us hl => match us, hl with | [_], _ => rfl) fun F => ok_sources F B
    have D_all_nets : Ok P w K mg base "all_nets" 2 ["circuit"] _ := dall_nets.ok (fun F => F.binds (ps := ["circuit"]) fun _ _ _ _ _ _ us hl => match us, hl with | [_], _ => rfl) fun F => ok_all_nets F B D_sources
    have D_check_net : Ok P w K mg base "check_net" 3 ["circuit", "net"] _ := dcheck_net.ok (fun F => F.binds (ps := ["circuit", "net"]) fun _ _ _ _ _ _ us hl => match us, hl with | [_, _], _ => rfl) fun F => ok_check_net F B D_all_nets
    have D_drivers : Ok P w K mg base "drivers" 1 ["circuit"] _ := ddrivers.ok (fun F => F.binds (ps := ["circuit"]) fun _ _ _ _ _ _ us hl => match us, hl with | [_], _ => rfl) fun F => ok_drivers F B
    have D_gate_order : Ok P w K mg base "gate_order" 2 ["circuit"] _ := dgate_order.ok (fun F => F.binds (ps := ["circuit"]) fun _ _ _ _ _ _ us hl => match us, hl with | [_], _ => rfl) fun F => ok_gate_order F B D_drivers
    have D_settle : Ok P w K mg base "settle" 3 ["circuit", "vector"] _ := dsettle.ok (fun F => F.binds (ps := ["circuit", "vector"]) fun _ _ _ _ _ _ us hl => match us, hl with | [_, _], _ => rfl) fun F => ok_settle F B D_sources D_gate_order D_look_up
    have D_in_window : Ok P w K mg base "in_window" 1 ["window", "time"] _ := din_window.ok (fun F => F.binds (ps := ["window", "time"]) fun _ _ _ _ _ _ us hl => match us, hl with | [_, _], _ => rfl) fun F => ok_in_window F B
    have D_Waveform : COk P w K mg base "Waveform" CW 1 ["self", "start", "changes"] _ := kW.c.ok kW.m0 (fun F => F.binds (ps := ["self", "start", "changes"]) fun _ _ _ _ _ _ us hl => match us, hl with | [_, _, _], _ => rfl) fun F => ok_w_init F B WC
    have D_changes : MOk P w K mg base CW "changes" 1 ["self"] _ := kW.m1.ok kW.c.cls (fun F => F.binds (ps := ["self"]) fun _ _ _ _ _ _ us hl => match us, hl with | [_], _ => rfl) fun F M => ok_w_changes F B WC
    have D_value_at : MOk P w K mg base CW "value_at" 1 ["self", "time"] _ := kW.m2.ok kW.c.cls (fun F => F.binds (ps := ["self", "time"]) fun _ _ _ _ _ _ us hl => match us, hl with | [_, _], _ => rfl) fun F M => ok_w_value_at F B WC
    have D_holds : Ok P w K mg base "holds" 2 ["waveform", "value", "window"] _ := dholds.ok (fun F => F.binds (ps := ["waveform", "value", "window"]) fun _ _ _ _ _ _ us hl => match us, hl with | [_, _, _], _ => rfl) fun F => ok_holds F B D_in_window D_changes D_value_at
    have D_check_delays : Ok P w K mg base "check_delays" 1 ["circuit", "delays"] _ := dcheck_delays.ok (fun F => F.binds (ps := ["circuit", "delays"]) fun _ _ _ _ _ _ us hl => match us, hl with | [_, _], _ => rfl) fun F => ok_check_delays F B
    have D_Tracker : COk P w K mg base "Tracker" CT 2 ["self", "circuit", "delays", "origin"] _ := kT.c.ok kT.m0 (fun F => F.binds (ps := ["self", "circuit", "delays", "origin"]) fun _ _ _ _ _ _ us hl => match us, hl with | [_, _, _, _], _ => rfl) fun F => ok_tr_init (P := P) (w := w) F B TC D_drivers
    have D_Run : COk P w K mg base "Run" CR 4 ["self", "circuit", "waves", "delays"] _ := kR.c.ok kR.m0 (fun F => F.binds (ps := ["self", "circuit", "waves", "delays"]) fun _ _ _ _ _ _ us hl => match us, hl with | [_, _, _, _], _ => rfl) fun F => ok_run_init (Y := Y) F B RC D_sources D_check_delays D_Tracker
    have D_source_value : MOk P w K mg base CR "source_value" 2 ["self", "net", "time"] _ := kR.m1.ok kR.c.cls (fun F => F.binds (ps := ["self", "net", "time"]) fun _ _ _ _ _ _ us hl => match us, hl with | [_, _, _], _ => rfl) fun F M => ok_source_value (Y := Y) F B RC D_value_at
    have D_tr_value : MOk P w K mg base CT "value" 9 ["self", "net", "time"] _ := kT.m1.ok kT.c.cls (fun F => F.binds (ps := ["self", "net", "time"]) fun _ _ _ _ _ _ us hl => match us, hl with | [_, _, _], _ => rfl) fun F M => ok_tr_all (Y := Y) F B TC M (F.binds (ps := ["self", "net", "time"]) fun _ _ _ _ _ _ us hl => match us, hl with | [_, _, _], _ => rfl) D_look_up D_source_value 6
    have D_run_value : MOk P w K mg base CR "value" 10 ["self", "net", "time"] _ := kR.m2.ok kR.c.cls (fun F => F.binds (ps := ["self", "net", "time"]) fun _ _ _ _ _ _ us hl => match us, hl with | [_, _, _], _ => rfl) fun F M => ok_run_value (Y := Y) F B RC D_check_net D_tr_value
    have D_respects : MOk P w K mg base CR "respects" 3 ["self", "vector", "windows"] _ := kR.m3.ok kR.c.cls (fun F => F.binds (ps := ["self", "vector", "windows"]) fun _ _ _ _ _ _ us hl => match us, hl with | [_, _, _], _ => rfl) fun F M => ok_respects (Y := Y) F B RC D_sources D_holds
    have D_Settled : COk P w K mg base "Settled" CS 2 ["self", "circuit", "windows"] _ := kS.c.ok kS.m0 (fun F => F.binds (ps := ["self", "circuit", "windows"]) fun _ _ _ _ _ _ us hl => match us, hl with | [_, _, _], _ => rfl) fun F => ok_set_init (P := P) (w := w) F B SC D_sources D_drivers
    have D_check : MOk P w K mg base CS "_check" 4 ["self", "net", "vector"] _ := kS.m1.ok kS.c.cls (fun F => F.binds (ps := ["self", "net", "vector"]) fun _ _ _ _ _ _ us hl => match us, hl with | [_, _, _], _ => rfl) fun F M => ok_check (P := P) (w := w) F B SC D_check_net
    have D_settled_value : MOk P w K mg base CS "settled_value" 4 ["self", "net", "vector"] _ := kS.m2.ok kS.c.cls (fun F => F.binds (ps := ["self", "net", "vector"]) fun _ _ _ _ _ _ us hl => match us, hl with | [_, _, _], _ => rfl) fun F M => ok_settled_value (P := P) (w := w) F B SC D_settle
    obtain ⟨fm, fdm, Fm, Mm⟩ := kS.m4.ex
    have bm := Fm.binds (ps := ["self", "net", "time", "vector"]) fun _ _ _ _ _ _ us hl => match us, hl with | [_, _, _, _], _ => rfl
    have D_fits : MOk P w K mg base CS "fits" 16 ["self", "net", "time", "vector"] _ := kS.m3.ok kS.c.cls (fun F => F.binds (ps := ["self", "net", "time", "vector"]) fun _ _ _ _ _ _ us hl => match us, hl with | [_, _, _, _], _ => rfl) fun F M => ok_fits_all (P := P) (w := w) F Fm B SC M Mm (F.binds (ps := ["self", "net", "time", "vector"]) fun _ _ _ _ _ _ us hl => match us, hl with | [_, _, _, _], _ => rfl) bm D_in_window D_forced D_settled_value 6
    have D_is_settled : MOk P w K mg base CS "is_settled" 17 ["self", "net", "time", "vector"] _ := kS.m5.ok kS.c.cls (fun F => F.binds (ps := ["self", "net", "time", "vector"]) fun _ _ _ _ _ _ us hl => match us, hl with | [_, _, _, _], _ => rfl) fun F M => ok_is_settled (P := P) (w := w) F B SC D_check D_fits
    have D_of_bits : CMOk P w K mg base "Waveform" CW "of_bits" 3 2 ["cls", "first", "bits", "before", "after"] ["before", "after"] (spOfBits CW) := by
      obtain ⟨g, p, fd, F, rd, cm⟩ := kW.o.ex
      refine ⟨⟨g, p, _, fd, ok_of_bits F B D_Waveform, rd, cm, ⟨fun s us ws _ h1 h2 => ?_, fun r1 r2 => vals_app r1 r2⟩⟩, kW.c.mgC⟩
      obtain ⟨oc, od, kV, doc, pm, an, cdv, ct, osl, rfl, lk, hcd⟩ := F.ex
      match us, ws, h1, h2 with
      | [_, _, _], [_, _], _, _ => exact .of_eq rfl
    have S0 : Ok P w K mg base "_law_same" 1 ["_law_actual", "_law_due"] spNo := d_law_same.ok (fun F => F.binds (ps := ["_law_actual", "_law_due"]) fun _ _ _ _ _ _ us hl => match us, hl with | [_, _], _ => rfl) fun F => ok_same_no F
    have D__law_same : Ok P w K mg base "_law_same" 2 ["_law_actual", "_law_due"] _ := d_law_same.ok (fun F => F.binds (ps := ["_law_actual", "_law_due"]) fun _ _ _ _ _ _ us hl => match us, hl with | [_, _], _ => rfl) fun F => ok_same F B S0
    have D__law_pool : Ok P w K mg base "_law_pool" 1 ["_law_script"] _ := d_law_pool.ok (fun F => F.binds (ps := ["_law_script"]) fun _ _ _ _ _ _ us hl => match us, hl with | [_], _ => rfl) fun F => ok_pool F B
    have D__law_spread : Ok P w K mg base "_law_spread" 1 ["_law_cell"] _ := d_law_spread.ok (fun F => F.binds (ps := ["_law_cell"]) fun _ _ _ _ _ _ us hl => match us, hl with | [_], _ => rfl) fun F => ok_spread F B
    have D__law_draw : Ok P w K mg base "_law_draw" 2 ["_law_pool_here", "_law_many"] _ := d_law_draw.ok (fun F => F.binds (ps := ["_law_pool_here", "_law_many"]) fun _ _ _ _ _ _ us hl => match us, hl with | [_, _], _ => rfl) fun F => ok_draw F B D__law_spread
    have D__law_names : Ok P w K mg base "_law_names" 3 ["_law_pool_here", "_law_many"] _ := d_law_names.ok (fun F => F.binds (ps := ["_law_pool_here", "_law_many"]) fun _ _ _ _ _ _ us hl => match us, hl with | [_, _], _ => rfl) fun F => ok_names F B D__law_draw
    have D__law_span : Ok P w K mg base "_law_span" 3 ["_law_pool_here"] _ := d_law_span.ok (fun F => F.binds (ps := ["_law_pool_here"]) fun _ _ _ _ _ _ us hl => match us, hl with | [_], _ => rfl) fun F => ok_span F B D__law_draw
    have D__law_gate : Ok P w K mg base "_law_gate" 4 ["_law_pool_here", "_law_name", "_law_nets_here"] _ := d_law_gate.ok (fun F => F.binds (ps := ["_law_pool_here", "_law_name", "_law_nets_here"]) fun _ _ _ _ _ _ us hl => match us, hl with | [_, _, _], _ => rfl) fun F => ok_gate F B D__law_draw D__law_span
    have D__law_times : Ok P w K mg base "_law_times" 3 ["_law_pool_here"] _ := d_law_times.ok (fun F => F.binds (ps := ["_law_pool_here"]) fun _ _ _ _ _ _ us hl => match us, hl with | [_], _ => rfl) fun F => ok_times F B D__law_draw
    have D__law_circuit : Ok P w K mg base "_law_circuit" 5 ["_law_pool_here", "_law_inputs", "_law_regs", "_law_most"] _ := d_law_circuit.ok (fun F => F.binds (ps := ["_law_pool_here", "_law_inputs", "_law_regs", "_law_most"]) fun _ _ _ _ _ _ us hl => match us, hl with | [_, _, _, _], _ => rfl) fun F => ok_circuit F B D__law_draw D__law_names D__law_gate D__law_times
    have D__law_sources : Ok P w K mg base "_law_sources" 1 ["_law_circuit_here"] _ := d_law_sources.ok (fun F => F.binds (ps := ["_law_circuit_here"]) fun _ _ _ _ _ _ us hl => match us, hl with | [_], _ => rfl) fun F => ok_law_sources F B
    have D__law_nets : Ok P w K mg base "_law_nets" 2 ["_law_circuit_here"] _ := d_law_nets.ok (fun F => F.binds (ps := ["_law_circuit_here"]) fun _ _ _ _ _ _ us hl => match us, hl with | [_], _ => rfl) fun F => ok_law_nets F B D__law_sources
    have D__law_sorted_gates : Ok P w K mg base "_law_sorted_gates" 2 ["_law_circuit_here"] _ := d_law_sorted_gates.ok (fun F => F.binds (ps := ["_law_circuit_here"]) fun _ _ _ _ _ _ us hl => match us, hl with | [_], _ => rfl) fun F => ok_sorted F B D__law_sources
    have D__law_settle : Ok P w K mg base "_law_settle" 3 ["_law_circuit_here", "_law_vector_here"] _ := d_law_settle.ok (fun F => F.binds (ps := ["_law_circuit_here", "_law_vector_here"]) fun _ _ _ _ _ _ us hl => match us, hl with | [_, _], _ => rfl) fun F => ok_law_settle F B D__law_sources D__law_sorted_gates
    have D__law_vector : Ok P w K mg base "_law_vector" 3 ["_law_pool_here", "_law_many"] _ := d_law_vector.ok (fun F => F.binds (ps := ["_law_pool_here", "_law_many"]) fun _ _ _ _ _ _ us hl => match us, hl with | [_, _], _ => rfl) fun F => ok_vector F B D__law_draw
    have D__law_window : Ok P w K mg base "_law_window" 3 ["_law_pool_here", "_law_since", "_law_until"] _ := d_law_window.ok (fun F => F.binds (ps := ["_law_pool_here", "_law_since", "_law_until"]) fun _ _ _ _ _ _ us hl => match us, hl with | [_, _, _], _ => rfl) fun F => ok_window F B D__law_draw
    have D__law_inside : Ok P w K mg base "_law_inside" 1 ["_law_window_here", "_law_time"] _ := d_law_inside.ok (fun F => F.binds (ps := ["_law_window_here", "_law_time"]) fun _ _ _ _ _ _ us hl => match us, hl with | [_, _], _ => rfl) fun F => ok_inside F B
    have D__law_delays : Ok P w K mg base "_law_delays" 3 ["_law_pool_here", "_law_circuit_here", "_law_most"] _ := d_law_delays.ok (fun F => F.binds (ps := ["_law_pool_here", "_law_circuit_here", "_law_most"]) fun _ _ _ _ _ _ us hl => match us, hl with | [_, _, _], _ => rfl) fun F => ok_delays F B D__law_draw
    have D__law_wave : Ok P w K mg base "_law_wave" 4 ["_law_pool_here", "_law_window_here", "_law_value_here"] _ := d_law_wave.ok (fun F => F.binds (ps := ["_law_pool_here", "_law_window_here", "_law_value_here"]) fun _ _ _ _ _ _ us hl => match us, hl with | [_, _, _], _ => rfl) fun F => ok_wave F B D__law_draw D__law_inside D_of_bits
    exact ok_law (Y := Y) F B D__law_pool D__law_draw D__law_circuit D__law_sources D__law_window D__law_vector D__law_delays D__law_wave D_Run D__law_same D_respects D_Settled D__law_settle D__law_nets D_is_settled D_run_value
end L2.Sg

/-! the walk of the law from all promises -/
namespace L2.Sg
open PySem PySem.Spec PyProof.Rows L2.Lx ClX
theorem walk {l : PySem.W.OpenLaw} {q : Program} {loose : List Str} {XP : (Str → Option Value) → Heap → Prop} {YP : World → Heap → Prop} {d : DefRec} {K : Params → PySem.W.Frag} (hn : l.most = some 63) (hdf : d.params.defaults = [])
    (hY : ∀ (w : World) (h : Heap), YP w h → (K w.params).In h)
    (F : ∀ (w : World) (mg : Str → Option Value) (fa : Addr) (h : Heap), (K w.params).In h → h.Ns mainGlobals mg → mg d.name = some (.ref fa) →
      ∃ fd : FuncData, (∀ (s : Shared) (u : Value), BindsTo s fd ⟨[u], []⟩ [("_law_script", u)]) ∧ ∀ base : Heap, (K w.params).In base → base.Ns mainGlobals mg → FnOk l.prog w (K w.params) mg base CX0 18 fa fd ["_law_script"] (spLaw (K w.params))) :
    PySem.W.WalkO q loose XP YP l.row.toRowW d [] (fun f vs => PySem.call f vs) :=
  L2.walk_of (n := 63) (k := 18) (x := "_law_script") (CX := fun _ => CX0) (sp := fun w => spLaw (K w.params)) hn (by decide) hdf ⟨rfl, by decide, by decide⟩ hY F (fun _ _ a ns hl _ hS => ⟨a, ns, rfl, hS, Nat.le_trans hl (by decide), fun _ => rfl⟩) fun _ _ _ _ _ z => z
theorem withD {R : Prop} {K : PySem.W.Frag} {h : Heap} {mg : Str → Option Value} {f : Addr} {od an : Option Addr} {sl : Array (Option Value)} {oc kV dc pm cd ct : Value} {x : Str} {st : Stmt} (X : K.In h) (N : h.Ns mainGlobals mg) (a : PySem.W.nsIn K mainGlobals x = some (some (.ref f))) (l : K.lookup f = some ⟨oc, od, .func (PySem.W.fnOf x x (defArgs st) (defBody st) (defScope st) .none kV dc pm an cd ct), sl⟩)
    (c : PySem.W.codeIn K cd x = true) (k : PySem.W.keepIn K (.ref f) = true) (r : DAt K mg x st → R) : R := r (mkD X N a l c k)
theorem withC {R : Prop} {Pp : Addr → Prop} {C : Addr} (h : Pp C) (r : ∀ C, Pp C → R) : R := r C h
theorem withB {R : Prop} {mg : Str → Option Value} (b : Bt mg) (r : Bt mg → R) : R := r b
end L2.Sg

set_option Elab.async false
set_option maxRecDepth 100000
set_option maxHeartbeats 0
open PySem PySem.W PyProof.Rows in
theorem PySem.Challenge.cw_signoff_k49_whole_settled_nets_never_str_holds : PySem.Challenge.rw_signoff_k49_whole_settled_nets_never_str.Holds := by
  w_on; o_law; k_head; (case hw => w_witness2)
  k_fill
  refine L2.Sg.walk (l := PySem.Challenge.rw_signoff_k49_whole_settled_nets_never_str) rfl rfl (fun w h Y => PySem.W.kIn_of Y) ?F
  case F =>
    intro w mg fa h KX N hmg
    refine' L2.Sg.withD (x := "look_up") (st := L2.Sg.slook_up) KX N ?a0 ?l0 ?c0 ?k0 ?r0
    (case a0 => k_is)
    (case l0 => k_is)
    (case c0 => k_is)
    (case k0 => k_is)
    intro dlook_up
    refine' L2.Sg.withD (x := "agrees") (st := L2.Sg.sagrees) KX N ?a1 ?l1 ?c1 ?k1 ?r1
    (case a1 => k_is)
    (case l1 => k_is)
    (case c1 => k_is)
    (case k1 => k_is)
    intro dagrees
    refine' L2.Sg.withD (x := "forced") (st := L2.Sg.sforced) KX N ?a2 ?l2 ?c2 ?k2 ?r2
    (case a2 => k_is)
    (case l2 => k_is)
    (case c2 => k_is)
    (case k2 => k_is)
    intro dforced
    refine' L2.Sg.withD (x := "sources") (st := L2.Sg.ssources) KX N ?a3 ?l3 ?c3 ?k3 ?r3
    (case a3 => k_is)
    (case l3 => k_is)
    (case c3 => k_is)
    (case k3 => k_is)
    intro dsources
    refine' L2.Sg.withD (x := "all_nets") (st := L2.Sg.sall_nets) KX N ?a4 ?l4 ?c4 ?k4 ?r4
    (case a4 => k_is)
    (case l4 => k_is)
    (case c4 => k_is)
    (case k4 => k_is)
    intro dall_nets
    refine' L2.Sg.withD (x := "check_net") (st := L2.Sg.scheck_net) KX N ?a5 ?l5 ?c5 ?k5 ?r5
    (case a5 => k_is)
    (case l5 => k_is)
    (case c5 => k_is)
    (case k5 => k_is)
    intro dcheck_net
    refine' L2.Sg.withD (x := "drivers") (st := L2.Sg.sdrivers) KX N ?a6 ?l6 ?c6 ?k6 ?r6
    (case a6 => k_is)
    (case l6 => k_is)
    (case c6 => k_is)
    (case k6 => k_is)
    intro ddrivers
    refine' L2.Sg.withD (x := "gate_order") (st := L2.Sg.sgate_order) KX N ?a7 ?l7 ?c7 ?k7 ?r7
    (case a7 => k_is)
    (case l7 => k_is)
    (case c7 => k_is)
    (case k7 => k_is)
    intro dgate_order
    refine' L2.Sg.withD (x := "settle") (st := L2.Sg.ssettle) KX N ?a8 ?l8 ?c8 ?k8 ?r8
    (case a8 => k_is)
    (case l8 => k_is)
    (case c8 => k_is)
    (case k8 => k_is)
    intro dsettle
    refine' L2.Sg.withD (x := "in_window") (st := L2.Sg.sin_window) KX N ?a9 ?l9 ?c9 ?k9 ?r9
    (case a9 => k_is)
    (case l9 => k_is)
    (case c9 => k_is)
    (case k9 => k_is)
    intro din_window
    refine' L2.Sg.withD (x := "holds") (st := L2.Sg.sholds) KX N ?a10 ?l10 ?c10 ?k10 ?r10
    (case a10 => k_is)
    (case l10 => k_is)
    (case c10 => k_is)
    (case k10 => k_is)
    intro dholds
    refine' L2.Sg.withD (x := "check_delays") (st := L2.Sg.scheck_delays) KX N ?a11 ?l11 ?c11 ?k11 ?r11
    (case a11 => k_is)
    (case l11 => k_is)
    (case c11 => k_is)
    (case k11 => k_is)
    intro dcheck_delays
    refine' L2.Sg.withD (x := "_law_same") (st := L2.Sg.s_law_same) KX N ?a12 ?l12 ?c12 ?k12 ?r12
    (case a12 => k_is)
    (case l12 => k_is)
    (case c12 => k_is)
    (case k12 => k_is)
    intro d_law_same
    refine' L2.Sg.withD (x := "_law_pool") (st := L2.Sg.s_law_pool) KX N ?a13 ?l13 ?c13 ?k13 ?r13
    (case a13 => k_is)
    (case l13 => k_is)
    (case c13 => k_is)
    (case k13 => k_is)
    intro d_law_pool
    refine' L2.Sg.withD (x := "_law_spread") (st := L2.Sg.s_law_spread) KX N ?a14 ?l14 ?c14 ?k14 ?r14
    (case a14 => k_is)
    (case l14 => k_is)
    (case c14 => k_is)
    (case k14 => k_is)
    intro d_law_spread
    refine' L2.Sg.withD (x := "_law_draw") (st := L2.Sg.s_law_draw) KX N ?a15 ?l15 ?c15 ?k15 ?r15
    (case a15 => k_is)
    (case l15 => k_is)
    (case c15 => k_is)
    (case k15 => k_is)
    intro d_law_draw
    refine' L2.Sg.withD (x := "_law_names") (st := L2.Sg.s_law_names) KX N ?a16 ?l16 ?c16 ?k16 ?r16
    (case a16 => k_is)
    (case l16 => k_is)
    (case c16 => k_is)
    (case k16 => k_is)
    intro d_law_names
    refine' L2.Sg.withD (x := "_law_span") (st := L2.Sg.s_law_span) KX N ?a17 ?l17 ?c17 ?k17 ?r17
    (case a17 => k_is)
    (case l17 => k_is)
    (case c17 => k_is)
    (case k17 => k_is)
    intro d_law_span
    refine' L2.Sg.withD (x := "_law_gate") (st := L2.Sg.s_law_gate) KX N ?a18 ?l18 ?c18 ?k18 ?r18
    (case a18 => k_is)
    (case l18 => k_is)
    (case c18 => k_is)
    (case k18 => k_is)
    intro d_law_gate
    refine' L2.Sg.withD (x := "_law_times") (st := L2.Sg.s_law_times) KX N ?a19 ?l19 ?c19 ?k19 ?r19
    (case a19 => k_is)
    (case l19 => k_is)
    (case c19 => k_is)
    (case k19 => k_is)
    intro d_law_times
    refine' L2.Sg.withD (x := "_law_circuit") (st := L2.Sg.s_law_circuit) KX N ?a20 ?l20 ?c20 ?k20 ?r20
    (case a20 => k_is)
    (case l20 => k_is)
    (case c20 => k_is)
    (case k20 => k_is)
    intro d_law_circuit
    refine' L2.Sg.withD (x := "_law_sources") (st := L2.Sg.s_law_sources) KX N ?a21 ?l21 ?c21 ?k21 ?r21
    (case a21 => k_is)
    (case l21 => k_is)
    (case c21 => k_is)
    (case k21 => k_is)
    intro d_law_sources
    refine' L2.Sg.withD (x := "_law_nets") (st := L2.Sg.s_law_nets) KX N ?a22 ?l22 ?c22 ?k22 ?r22
    (case a22 => k_is)
    (case l22 => k_is)
    (case c22 => k_is)
    (case k22 => k_is)
    intro d_law_nets
    refine' L2.Sg.withD (x := "_law_sorted_gates") (st := L2.Sg.s_law_sorted_gates) KX N ?a23 ?l23 ?c23 ?k23 ?r23
    (case a23 => k_is)
    (case l23 => k_is)
    (case c23 => k_is)
    (case k23 => k_is)
    intro d_law_sorted_gates
    refine' L2.Sg.withD (x := "_law_settle") (st := L2.Sg.s_law_settle) KX N ?a24 ?l24 ?c24 ?k24 ?r24
    (case a24 => k_is)
    (case l24 => k_is)
    (case c24 => k_is)
    (case k24 => k_is)
    intro d_law_settle
    refine' L2.Sg.withD (x := "_law_vector") (st := L2.Sg.s_law_vector) KX N ?a25 ?l25 ?c25 ?k25 ?r25
    (case a25 => k_is)
    (case l25 => k_is)
    (case c25 => k_is)
    (case k25 => k_is)
    intro d_law_vector
    refine' L2.Sg.withD (x := "_law_window") (st := L2.Sg.s_law_window) KX N ?a26 ?l26 ?c26 ?k26 ?r26
    (case a26 => k_is)
    (case l26 => k_is)
    (case c26 => k_is)
    (case k26 => k_is)
    intro d_law_window
    refine' L2.Sg.withD (x := "_law_inside") (st := L2.Sg.s_law_inside) KX N ?a27 ?l27 ?c27 ?k27 ?r27
    (case a27 => k_is)
    (case l27 => k_is)
    (case c27 => k_is)
    (case k27 => k_is)
    intro d_law_inside
    refine' L2.Sg.withD (x := "_law_delays") (st := L2.Sg.s_law_delays) KX N ?a28 ?l28 ?c28 ?k28 ?r28
    (case a28 => k_is)
    (case l28 => k_is)
    (case c28 => k_is)
    (case k28 => k_is)
    intro d_law_delays
    refine' L2.Sg.withD (x := "_law_wave") (st := L2.Sg.s_law_wave) KX N ?a29 ?l29 ?c29 ?k29 ?r29
    (case a29 => k_is)
    (case l29 => k_is)
    (case c29 => k_is)
    (case k29 => k_is)
    intro d_law_wave
    refine' L2.Sg.withD (x := "law") (st := L2.Sg.slaw) KX N ?a30 ?l30 ?c30 ?k30 ?r30
    (case a30 => k_is)
    (case l30 => k_is)
    (case c30 => k_is)
    (case k30 => k_is)
    intro dlaw
    refine' L2.Sg.withC (Pp := L2.Sg.KWaveform _ mg) ⟨L2.Sg.mkC KX N ?aWaveform ?pgWaveform ?hdWaveform ?poWaveform ?saWaveform ?mkWaveform ?kcWaveform, ?n0Waveform, ?n1Waveform, L2.Sg.mkM ?m0Waveform ?i0Waveform ?l0Waveform ?c0Waveform ?k0Waveform, L2.Sg.mkM ?m1Waveform ?i1Waveform ?l1Waveform ?c1Waveform ?k1Waveform, L2.Sg.mkM ?m2Waveform ?i2Waveform ?l2Waveform ?c2Waveform ?k2Waveform, L2.Sg.mkO ?rdWaveform ?gaWaveform ?obWaveform ?rcWaveform ?fiWaveform ?loWaveform ?coWaveform ?koWaveform⟩ ?rWaveform
    (case aWaveform => k_is)
    (case pgWaveform => k_is)
    (case hdWaveform => k_is)
    (case poWaveform => k_is)
    (case saWaveform => k_is)
    (case mkWaveform => k_is)
    (case kcWaveform => k_is)
    (case n0Waveform => k_is)
    (case n1Waveform => k_is)
    (case m0Waveform => k_is)
    (case i0Waveform => k_is)
    (case l0Waveform => k_is)
    (case c0Waveform => k_is)
    (case k0Waveform => k_is)
    (case m1Waveform => k_is)
    (case i1Waveform => k_is)
    (case l1Waveform => k_is)
    (case c1Waveform => k_is)
    (case k1Waveform => k_is)
    (case m2Waveform => k_is)
    (case i2Waveform => k_is)
    (case l2Waveform => k_is)
    (case c2Waveform => k_is)
    (case k2Waveform => k_is)
    (case rdWaveform => k_is)
    (case gaWaveform => k_is)
    (case obWaveform => k_is)
    (case rcWaveform => k_is)
    (case fiWaveform => k_is)
    (case loWaveform => k_is)
    (case coWaveform => k_is)
    (case koWaveform => k_is)
    intro CWaveform kWaveform
    refine' L2.Sg.withC (Pp := L2.Sg.KTracker _ mg) ⟨L2.Sg.mkC KX N ?aTracker ?pgTracker ?hdTracker ?poTracker ?saTracker ?mkTracker ?kcTracker, ?n0Tracker, ?n1Tracker, ?n2Tracker, ?n3Tracker, ?n4Tracker, L2.Sg.mkM ?m0Tracker ?i0Tracker ?l0Tracker ?c0Tracker ?k0Tracker, L2.Sg.mkM ?m1Tracker ?i1Tracker ?l1Tracker ?c1Tracker ?k1Tracker⟩ ?rTracker
    (case aTracker => k_is)
    (case pgTracker => k_is)
    (case hdTracker => k_is)
    (case poTracker => k_is)
    (case saTracker => k_is)
    (case mkTracker => k_is)
    (case kcTracker => k_is)
    (case n0Tracker => k_is)
    (case n1Tracker => k_is)
    (case n2Tracker => k_is)
    (case n3Tracker => k_is)
    (case n4Tracker => k_is)
    (case m0Tracker => k_is)
    (case i0Tracker => k_is)
    (case l0Tracker => k_is)
    (case c0Tracker => k_is)
    (case k0Tracker => k_is)
    (case m1Tracker => k_is)
    (case i1Tracker => k_is)
    (case l1Tracker => k_is)
    (case c1Tracker => k_is)
    (case k1Tracker => k_is)
    intro CTracker kTracker
    refine' L2.Sg.withC (Pp := L2.Sg.KRun _ mg) ⟨L2.Sg.mkC KX N ?aRun ?pgRun ?hdRun ?poRun ?saRun ?mkRun ?kcRun, ?n0Run, ?n1Run, ?n2Run, L2.Sg.mkM ?m0Run ?i0Run ?l0Run ?c0Run ?k0Run, L2.Sg.mkM ?m1Run ?i1Run ?l1Run ?c1Run ?k1Run, L2.Sg.mkM ?m2Run ?i2Run ?l2Run ?c2Run ?k2Run, L2.Sg.mkM ?m3Run ?i3Run ?l3Run ?c3Run ?k3Run⟩ ?rRun
    (case aRun => k_is)
    (case pgRun => k_is)
    (case hdRun => k_is)
    (case poRun => k_is)
    (case saRun => k_is)
    (case mkRun => k_is)
    (case kcRun => k_is)
    (case n0Run => k_is)
    (case n1Run => k_is)
    (case n2Run => k_is)
    (case m0Run => k_is)
    (case i0Run => k_is)
    (case l0Run => k_is)
    (case c0Run => k_is)
    (case k0Run => k_is)
    (case m1Run => k_is)
    (case i1Run => k_is)
    (case l1Run => k_is)
    (case c1Run => k_is)
    (case k1Run => k_is)
    (case m2Run => k_is)
    (case i2Run => k_is)
    (case l2Run => k_is)
    (case c2Run => k_is)
    (case k2Run => k_is)
    (case m3Run => k_is)
    (case i3Run => k_is)
    (case l3Run => k_is)
    (case c3Run => k_is)
    (case k3Run => k_is)
    intro CRun kRun
    refine' L2.Sg.withC (Pp := L2.Sg.KSettled _ mg) ⟨L2.Sg.mkC KX N ?aSettled ?pgSettled ?hdSettled ?poSettled ?saSettled ?mkSettled ?kcSettled, ?n0Settled, ?n1Settled, ?n2Settled, ?n3Settled, ?n4Settled, L2.Sg.mkM ?m0Settled ?i0Settled ?l0Settled ?c0Settled ?k0Settled, L2.Sg.mkM ?m1Settled ?i1Settled ?l1Settled ?c1Settled ?k1Settled, L2.Sg.mkM ?m2Settled ?i2Settled ?l2Settled ?c2Settled ?k2Settled, L2.Sg.mkM ?m3Settled ?i3Settled ?l3Settled ?c3Settled ?k3Settled, L2.Sg.mkM ?m4Settled ?i4Settled ?l4Settled ?c4Settled ?k4Settled, L2.Sg.mkM ?m5Settled ?i5Settled ?l5Settled ?c5Settled ?k5Settled⟩ ?rSettled
    (case aSettled => k_is)
    (case pgSettled => k_is)
    (case hdSettled => k_is)
    (case poSettled => k_is)
    (case saSettled => k_is)
    (case mkSettled => k_is)
    (case kcSettled => k_is)
    (case n0Settled => k_is)
    (case n1Settled => k_is)
    (case n2Settled => k_is)
    (case n3Settled => k_is)
    (case n4Settled => k_is)
    (case m0Settled => k_is)
    (case i0Settled => k_is)
    (case l0Settled => k_is)
    (case c0Settled => k_is)
    (case k0Settled => k_is)
    (case m1Settled => k_is)
    (case i1Settled => k_is)
    (case l1Settled => k_is)
    (case c1Settled => k_is)
    (case k1Settled => k_is)
    (case m2Settled => k_is)
    (case i2Settled => k_is)
    (case l2Settled => k_is)
    (case c2Settled => k_is)
    (case k2Settled => k_is)
    (case m3Settled => k_is)
    (case i3Settled => k_is)
    (case l3Settled => k_is)
    (case c3Settled => k_is)
    (case k3Settled => k_is)
    (case m4Settled => k_is)
    (case i4Settled => k_is)
    (case l4Settled => k_is)
    (case c4Settled => k_is)
    (case k4Settled => k_is)
    (case m5Settled => k_is)
    (case i5Settled => k_is)
    (case l5Settled => k_is)
    (case c5Settled => k_is)
    (case k5Settled => k_is)
    intro CSettled kSettled
    refine' L2.Sg.withB (L2.Sg.mkBt KX N ?z0 ?z1 ?z2 ?z3 ?z4 ?z5 ?z6 ?z7 ?z8 ?z9 ?z10 ?z11 ?z12 ?z13) ?rz
    (case z0 => k_is)
    (case z1 => k_is)
    (case z2 => k_is)
    (case z3 => k_is)
    (case z4 => k_is)
    (case z5 => k_is)
    (case z6 => k_is)
    (case z7 => k_is)
    (case z8 => k_is)
    (case z9 => k_is)
    (case z10 => k_is)
    (case z11 => k_is)
    (case z12 => k_is)
    (case z13 => k_is)
    intro bt
    obtain ⟨fd, hb, hF⟩ := L2.Sg.all_ok (P := (PySem.Challenge.rw_signoff_k49_whole_settled_nets_never_str).prog) (w := w) hmg bt kWaveform kTracker kRun kSettled dlook_up dagrees dforced dsources dall_nets dcheck_net ddrivers dgate_order dsettle din_window dholds dcheck_delays d_law_same d_law_pool d_law_spread d_law_draw d_law_names d_law_span d_law_gate d_law_times d_law_circuit d_law_sources d_law_nets d_law_sorted_gates d_law_settle d_law_vector d_law_window d_law_inside d_law_delays d_law_wave dlaw
    exact ⟨fd, hb, fun base _ _ => hF base⟩
#print axioms PySem.Challenge.cw_signoff_k49_whole_settled_nets_never_str_holds

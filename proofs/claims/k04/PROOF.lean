import PyProof.Rows.All
import Wide.All
import OpenK.AllK
import Wide.FinOn
import HandS.ForMost
import HandS.ForExc
import HandS.Walk
import HandS.TupAny
import HandS.TupMul
import HandS.Conv
import HandS.Lambda
import HandS.HeadHook4
import HandS.Style
import HandS.IsInst
import HandS.Strs
import KE.DataFind
import HandS.Deep
import HandS.Zip
import HandS.Rev
import KE.GoesMore
import HandS.Defaults
import HandS.DictComp
import HandS.RaiseMore
import HandS.ReCall
import HandS.Small
import HandS.Ends
import HandS.Head0
import HandS.Head1
import HandS.Head2
import HandS.HeadEnd
import HandS.HeadHook1
import HandS.HeadHook2
import HandS.ExcValue
import KE.KExcIs
import HandS.ExcInit
import HandS.ExcOwn
import KE.KExcSuper
import HandS.SortInts
import HandS.Star
import PySem.Challenge.RW_meeteither_k04_whole_cycle_tables_and_co
set_option Elab.async false
set_option linter.all false
section
set_option maxRecDepth 100000
set_option maxHeartbeats 4000000
namespace MT
open PySem PySem.Spec PyProof.Rows L2

/-! data over the abstract heap -/
abbrev Mk := Addr → Prop
/-- a tuple whose object is known to hold no dict -/
def TupD (K : PySem.W.Frag) (H : Hp) (a : Addr) (xs : List V) : Prop := (∃ o, H a = some (.frz o (.tup xs)) ∧ o.dict = none) ∨
  ∃ (o : Obj) (its : Array Value) (n : Nat), K.lookup a = some o ∧ o.cls = .type "tuple" ∧ o.data = .seq its n ∧ its.size ≤ sizeLine ∧ Vals xs its.toList ∧ o.dict = none
theorem TupD.sq {K : PySem.W.Frag} {H : Hp} {a : Addr} {xs : List V} (h : TupD K H a xs) : SqT K H a xs := by
  rcases h with ⟨o, h, _⟩ | ⟨o, its, n, h1, h2, h3, h4, h5, _⟩
  · exact .inl (.inr ⟨o, h⟩)
  · exact .inr ⟨o, its, n, h1, h2, h3, h4, h5⟩
mutual
def Den (K : PySem.W.Frag) (M : Mk) (H : Hp) : PyData → V → Prop
  | .none, v => v = .non
  | .bool b, v => v = .bl b
  | .int i, v => v = .int i
  | .str x, v => v = .str x
  | .tuple ds, v => ∃ a xs, v = .ref a ∧ TupD K H a xs ∧ xs.length ≤ sizeLine ∧ DenL K M H ds xs
  | .list ds, v => ∃ a xs, v = .ref a ∧ H a = some (.lst xs) ∧ ¬ M a ∧ xs.length ≤ sizeLine ∧ DenL K M H ds xs
  | .dict _, _ => False
def DenL (K : PySem.W.Frag) (M : Mk) (H : Hp) : List PyData → List V → Prop
  | [], vs => vs = []
  | d :: ds, vs => ∃ v r, vs = v :: r ∧ Den K M H d v ∧ DenL K M H ds r
end

/-- what is tracked and not in M is as it was -/
def Kept (M : Mk) (H H' : Hp) : Prop := ∀ a o, H a = some o → ¬ M a → H' a = some o
theorem Kept.refl {M : Mk} {H : Hp} : Kept M H H := fun _ _ h _ => h
theorem Kept.trans {M : Mk} {H H1 H2 : Hp} (a : Kept M H H1) (b : Kept M H1 H2) : Kept M H H2 := fun c o h n => b c o (a c o h n) n
theorem Kept.anti {M M' : Mk} {H H' : Hp} (k : Kept M H H') (h : ∀ a, M a → M' a) : Kept M' H H' := fun a o e n => k a o e fun z => n (h a z)
theorem Kept.new {M : Mk} {H : Hp} {p : Addr} {o : HO} (n : H p = none) : Kept M H (upd H p o) := fun a u e _ => by
  rw [upd_ne (ne_of_none e n)]; exact e
theorem Kept.mut {M : Mk} {H : Hp} {p : Addr} {o : HO} (n : M p) : Kept M H (upd H p o) := fun a u e m => by
  have q : a ≠ p := fun z => m (by rw [z]; exact n)
  rw [upd_ne q]; exact e
/-- tuples stay -/
def TupsK (K : PySem.W.Frag) (H H' : Hp) : Prop := ∀ a xs, SqT K H a xs → SqT K H' a xs
theorem sqT_keep {K : PySem.W.Frag} {H H' : Hp} {a : Addr} {xs : List V} (h : SqT K H a xs) (k : ∀ u, (u = .tup xs ∨ ∃ o, u = .frz o (.tup xs)) → H a = some u → H' a = some u) : SqT K H' a xs := by
  rcases h with (h | ⟨o, h⟩) | h
  · exact .inl (.inl (k _ (.inl rfl) h))
  · exact .inl (.inr ⟨o, k _ (.inr ⟨o, rfl⟩) h⟩)
  · exact .inr h
/-- what may be written, tables of code objects too -/
def MutT : HO → Prop
  | .tbl _ => True
  | o => Mut (some o)
/-- nothing in M is a tuple -/
def MOk (M : Mk) (H : Hp) : Prop := ∀ a, M a → ∃ o, H a = some o ∧ MutT o
def MW (M : Mk) (H : Hp) : Prop := ∀ a o, M a → H a = some o → MutT o
theorem MOk.w {M : Mk} {H : Hp} (m : MOk M H) : MW M H := fun a o h e => by
  obtain ⟨u, e1, mu⟩ := m a h
  rw [e] at e1; cases e1; exact mu
theorem Kept.tup {K : PySem.W.Frag} {M : Mk} {H H' : Hp} (k : Kept M H H') (m : MW M H) {a : Addr} {xs : List V} (h : SqT K H a xs) : SqT K H' a xs := by
  refine sqT_keep h fun u hu e => k a u e fun z => ?_
  have mu := m a u z e
  rcases hu with rfl | ⟨o, rfl⟩ <;> exact mu
theorem Kept.tupD {K : PySem.W.Frag} {M : Mk} {H H' : Hp} (k : Kept M H H') (m : MW M H) {a : Addr} {xs : List V} (h : TupD K H a xs) : TupD K H' a xs := by
  rcases h with ⟨o, h, e⟩ | h
  · exact .inl ⟨o, k _ _ h fun z => m _ _ z h, e⟩
  · exact .inr h
mutual
theorem Den.kept {K : PySem.W.Frag} {M : Mk} {H H' : Hp} (k : Kept M H H') (m : MW M H) : ∀ (d : PyData) (v : V), Den K M H d v → Den K M H' d v
  | .none, v, h => by simpa [Den] using h
  | .bool b, v, h => by simpa [Den] using h
  | .int i, v, h => by simpa [Den] using h
  | .str x, v, h => by simpa [Den] using h
  | .tuple ds, v, h => by
    simp only [Den] at h ⊢
    obtain ⟨a, xs, e, q, l, r⟩ := h
    exact ⟨a, xs, e, k.tupD m q, l, DenL.kept k m ds xs r⟩
  | .list ds, v, h => by
    simp only [Den] at h ⊢
    obtain ⟨a, xs, e, q, n, l, r⟩ := h
    exact ⟨a, xs, e, k _ _ q n, n, l, DenL.kept k m ds xs r⟩
  | .dict _, v, h => by simp [Den] at h
theorem DenL.kept {K : PySem.W.Frag} {M : Mk} {H H' : Hp} (k : Kept M H H') (m : MW M H) : ∀ (ds : List PyData) (vs : List V), DenL K M H ds vs → DenL K M H' ds vs
  | [], vs, h => by simpa [DenL] using h
  | d :: ds, vs, h => by
    simp only [DenL] at h ⊢
    obtain ⟨v, r, e, h1, h2⟩ := h
    exact ⟨v, r, e, Den.kept k m d v h1, DenL.kept k m ds r h2⟩
end
mutual
/-- another set of what may change, where no list of the data stands in it -/
theorem Den.mk {K : PySem.W.Frag} {M M' : Mk} {H : Hp} (k : ∀ a xs, H a = some (.lst xs) → ¬ M a → ¬ M' a) : ∀ (d : PyData) (v : V), Den K M H d v → Den K M' H d v
  | .none, v, h => by simpa [Den] using h
  | .bool b, v, h => by simpa [Den] using h
  | .int i, v, h => by simpa [Den] using h
  | .str x, v, h => by simpa [Den] using h
  | .tuple ds, v, h => by
    simp only [Den] at h ⊢
    obtain ⟨a, xs, e, q, l, r⟩ := h
    exact ⟨a, xs, e, q, l, DenL.mk k ds xs r⟩
  | .list ds, v, h => by
    simp only [Den] at h ⊢
    obtain ⟨a, xs, e, q, n, l, r⟩ := h
    exact ⟨a, xs, e, q, k _ _ q n, l, DenL.mk k ds xs r⟩
  | .dict _, v, h => by simp [Den] at h
theorem DenL.mk {K : PySem.W.Frag} {M M' : Mk} {H : Hp} (k : ∀ a xs, H a = some (.lst xs) → ¬ M a → ¬ M' a) : ∀ (ds : List PyData) (vs : List V), DenL K M H ds vs → DenL K M' H ds vs
  | [], vs, h => by simpa [DenL] using h
  | d :: ds, vs, h => by
    simp only [DenL] at h ⊢
    obtain ⟨v, r, e, h1, h2⟩ := h
    exact ⟨v, r, e, Den.mk k d v h1, DenL.mk k ds r h2⟩
end
theorem DenL.length {K : PySem.W.Frag} {M : Mk} {H : Hp} : ∀ {ds : List PyData} {vs : List V}, DenL K M H ds vs → vs.length = ds.length
  | [], vs, h => by simp only [DenL] at h; subst h; rfl
  | d :: ds, vs, h => by
    simp only [DenL] at h
    obtain ⟨v, r, rfl, _, h2⟩ := h
    simp [DenL.length h2]
theorem DenL.get {K : PySem.W.Frag} {M : Mk} {H : Hp} : ∀ {ds : List PyData} {vs : List V} {i : Nat} {v : V}, DenL K M H ds vs → vs[i]? = some v → ∃ d, ds[i]? = some d ∧ Den K M H d v
  | [], vs, i, v, h, e => by simp only [DenL] at h; subst h; simp at e
  | d :: ds, vs, i, v, h, e => by
    simp only [DenL] at h
    obtain ⟨w, r, rfl, h1, h2⟩ := h
    cases i with
    | zero => simp at e; subst e; exact ⟨d, rfl, h1⟩
    | succ i => simpa using DenL.get h2 (by simpa using e)
theorem DenL.get' {K : PySem.W.Frag} {M : Mk} {H : Hp} : ∀ {ds : List PyData} {vs : List V} {i : Nat} {d : PyData}, DenL K M H ds vs → ds[i]? = some d → ∃ v, vs[i]? = some v ∧ Den K M H d v
  | [], vs, i, d, h, e => by simp at e
  | d' :: ds, vs, i, d, h, e => by
    simp only [DenL] at h
    obtain ⟨w, r, rfl, h1, h2⟩ := h
    cases i with
    | zero => simp at e; subst e; exact ⟨w, rfl, h1⟩
    | succ i => simpa using DenL.get' h2 (by simpa using e)
theorem DenL.app {K : PySem.W.Frag} {M : Mk} {H : Hp} : ∀ {ds : List PyData} {vs : List V} {es : List PyData} {us : List V}, DenL K M H ds vs → DenL K M H es us → DenL K M H (ds ++ es) (vs ++ us)
  | [], vs, es, us, h, g => by simp only [DenL] at h; subst h; exact g
  | d :: ds, vs, es, us, h, g => by
    simp only [DenL] at h
    obtain ⟨w, r, rfl, h1, h2⟩ := h
    show DenL K M H (d :: (ds ++ es)) (w :: (r ++ us))
    simp only [DenL]
    exact ⟨w, _, rfl, h1, h2.app g⟩
theorem DenL.one {K : PySem.W.Frag} {M : Mk} {H : Hp} {d : PyData} {v : V} (h : Den K M H d v) : DenL K M H [d] [v] := by
  simp only [DenL]; exact ⟨v, [], rfl, h, rfl⟩
theorem DenL.take {K : PySem.W.Frag} {M : Mk} {H : Hp} : ∀ {ds : List PyData} {vs : List V} (n : Nat), DenL K M H ds vs → DenL K M H (ds.take n) (vs.take n)
  | _, _, 0, h => by simp [DenL]
  | [], vs, n + 1, h => by simp only [DenL] at h; subst h; simp [DenL]
  | d :: ds, vs, n + 1, h => by
    simp only [DenL] at h
    obtain ⟨w, r, rfl, h1, h2⟩ := h
    simp only [List.take_succ_cons, DenL]
    exact ⟨w, _, rfl, h1, h2.take n⟩
theorem DenL.drop {K : PySem.W.Frag} {M : Mk} {H : Hp} : ∀ {ds : List PyData} {vs : List V} (n : Nat), DenL K M H ds vs → DenL K M H (ds.drop n) (vs.drop n)
  | _, _, 0, h => h
  | [], vs, n + 1, h => by simp only [DenL] at h; subst h; simp [DenL]
  | d :: ds, vs, n + 1, h => by
    simp only [DenL] at h
    obtain ⟨w, r, rfl, h1, h2⟩ := h
    exact h2.drop n
theorem DenL.set {K : PySem.W.Frag} {M : Mk} {H : Hp} {d : PyData} {v : V} (x : Den K M H d v) : ∀ {ds : List PyData} {vs : List V} (n : Nat), DenL K M H ds vs → DenL K M H (ds.set n d) (vs.set n v)
  | [], vs, n, h => by simp only [DenL] at h; subst h; simp [DenL]
  | d :: ds, vs, 0, h => by
    simp only [DenL] at h
    obtain ⟨w, r, rfl, h1, h2⟩ := h
    simp only [List.set_cons_zero, DenL]
    exact ⟨_, _, rfl, x, h2⟩
  | d :: ds, vs, n + 1, h => by
    simp only [DenL] at h
    obtain ⟨w, r, rfl, h1, h2⟩ := h
    simp only [List.set_cons_succ, DenL]
    exact ⟨_, _, rfl, h1, h2.set x n⟩
theorem DenL.rev {K : PySem.W.Frag} {M : Mk} {H : Hp} : ∀ {ds : List PyData} {vs : List V}, DenL K M H ds vs → DenL K M H ds.reverse vs.reverse
  | [], vs, h => by simp only [DenL] at h; subst h; simp [DenL]
  | d :: ds, vs, h => by
    simp only [DenL] at h
    obtain ⟨w, r, rfl, h1, h2⟩ := h
    simp only [List.reverse_cons]
    exact h2.rev.app (.one h1)
mutual
theorem Den.dp {K : PySem.W.Frag} {M : Mk} {H : Hp} : ∀ (d : PyData) (v : V), Den K M H d v → Dp K H v d
  | .none, v, h => by simp only [Den] at h; subst h; exact .non
  | .bool b, v, h => by simp only [Den] at h; subst h; exact .bl b
  | .int i, v, h => by simp only [Den] at h; subst h; exact .int i
  | .str x, v, h => by simp only [Den] at h; subst h; exact .str x
  | .tuple ds, v, h => by
    simp only [Den] at h
    obtain ⟨a, xs, rfl, q, l, r⟩ := h
    exact .tup q.sq (DenL.dp ds xs r)
  | .list ds, v, h => by
    simp only [Den] at h
    obtain ⟨a, xs, rfl, q, n, l, r⟩ := h
    exact .lst (.of q) (DenL.dp ds xs r)
  | .dict _, v, h => by simp [Den] at h
theorem DenL.dp {K : PySem.W.Frag} {M : Mk} {H : Hp} : ∀ (ds : List PyData) (vs : List V), DenL K M H ds vs → DpAll K H vs ds
  | [], vs, h => by simp only [DenL] at h; subst h; exact .nil
  | d :: ds, vs, h => by
    simp only [DenL] at h
    obtain ⟨v, r, rfl, h1, h2⟩ := h
    exact .cons (Den.dp d v h1) (DenL.dp ds r h2)
end
end MT
end

section
set_option maxRecDepth 100000
set_option maxHeartbeats 4000000
namespace MT
open PySem PySem.Spec PyProof.Rows L2
/-! tuples made anew, known to their objects (which hold no dict: their methods can be called) -/
section
variable {X : Cx} {e a b : Expr} {es : List Expr} {t : TA} {ta tb : TE} {pos p : Pos}
/-- what is wished of a new tuple -/
def NewT (xs : List V) (Q : VK) (H : Hp) : Prop := ∀ p o, H p = none → o.dict = none → Q (.ref p) (upd H p (.frz o (.tup xs)))
/-- the tuple laid -/
theorem layT {pins : List (Addr × Obj)} {σ : L2.St} {H : Hp} {s : Shared} {Q : VK} {xs : List V} {us : List Value} (I : Inv X pins σ H s) (r : Vals xs us) (z : xs.length ≤ sizeLine) (q : NewT xs Q H) (tk : Nat) :
    EP X pins σ Q (.ref s.heap.objs.size) { s with heap := s.heap.push { cls := .type "tuple", data := .seq us.toArray }, toks := tk } := by
  have n : H s.heap.objs.size = none := I.hok.fresh (Nat.le_refl _)
  refine ⟨.ref s.heap.objs.size, _, I.laid (o := .frz { cls := .type "tuple", data := .seq us.toArray } (.tup xs)) (fun _ _ g => Heap.get?_push_of_some _ g) (Nat.le_refl _) ?_, rfl, q _ _ n rfl⟩
  have g : (s.heap.push { cls := .type "tuple", data := .seq us.toArray }).get? s.heap.objs.size = some { cls := .type "tuple", data := .seq us.toArray } := Heap.get?_push_size _ rfl
  exact ⟨g, z, us, r, ⟨_, g, rfl, _, rfl⟩⟩
def tTupF (t : TA) : TE := fun σ H Q => t σ H fun xs H1 => xs.length ≤ sizeLine ∧ NewT xs Q H1
theorem pe_tupF {x1 : Nat} (h : PA X es t) : PE X (.Tuple es x1 pos) (tTupF t) := by
  constructor
  intro pins s σ H Q I hq
  apply wpAny_Tuple_spliced
  refine thn (h.run pos pins s σ H _ I hq) ?_
  rintro us s1 ⟨xs, H1, I1, r, z, q⟩
  exact ⟨by rw [← r.length]; exact z, layT I1 r z q s1.toks⟩
/-- sums -/
def rCatF (K : PySem.W.Frag) : R2 := fun x y H Q => ∃ a b xs ys, x = .ref a ∧ y = .ref b ∧ SqT K H a xs ∧ SqT K H b ys ∧ xs.length + ys.length ≤ sizeLine ∧ (xs = [] → Q (.ref b) H) ∧ (ys = [] → Q (.ref a) H) ∧ NewT (xs ++ ys) Q H
theorem op_catF : OpR X (binaryOp .Add) (rCatF X.K) := by
  rintro pins s σ H x y v u Q I rx ry ⟨a, b, xs, ys, rfl, rfl, ha, hb, hz, q0, q1, q2⟩
  cases rx
  cases ry
  obtain ⟨its, r1, p1, _⟩ := I.tuple ha
  obtain ⟨jts, r2, p2, _⟩ := I.tuple hb
  by_cases hx : its = []
  · subst hx
    exact L2.cat_tup0 p1 p2 ⟨.ref b, H, I, rfl, q0 (r1.nil_iff.mp rfl)⟩
  · refine HT.cat_tup p1 p2 hx (fun z => ?_) (fun z => ?_) (by rw [← r1.length, ← r2.length]; exact hz)
    · exact ⟨.ref a, H, I, rfl, q1 (r2.nil_iff.mp z)⟩
    · exact layT I (r1.append r2) (by rw [List.length_append]; exact hz) q2 s.toks
/-- cuts -/
def rSlF (K : PySem.W.Frag) : V → Option Int → Option Int → Hp → VK → Prop := fun x lo hi H Q => ∃ a xs, x = .ref a ∧ SqT K H a xs ∧
  (HT.sIx xs.length 0 lo = 0 ∧ HT.sIx xs.length xs.length hi = xs.length → Q (.ref a) H) ∧ NewT (cutV xs lo hi) Q H
theorem sl_tupF : SlR X (rSlF X.K) := by
  rintro pins s σ H x v vl vu lo hi sl Q I rx hs pl pu ⟨a, xs, rfl, hx, q1, q2⟩
  cases rx
  obtain ⟨its, r, ht, hz⟩ := I.tuple hx
  have hlen : its.toArray.size = xs.length := by rw [List.size_toArray, r.length]
  refine ⟨"tuple", _, PyProof.Rows.slot_tuple_getitem.lookup, ht.typeIs, ?_⟩
  by_cases hw : HT.sIx xs.length 0 lo = 0 ∧ HT.sIx xs.length xs.length hi = xs.length
  · exact L2.getItem_tuple_whole ht hs pl pu (by rw [hlen]; exact hw) ⟨.ref a, H, I, rfl, q1 hw⟩
  · refine HT.getItem_tuple_cut ht hs pl pu (by rw [hlen]; exact hw) ?_ (by rw [hlen]; exact hz)
    rw [hlen]
    exact layT I ((r.drop _).take _) (Nat.le_trans (cutV_length xs lo hi) hz) q2 s.toks
/-- tuple(x) -/
def kTupF (K : PySem.W.Frag) (x : V) (H : Hp) (Q : VK) : Prop := (∃ p xs, x = .ref p ∧ SqL K H p xs ∧ NewT xs Q H) ∨ ∃ p xs, x = .ref p ∧ SqT K H p xs ∧ Q (.ref p) H
theorem pe_tupleF (hg : Gl X "tuple") (hm : X.mg "tuple" = none) (ha : PE X a ta) (na : starEach [a] X.env = (false, eval a X.env) :: starEach [] X.env := by rfl) :
    PE X (.Call (.Name "tuple" p) [a] [] pos) (tThen ta (kTupF X.K)) := by
  constructor
  intro pins s σ H Q I h
  refine Call_ (ld_blt I hg hm boot_tuple (PyProof.Rows.callWith_type1 (one_arg ha I h (fun v s2 x H2 I2 r q => ?_) na) na))
  rcases q with ⟨l, xs, rfl, hs, q⟩ | ⟨l, xs, rfl, hs, q⟩
  · cases r
    obtain ⟨its, rv, pl, hz⟩ := I2.list hs
    refine call_tuple_list pl.isList (fun h' hk => ?_) (by rw [List.size_toArray, ← rv.length]; exact hz)
    exact layT (I2.kept (t' := s2.toks) hk) rv hz q s2.toks
  · cases r
    obtain ⟨its, rv, pl, hz⟩ := I2.tuple hs
    exact call_tuple_tup pl ⟨.ref l, H2, I2, rfl, q⟩
def tTupRgF (te : L2.St → Hp → (Int → Int → Hp → Prop) → Prop) : TE := fun σ H Q => te σ H fun a b H1 => RgOk a b ∧ NewT (rgV a b) Q H1
theorem pe_tupRgF {te : L2.St → Hp → (Int → Int → Hp → Prop) → Prop} (hc : X.calm = true) (hg : Gl X "tuple") (hm : X.mg "tuple" = none) (he : PRg X e te) (na : starEach [e] X.env = (false, eval e X.env) :: starEach [] X.env := by rfl) : PE X (.Call (.Name "tuple" p) [e] [] pos) (tTupRgF te) := by
  constructor
  intro pins s σ H Q I h
  refine Call_ (ld_blt I hg hm boot_tuple (PyProof.Rows.callWith_type1 (args_cons (thn (he pins s σ H _ I h) ?_) na) na))
  rintro x s1 ⟨r, i, j, t, u, v, H1, rfl, hr, I1, ok, q⟩
  refine args_nil ?_
  have ok2 := ok
  obtain ⟨b1, b2, b3, b4, b5⟩ := ok2
  refine call_tuple_range (n := (j - i).toNat) (I1.ok.hd hc) hr (small_one b1 b2 b3 b4) (rangeSize_nat i j) b5 fun h' tk acc hk hi => ?_
  have z : (rgV i j).length ≤ sizeLine := by rw [rgV_length, sizeLine_eq]; omega
  have g := layT (I1.kept (t' := tk) hk) (vals_rg hi) z q tk
  rw [Array.toArray_toList] at g
  exact g
/-- xs * n -/
def rRepF (K : PySem.W.Frag) : R2 := fun x y H Q => ∃ l k xs, x = .ref l ∧ y = .int k ∧ SqT K H l xs ∧ xs ≠ [] ∧ 2 ≤ k ∧ k ≤ 10000 ∧ xs.length ≤ 1000 ∧ NewT (List.replicate k.toNat xs).flatten Q H
theorem op_repF : OpR X (binaryOp .Mult) (rRepF X.K) := by
  rintro pins s σ H x y v u Q I rx ry ⟨l, k, xs, rfl, rfl, hT, hne, h1, h2, hz, q⟩
  cases rx
  obtain ⟨t, rfl⟩ := ry
  obtain ⟨its, r, ⟨⟨cls, dd, data, sl⟩, ho, hc, n, hd⟩, hs⟩ := I.tuple hT
  simp only at hc hd
  subst hc hd
  have hle : its.length = xs.length := r.length.symm
  have hn : its ≠ [] := fun z => hne (r.nil_iff.mp z)
  have hi : its.toArray.isEmpty = false := by
    cases its with
    | nil => exact absurd rfl hn
    | cons _ _ => rfl
  have hsz0 : its.toArray.size = xs.length := by rw [List.size_toArray, hle]
  have hb : k.toNat * xs.length ≤ 10000 * 1000 := Nat.mul_le_mul (by omega) hz
  have hm : ((its.toArray.size : Nat) : Int) * k ≤ 10000000 := by
    have e : k = (k.toNat : Int) := by omega
    rw [hsz0, e, ← Int.natCast_mul, Nat.mul_comm]
    omega
  have z : (List.replicate k.toNat xs).flatten.length ≤ sizeLine := by
    rw [PyProof.Rows.lm_len_rep_flat, sizeLine_eq]; omega
  have c0 : (decide (k < -(2 ^ 63)) || decide (k ≥ 2 ^ 63)) = false := by
    rw [decide_eq_false (by omega), decide_eq_false (by omega)] <;> rfl
  have c1 : (its.toArray.isEmpty || k == 1) = false := by
    rw [hi, Bool.false_or, beq_eq_false_iff_ne]
    omega
  have c2 : (decide (k ≤ 0) || its.toArray.isEmpty) = false := by
    rw [hi, Bool.or_false, decide_eq_false_iff_not]
    omega
  have c4 : Builtin.Tuple.tupleTooMany (((its.toArray.size : Nat) : Int) * k) = false := by
    unfold Builtin.Tuple.tupleTooMany
    rw [sizeLine_eq, decide_eq_false_iff_not]
    omega
  have c5 : (List.foldl (fun x1 x2 => x1 ++ x2) #[] (List.replicate k.toNat its.toArray)).size ≤ sizeLine := by
    rw [L2.size_rep, List.size_toArray, PyProof.Rows.lm_len_rep_flat, hle, sizeLine_eq]; omega
  refine wpAny_binaryOp_repeat_ref (T := "tuple") (U := "int") (by decide) ⟨_, ho, rfl⟩ (fun s' => typeIs_int s' k t) noFill_tuple_mul F.fills_int_mul F.slot_int_rmul repeat_tuple F.slot_int_index.lookup ?_
  refine call_meets F.slot_int_rmul (typeIs_int s k t) F.entry_int_rmul (F.args_int_rmul_2 _ _) (int_rmul_tuple k t l its.toArray n dd sl) ⟨ho, rfl, ⟨_, ho, rfl⟩, ?_⟩
  refine call_meets F.slot_tuple_mul ⟨_, ho, rfl⟩ F.entry_tuple_mul (F.args_tuple_mul_2 _ _) (tuple_mulW l its.toArray n dd sl k t c0 c1 c2 (by omega) c4 c5) ⟨ho, ?_⟩
  rw [L2.size_rep]
  exact layT I (r.rep k.toNat) z q s.toks
end
end MT
end

section
set_option maxRecDepth 100000
set_option maxHeartbeats 4000000
namespace MT
open PySem PySem.Spec PyProof.Rows L2

/-- the last key of the draws' dict -/
abbrev lapKey : Str := "turn"
structure DrawAt (H : Hp) (d l c : Addr) : Prop where
  ne : l ≠ c
  dk : ∃ r t : Int, H d = some (.dK [(.inr "large", V.ref l), (.inr "cells", V.ref c), (.inr "rest", V.int r), (.inr lapKey, V.int t)])
  lg : ∃ ns : List Int, H l = some (.lst (ns.map V.int))
  cl : ∃ ns : List Int, H c = some (.lst (ns.map V.int)) ∧ ns.length ≤ sizeLine

/-- an exception by its class's name and its fields -/
structure Exn where
  cls : Str
  fs : List (Str × PyData)
abbrev W (α : Type) := (α → Prop) → (Exn → Prop) → Prop

inductive Slot where
  | un
  | d (x : PyData)
  | l (xs : List PyData)
  | dr
  | sc (ns : List Int)
  | fn (a : Addr)
  /-- None, or an error that was caught -/
  | ex (o : Option Exn)

structure Ctx where
  H0 : Hp
  M0 : Mk
  dr : Option (Addr × Addr × Addr)
  /-- what loops walk, from outside in -/
  hid : List (PyData × V)
  /-- the tables of code objects, with the names that stand in them -/
  tb : List (Addr × Str)
/-- what a call may change of what was there -/
def Ctx.X0 (C : Ctx) : Mk := fun a => (∃ d l c, C.dr = some (d, l, c) ∧ (a = d ∨ a = l)) ∨ ∃ p ∈ C.tb, a = p.1
theorem x0_none {H : Hp} {M : Mk} {a : Addr} : ¬ Ctx.X0 ⟨H, M, none, [], []⟩ a := fun z => by
  rcases z with ⟨_, _, _, z, _⟩ | ⟨p, hp, _⟩
  · cases z
  · cases hp
/-- the script: known to its object, or one of the module's -/
def SqS (K : PySem.W.Frag) (H : Hp) (a : Addr) (xs : List V) : Prop :=
  (∃ o, H a = some (.frz o (.lst xs))) ∨ ∃ (o : Obj) (its : Array Value) (n : Nat), K.lookup a = some o ∧ o.cls = .type "list" ∧ o.dict = none ∧ o.data = .seq its n ∧ its.size ≤ sizeLine ∧ Vals xs its.toList
theorem SqS.sq {K : PySem.W.Frag} {H : Hp} {a : Addr} {xs : List V} (h : SqS K H a xs) : SqL K H a xs := by
  rcases h with ⟨o, h⟩ | h
  · exact .inl (.inr ⟨o, h⟩)
  · exact .inr h

/-- an error's object: its class, its dict -/
def ExT (cls : Value) (d : Option Addr) (a : Addr) : HO := .ext fun h => ∃ (oe : Obj) (vs : Array Value), h.get? a = some oe ∧ Zc cls d oe ∧ oe.data = .fields vs
def ExF (K : PySem.W.Frag) (M : Mk) (H : Hp) (e : Exn) (d : Option Addr) : Prop := (e.fs = [] ∧ d = none) ∨ ∃ dd vs, d = some dd ∧ H dd = some (.xd ((e.fs.map (·.1)).zip vs)) ∧ DenL K M H (e.fs.map (·.2)) vs
def ExAt (K : PySem.W.Frag) (M : Mk) (H : Hp) (e : Exn) (a : Addr) : Prop := ∃ d, H a = some (ExT (.ref (He.ga K e.cls)) d a) ∧ ¬ M a ∧ ExF K M H e d
theorem ExF.kept {K : PySem.W.Frag} {M : Mk} {H H' : Hp} {e : Exn} {d : Option Addr} (k : Kept M H H') (m : MW M H) (h : ExF K M H e d) : ExF K M H' e d := by
  rcases h with h | ⟨dd, vs, h1, h2, h3⟩
  · exact .inl h
  · exact .inr ⟨dd, vs, h1, k _ _ h2 fun z => m _ _ z h2, h3.kept k m⟩
theorem ExAt.kept {K : PySem.W.Frag} {M : Mk} {H H' : Hp} {e : Exn} {a : Addr} (k : Kept M H H') (m : MW M H) (h : ExAt K M H e a) : ExAt K M H' e a := by
  obtain ⟨d, h1, h2, h3⟩ := h
  exact ⟨d, k _ _ h1 h2, h2, h3.kept k m⟩
theorem ExAt.mk {K : PySem.W.Frag} {M M' : Mk} {H : Hp} (k : ∀ a, H a ≠ none → ¬ M a → ¬ M' a) {e : Exn} {a : Addr} (h : ExAt K M H e a) : ExAt K M' H e a := by
  obtain ⟨d, h1, h2, h3⟩ := h
  refine ⟨d, h1, k a (by rw [h1]; simp) h2, ?_⟩
  rcases h3 with h3 | ⟨dd, vs, e1, e2, e3⟩
  · exact .inl h3
  · exact .inr ⟨dd, vs, e1, e2, e3.mk fun b xs q n => k b (by rw [q]; simp) n⟩
def SlotOk (K : PySem.W.Frag) (C : Ctx) (M : Mk) (H : Hp) (o : Option V) : Slot → Prop
  | .un => True
  | .d x => ∃ v, o = some v ∧ Den K M H x v
  | .l xs => ∃ a vs, o = some (V.ref a) ∧ H a = some (.lst vs) ∧ M a ∧ ¬ C.M0 a ∧ vs.length ≤ sizeLine ∧ DenL K M H xs vs
  | .dr => ∃ d l c, C.dr = some (d, l, c) ∧ o = some (V.ref d)
  | .sc ns => ∃ a, o = some (V.ref a) ∧ SqS K H a (ns.map V.int)
  | .fn a => o = some (V.ref a)
  | .ex none => o = some .non
  | .ex (some e) => ∃ a, o = some (V.ref a) ∧ ExAt K M H e a

def Owns (σ : L2.St) (env : List Slot) (i : Nat) (a : Addr) : Prop := ∃ xs, env[i]? = some (.l xs) ∧ σ[i]? = some (some (V.ref a))

structure R (K : PySem.W.Frag) (C : Ctx) (M : Mk) (σ : L2.St) (H : Hp) (env : List Slot) : Prop where
  ext : Kept C.X0 C.H0 H
  m0 : ∀ a, C.M0 a → M a
  mn : ∀ a, M a → C.M0 a ∨ C.H0 a = none
  ok : MOk M H
  drw : ∀ d l c, C.dr = some (d, l, c) → DrawAt H d l c ∧ C.M0 l ∧ ¬ M c ∧ C.M0 d
  len : env.length = σ.length
  slot : ∀ (i : Nat) s o, env[i]? = some s → σ[i]? = some o → SlotOk K C M H o s
  sep : ∀ i j a, Owns σ env i a → Owns σ env j a → i = j
  hid : ∀ p ∈ C.hid, Den K M H p.1 p.2
  tab : LamX.Tabs C.tb H
  tbm : ∀ p ∈ C.tb, C.M0 p.1

section
variable {K : PySem.W.Frag} {C : Ctx} {M M' : Mk} {σ : L2.St} {H H' : Hp} {env : List Slot}
theorem R.x0m (r : R K C M σ H env) {a : Addr} (h : C.X0 a) : C.M0 a := by
  rcases h with ⟨d, l, c, e, h⟩ | ⟨p, hp, rfl⟩
  · obtain ⟨_, z1, _, z2⟩ := r.drw d l c e
    rcases h with rfl | rfl
    · exact z2
    · exact z1
  · exact r.tbm p hp
theorem MOk.free {p : Addr} (m : MOk M H) (n : H p = none) : ¬ M p := fun z => by
  obtain ⟨o, e, _⟩ := m p z; rw [n] at e; cases e
theorem SlotOk.keptM (r : R K C M σ H env) (k : Kept C.X0 H H') {o : Option V} : ∀ {s : Slot}, SlotOk K C M H o s → SlotOk K C M H' o s
  | .un, _ => trivial
  | .d x, ⟨v, e, h⟩ => ⟨v, e, h.kept (k.anti fun a z => r.m0 a (r.x0m z)) r.ok.w⟩
  | .l xs, ⟨a, vs, e, h, ma, n, z, q⟩ => ⟨a, vs, e, k a _ h fun y => n (r.x0m y), ma, n, z, q.kept (k.anti fun a z => r.m0 a (r.x0m z)) r.ok.w⟩
  | .dr, h => h
  | .fn _, h => h
  | .ex none, h => h
  | .ex (some _), ⟨a, e, h⟩ => ⟨a, e, h.kept (k.anti fun a z => r.m0 a (r.x0m z)) r.ok.w⟩
  | .sc ns, ⟨a, e, q⟩ => by
    refine ⟨a, e, ?_⟩
    rcases q with ⟨o, q⟩ | q
    · refine .inl ⟨o, k _ _ q fun z => ?_⟩
      obtain ⟨u, e1, mu⟩ := r.ok a (r.m0 a (r.x0m z))
      rw [q] at e1; cases e1; exact mu
    · exact .inr q
/-- the state behind an expression: all but the draws' own objects stays -/
theorem R.step (r : R K C M σ H env) (k : Kept C.X0 H H') (dw : ∀ d l c, C.dr = some (d, l, c) → DrawAt H' d l c) (tw : LamX.Tabs C.tb H') : R K C M σ H' env where
  ext := r.ext.trans k
  m0 := r.m0
  mn := r.mn
  ok := fun a z => by
    obtain ⟨o, e, mu⟩ := r.ok a z
    by_cases h : C.X0 a
    · rcases h with ⟨d, l, c, q, h⟩ | ⟨p, hp, rfl⟩
      · have D := dw d l c q
        rcases h with rfl | rfl
        · obtain ⟨x, t, e⟩ := D.dk; exact ⟨_, e, trivial⟩
        · obtain ⟨x, e⟩ := D.lg; exact ⟨_, e, trivial⟩
      · obtain ⟨ps, e, _⟩ := tw p hp; exact ⟨_, e, trivial⟩
    · exact ⟨o, k a o e h, mu⟩
  drw := fun d l c e => ⟨dw d l c e, (r.drw d l c e).2⟩
  len := r.len
  slot := fun i s o e1 e2 => (r.slot i s o e1 e2).keptM r k
  sep := r.sep
  hid := fun p hp => (r.hid p hp).kept (k.anti fun a z => r.m0 a (r.x0m z)) r.ok.w
  tab := tw
  tbm := r.tbm
theorem DrawAt.kept {d l c : Addr} (D : DrawAt H d l c) (k : ∀ a o, H a = some o → H' a = some o) : DrawAt H' d l c := by
  obtain ⟨ne, ⟨x, t, e⟩, ⟨ns, e1⟩, ⟨ms, e2, z⟩⟩ := D
  exact ⟨ne, ⟨x, t, k _ _ e⟩, ⟨ns, k _ _ e1⟩, ⟨ms, k _ _ e2, z⟩⟩
theorem R.grow (r : R K C M σ H env) (k : ∀ a o, H a = some o → H' a = some o) : R K C M σ H' env :=
  r.step (fun a o e _ => k a o e) (fun d l c e => (r.drw d l c e).1.kept k) (r.tab.ext k)
theorem grow_new {p : Addr} {o : HO} (n : H p = none) : ∀ a u, H a = some u → upd H p o a = some u := fun a u e => by
  rw [upd_ne (ne_of_none e n)]; exact e
theorem R.new (r : R K C M σ H env) {p : Addr} {o : HO} (n : H p = none) : R K C M σ (upd H p o) env := r.grow (grow_new n)
/-- data, kept where all is kept -/
theorem Den.grow (m : MOk M H) (k : ∀ a o, H a = some o → H' a = some o) {d : PyData} {v : V} (h : Den K M H d v) : Den K M H' d v := h.kept (fun a o e _ => k a o e) m.w
theorem DenL.grow (m : MOk M H) (k : ∀ a o, H a = some o → H' a = some o) {d : List PyData} {v : List V} (h : DenL K M H d v) : DenL K M H' d v := h.kept (fun a o e _ => k a o e) m.w
end

/-! how a told value lies: strictly; a list that is our own, its members strictly; for a callee -/
inductive Fl where
  | s | o | w
def Fl.mk (C : Ctx) (M : Mk) : Fl → Mk
  | .s => M
  | .o => M
  | .w => C.M0
def DenF (K : PySem.W.Frag) (C : Ctx) (M : Mk) (H : Hp) : Fl → PyData → V → Prop
  | .s, d, v => Den K M H d v
  | .w, d, v => Den K C.M0 H d v
  | .o, .list ds, v => ∃ a vs, v = V.ref a ∧ H a = some (.lst vs) ∧ ¬ C.M0 a ∧ vs.length ≤ sizeLine ∧ DenL K M H ds vs
  | .o, d, v => Den K M H d v
section
variable {K : PySem.W.Frag} {C : Ctx} {M M' : Mk} {σ : L2.St} {H H' : Hp} {env : List Slot} {f : Fl}
theorem R.ok0 (r : R K C M σ H env) : MOk C.M0 H := fun a z => r.ok a (r.m0 a z)
theorem DenF.so (r : R K C M σ H env) : ∀ {d : PyData} {v : V}, DenF K C M H .s d v → DenF K C M H .o d v
  | .list ds, v, h => by
    have h : Den K M H (.list ds) v := h
    simp only [Den] at h
    obtain ⟨a, xs, e, q, n, l, g⟩ := h
    exact ⟨a, xs, e, q, fun z => n (r.m0 a z), l, g⟩
  | .none, _, h => h
  | .bool _, _, h => h
  | .int _, _, h => h
  | .str _, _, h => h
  | .tuple _, _, h => h
  | .dict _, _, h => h
theorem Den.weak (r : R K C M σ H env) {d : PyData} {v : V} (h : Den K M H d v) : Den K C.M0 H d v := h.mk fun a _ _ n z => n (r.m0 a z)
theorem DenL.weak (r : R K C M σ H env) {d : List PyData} {v : List V} (h : DenL K M H d v) : DenL K C.M0 H d v := h.mk fun a _ _ n z => n (r.m0 a z)
theorem DenF.ow (r : R K C M σ H env) : ∀ {d : PyData} {v : V}, DenF K C M H .o d v → DenF K C M H .w d v
  | .list ds, v, h => by
    obtain ⟨a, xs, e, q, n, l, g⟩ := h
    show Den K C.M0 H (.list ds) v
    simp only [Den]
    exact ⟨a, xs, e, q, n, l, g.weak r⟩
  | .none, _, h => Den.weak r h
  | .bool _, _, h => Den.weak r h
  | .int _, _, h => Den.weak r h
  | .str _, _, h => Den.weak r h
  | .tuple _, _, h => Den.weak r h
  | .dict _, _, h => Den.weak r h
theorem DenF.grow (r : R K C M σ H env) (k : ∀ a o, H a = some o → H' a = some o) : ∀ {f : Fl} {d : PyData} {v : V}, DenF K C M H f d v → DenF K C M H' f d v
  | .s, d, v, h => Den.grow r.ok k h
  | .w, d, v, h => Den.grow r.ok0 k h
  | .o, .list ds, v, h => by
    obtain ⟨a, xs, e, q, n, l, g⟩ := h
    exact ⟨a, xs, e, k _ _ q, n, l, g.grow r.ok k⟩
  | .o, .none, _, h => Den.grow r.ok k h
  | .o, .bool _, _, h => Den.grow r.ok k h
  | .o, .int _, _, h => Den.grow r.ok k h
  | .o, .str _, _, h => Den.grow r.ok k h
  | .o, .tuple _, _, h => Den.grow r.ok k h
  | .o, .dict _, _, h => by simp [DenF, Den] at h
/-- .. by less -/
theorem DenF.stepW (x0 : ∀ a, C.X0 a → M a) (mw : MW M H) (k : Kept C.X0 H H') (hf : f = .s ∨ f = .o) : ∀ {d : PyData} {v : V}, DenF K C M H f d v → (∀ a, C.X0 a → C.M0 a) → DenF K C M H' f d v := fun {d v} h x1 => by
  have kk : Kept M H H' := k.anti x0
  rcases hf with rfl | rfl
  · exact Den.kept kk mw d v h
  · cases d with
    | list ds =>
      obtain ⟨a, xs, e, q, n, l, g⟩ := h
      exact ⟨a, xs, e, k _ _ q fun z => n (x1 a z), n, l, g.kept kk mw⟩
    | dict x => simp [DenF, Den] at h
    | _ => exact Den.kept kk mw _ v h
/-- behind a further expression -/
theorem DenF.step (r : R K C M σ H env) (k : Kept C.X0 H H') : ∀ {f : Fl} {d : PyData} {v : V}, DenF K C M H f d v → DenF K C M H' f d v
  | .s, d, v, h => Den.kept (k.anti fun a z => r.m0 a (r.x0m z)) r.ok.w d v h
  | .w, d, v, h => Den.kept (k.anti fun a z => r.x0m z) r.ok0.w d v h
  | .o, .list ds, v, h => by
    obtain ⟨a, xs, e, q, n, l, g⟩ := h
    exact ⟨a, xs, e, k _ _ q fun z => n (r.x0m z), n, l, g.kept (k.anti fun a z => r.m0 a (r.x0m z)) r.ok.w⟩
  | .o, .none, _, h => h
  | .o, .bool _, _, h => h
  | .o, .int _, _, h => h
  | .o, .str _, _, h => h
  | .o, .tuple ds, v, h => Den.kept (k.anti fun a z => r.m0 a (r.x0m z)) r.ok.w _ _ h
  | .o, .dict _, _, h => by simp [DenF, Den] at h
end
end MT
end

section
set_option maxRecDepth 100000
set_option maxHeartbeats 4000000
namespace MT
open PySem PySem.Spec PyProof.Rows L2

/-- what leaves a def by an error -/
structure Bd where
  er : Exn → Prop
  ok : Ctx → Prop
  st : ∀ C h, ok C → ok { C with hid := h }

/-- the reading of an expression by what it tells of data -/
def tOf (K : PySem.W.Frag) (B : Bd) (f : Fl) (m : List Slot → W PyData) : TE := fun σ H Q => ∃ C env M P, R K C M σ H env ∧ B.ok C ∧ m env P B.er ∧
  ∀ v H' d, Kept C.X0 H H' → R K C M σ H' env → DenF K C M H' f d v → P d → Q v H'
abbrev PD (X : Cx) (B : Bd) (f : Fl) (e : Expr) (m : List Slot → W PyData) : Prop := PE X e (tOf X.K B f m)
theorem pe_imp {X : Cx} {e : Expr} {t t' : TE} (h : PE X e t) (i : ∀ σ H Q, t' σ H Q → t σ H Q) : PE X e t' := ⟨fun pins s σ H Q I q => h.run pins s σ H Q I (i _ _ _ q)⟩
theorem pt_imp {X : Cx} {e : Expr} {t t' : TT} (h : PT X e t) (i : ∀ σ H Q, t' σ H Q → t σ H Q) : PT X e t' := ⟨fun pins s σ H Q I q => h.run pins s σ H Q I (i _ _ _ q)⟩
theorem ps_imp {X : Cx} {e : Stmt} {t t' : TS} (h : PS X e t) (i : ∀ D σ H, t' D σ H → t D σ H) : PS X e t' := ⟨fun pins s σ H D I q => h.run pins s σ H D I (i _ _ _ q)⟩

section
variable {X : Cx} {B : Bd} {f g h : Fl} {e a b : Expr} {m ma mb : List Slot → W PyData} {pos : Pos}
theorem so (p : PD X B .s e m) : PD X B .o e m := pe_imp p fun σ H Q ⟨C, env, M, P, r, bo, hm, k⟩ => ⟨C, env, M, P, r, bo, hm, fun v H' d k1 r1 de p1 => k v H' d k1 r1 (de.so r1) p1⟩
theorem ow (p : PD X B .o e m) : PD X B .w e m := pe_imp p fun σ H Q ⟨C, env, M, P, r, bo, hm, k⟩ => ⟨C, env, M, P, r, bo, hm, fun v H' d k1 r1 de p1 => k v H' d k1 r1 (de.ow r1) p1⟩
theorem sw (p : PD X B .s e m) : PD X B .w e m := ow (so p)

/-! names, constants -/
def dNm (i : Nat) : List Slot → W PyData := fun env P _ => match env[i]? with
  | some (.d x) => P x
  | _ => False
def dOw (i : Nat) : List Slot → W PyData := fun env P _ => match env[i]? with
  | some (.l xs) => P (.list xs)
  | _ => False
def dC (d : PyData) : List Slot → W PyData := fun _ P _ => P d
theorem R.at {K : PySem.W.Frag} {C : Ctx} {M : Mk} {σ : L2.St} {H : Hp} {env : List Slot} (r : R K C M σ H env) {i : Nat} {s : Slot} (h : env[i]? = some s) : ∃ o, σ[i]? = some o ∧ SlotOk K C M H o s := by
  have hi : i < σ.length := by rw [← r.len]; exact (List.getElem?_eq_some_iff.mp h).1
  exact ⟨σ[i], List.getElem?_eq_getElem hi, r.slot i s _ h (List.getElem?_eq_getElem hi)⟩
theorem pd_nm {i : Nat} (p : PE X e (tVar i)) : PD X B .s e (dNm i) := pe_imp p fun σ H Q ⟨C, env, M, P, r, bo, hm, k⟩ => by
  unfold dNm at hm
  split at hm
  · rename_i x hx
    obtain ⟨o, e1, v, e2, de⟩ := r.at hx
    subst e2
    exact ⟨v, e1, k v H x .refl r de hm⟩
  · exact hm.elim
theorem pd_ow {i : Nat} (p : PE X e (tVar i)) : PD X B .o e (dOw i) := pe_imp p fun σ H Q ⟨C, env, M, P, r, bo, hm, k⟩ => by
  unfold dOw at hm
  split at hm
  · rename_i x hx
    obtain ⟨o, e1, a, vs, e2, h1, h2, h3, h4, h5⟩ := r.at hx
    subst e2
    exact ⟨_, e1, k _ H (.list x) .refl r ⟨a, vs, rfl, h1, h3, h4, h5⟩ hm⟩
  · exact hm.elim
/-- a value that needs no heap -/
def atomV : PyData → Option V
  | .none => some .non
  | .bool b => some (.bl b)
  | .int i => some (.int i)
  | .str x => some (.str x)
  | _ => none
theorem Den.atom {K : PySem.W.Frag} {M : Mk} {H : Hp} {d : PyData} {v : V} (e : atomV d = some v) : Den K M H d v := by
  cases d <;> simp [atomV] at e <;> subst e <;> simp [Den]
theorem pd_c {d : PyData} {v : V} (p : PE X e (tC v)) (hd : atomV d = some v) : PD X B .s e (dC d) := pe_imp p fun σ H Q ⟨C, env, M, P, r, bo, hm, k⟩ => k v H d .refl r (Den.atom hd) hm
theorem pd_int {i : Int} {j : Nat} : PD X B .s (.Constant (.int i) j pos) (dC (.int i)) := pd_c pe_int rfl
theorem pd_bl {b : Bool} {j : Nat} : PD X B .s (.Constant (.bool b) j pos) (dC (.bool b)) := pd_c pe_bl rfl
theorem pd_non {j : Nat} : PD X B .s (.Constant .none j pos) (dC .none) := pd_c pe_non rfl
theorem pd_str {x : Str} {j : Nat} : PD X B .s (.Constant (.str x) j pos) (dC (.str x)) := pd_c pe_str rfl

/-! operators -/
abbrev O2 := PyData → PyData → W PyData
abbrev O1 := PyData → W PyData
def dBin (op : O2) (ma mb : List Slot → W PyData) : List Slot → W PyData := fun env P E => ma env (fun x => mb env (fun y => op x y P E) E) E
def dUn (op : O1) (ma : List Slot → W PyData) : List Slot → W PyData := fun env P E => ma env (fun x => op x P E) E
def OpD (K : PySem.W.Frag) (B : Bd) (f g h : Fl) (op : O2) (r : R2) : Prop := ∀ C M env σ H v u d e P (Q : VK), R K C M σ H env → DenF K C M H f d v → DenF K C M H g e u → op d e P B.er →
  (∀ w H' x, Kept C.X0 H H' → R K C M σ H' env → DenF K C M H' h x w → P x → Q w H') → r v u H Q
theorem tOf_bin {K : PySem.W.Frag} {op : O2} {r : R2} (hs : OpD K B f g h op r) : ∀ σ H Q, tOf K B h (dBin op ma mb) σ H Q → tOp r (tOf K B f ma) (tOf K B g mb) σ H Q :=
  fun σ H Q ⟨C, env, M, P, r0, bo, hm, k⟩ => ⟨C, env, M, _, r0, bo, hm, fun v H1 d k1 r1 de p1 => ⟨C, env, M, _, r1, bo, p1, fun u H2 d2 k2 r2 de2 p2 =>
    hs C M env σ H2 v u d d2 P Q r2 (de.step r1 k2) de2 p2 fun w H' x k3 r3 de3 p3 => k w H' x (k1.trans (k2.trans k3)) r3 de3 p3⟩⟩
theorem pd_bin {o : Operator} {op : O2} {r : R2} (ho : OpR X (binaryOp o) r) (hs : OpD X.K B f g h op r) (ha : PD X B f a ma) (hb : PD X B g b mb) : PD X B h (.BinOp a o b pos) (dBin op ma mb) := pe_imp (pe_op ho ha hb) (tOf_bin hs)
def UnD (K : PySem.W.Frag) (B : Bd) (f h : Fl) (op : O1) (r : V → Hp → VK → Prop) : Prop := ∀ C M env σ H v d P (Q : VK), R K C M σ H env → DenF K C M H f d v → op d P B.er →
  (∀ w H' x, Kept C.X0 H H' → R K C M σ H' env → DenF K C M H' h x w → P x → Q w H') → r v H Q
theorem tOf_un {K : PySem.W.Frag} {op : O1} {r : V → Hp → VK → Prop} (hs : UnD K B f h op r) : ∀ σ H Q, tOf K B h (dUn op ma) σ H Q → tUn r (tOf K B f ma) σ H Q :=
  fun σ H Q ⟨C, env, M, P, r0, bo, hm, k⟩ => ⟨C, env, M, _, r0, bo, hm, fun v H1 d k1 r1 de p1 =>
    hs C M env σ H1 v d P Q r1 de p1 fun w H' x k3 r3 de3 p3 => k w H' x (k1.trans k3) r3 de3 p3⟩

theorem Kept.new' {M : Mk} {H : Hp} {p : Addr} {o : HO} (n : H p = none) : Kept M H (upd H p o) := Kept.new n
section
variable {K : PySem.W.Frag} {C : Ctx} {M : Mk} {σ : L2.St} {H : Hp} {env : List Slot}
/-- a tuple, made anew -/
theorem mk_tup (r : R K C M σ H env) {xs : List V} {ds : List PyData} (h : DenL K M H ds xs) (z : xs.length ≤ sizeLine) {P : PyData → Prop} {Q : VK} (hp : P (.tuple ds))
    (k : ∀ w H' x, Kept C.X0 H H' → R K C M σ H' env → DenF K C M H' .s x w → P x → Q w H') : NewT xs Q H := fun p o n od => by
  refine k _ _ (.tuple ds) (Kept.new n) (r.new n) ?_ hp
  show Den K M _ (.tuple ds) _
  simp only [Den]
  exact ⟨p, xs, rfl, .inl ⟨o, upd_same, od⟩, z, h.grow r.ok (grow_new n)⟩
theorem mk_lst (r : R K C M σ H env) {xs : List V} {ds : List PyData} (h : DenL K M H ds xs) (z : xs.length ≤ sizeLine) {P : PyData → Prop} {Q : VK} (hp : P (.list ds))
    (k : ∀ w H' x, Kept C.X0 H H' → R K C M σ H' env → DenF K C M H' .s x w → P x → Q w H') : ∀ p, H p = none → Q (.ref p) (upd H p (.lst xs)) := fun p n => by
  refine k _ _ (.list ds) (Kept.new n) (r.new n) ?_ hp
  show Den K M _ (.list ds) _
  simp only [Den]
  exact ⟨p, xs, rfl, upd_same, r.ok.free n, z, h.grow r.ok (grow_new n)⟩
/-- an atom -/
theorem mk_at (r : R K C M σ H env) {d : PyData} {v : V} (e : atomV d = some v) {P : PyData → Prop} {Q : VK} (hp : P d)
    (k : ∀ w H' x, Kept C.X0 H H' → R K C M σ H' env → DenF K C M H' .s x w → P x → Q w H') : Q v H := k v H d .refl r (Den.atom e) hp
theorem den_tupD {ds : List PyData} {v : V} (h : DenF K C M H .o (.tuple ds) v) : ∃ a xs, v = V.ref a ∧ TupD K H a xs ∧ xs.length ≤ sizeLine ∧ DenL K M H ds xs := by
  have h : Den K M H (.tuple ds) v := h
  simpa only [Den] using h
theorem den_tup {ds : List PyData} {v : V} (h : DenF K C M H .o (.tuple ds) v) : ∃ a xs, v = V.ref a ∧ SqT K H a xs ∧ xs.length ≤ sizeLine ∧ DenL K M H ds xs := by
  obtain ⟨a, xs, e, h1, h2⟩ := den_tupD h
  exact ⟨a, xs, e, h1.sq, h2⟩
theorem den_lst {ds : List PyData} {v : V} (h : DenF K C M H .o (.list ds) v) : ∃ a xs, v = V.ref a ∧ H a = some (.lst xs) ∧ xs.length ≤ sizeLine ∧ DenL K M H ds xs := by
  obtain ⟨a, xs, e, h1, _, h2, h3⟩ := h
  exact ⟨a, xs, e, h1, h2, h3⟩
theorem den_int {i : Int} {v : V} (h : DenF K C M H .o (.int i) v) : v = .int i := by
  have h : Den K M H (.int i) v := h
  simpa only [Den] using h
theorem den_bl {i : Bool} {v : V} (h : DenF K C M H .o (.bool i) v) : v = .bl i := by
  have h : Den K M H (.bool i) v := h
  simpa only [Den] using h
theorem den_str {i : Str} {v : V} (h : DenF K C M H .o (.str i) v) : v = .str i := by
  have h : Den K M H (.str i) v := h
  simpa only [Den] using h
theorem den_non {v : V} (h : DenF K C M H .o .none v) : v = .non := by
  have h : Den K M H .none v := h
  simpa only [Den] using h
theorem den_dict {x} {v : V} (h : DenF K C M H .o (.dict x) v) : False := by
  have h : Den K M H (.dict x) v := h
  simp only [Den] at h
end

def oAdd : O2
  | .int i, .int j => fun P _ => P (.int (i + j))
  | .tuple x, .tuple y => fun P _ => x.length + y.length ≤ sizeLine ∧ P (.tuple (x ++ y))
  | .list x, .list y => fun P _ => x.length + y.length ≤ sizeLine ∧ P (.list (x ++ y))
  | .str x, .str y => fun P _ => x.length + y.length ≤ sizeLine ∧ P (.str (x ++ y))
  | _, _ => fun _ _ => False
theorem od_add {K : PySem.W.Frag} : OpD K B .o .o .s oAdd (fun x y H Q => rI0 (fun i j => .int (i + j)) x y H Q ∨ rCatF K x y H Q ∨ rCat x y H Q ∨ ∃ i j, x = .str i ∧ y = .str j ∧ i.length + j.length ≤ sizeLine ∧ Q (.str (i ++ j)) H) := by
  intro C M env σ H v u d e P Q r dv du hm k
  unfold oAdd at hm
  split at hm
  · rw [den_int dv, den_int du]
    exact .inl ⟨_, _, rfl, rfl, mk_at r rfl hm k⟩
  · obtain ⟨a, xs, rfl, h1, h2, h3⟩ := den_tup dv
    obtain ⟨b, ys, rfl, g1, g2, g3⟩ := den_tup du
    obtain ⟨hz, hm⟩ := hm
    have hz' : xs.length + ys.length ≤ sizeLine := by rw [h3.length, g3.length]; exact hz
    refine .inr (.inl ⟨a, b, xs, ys, rfl, rfl, h1, g1, hz', fun e => ?_, fun e => ?_, mk_tup r (h3.app g3) (by rw [List.length_append]; exact hz') hm k⟩)
    · subst e
      refine k _ H _ .refl r ?_ hm
      have := h3.length
      rename_i x y
      have e : x = [] := List.eq_nil_of_length_eq_zero (by rw [← this]; rfl)
      subst e
      exact du
    · subst e
      refine k _ H _ .refl r ?_ hm
      have := g3.length
      rename_i x y
      have e : y = [] := List.eq_nil_of_length_eq_zero (by rw [← this]; rfl)
      subst e
      rw [List.append_nil]
      exact dv
  · obtain ⟨a, xs, rfl, h1, h2, h3⟩ := den_lst dv
    obtain ⟨b, ys, rfl, g1, g2, g3⟩ := den_lst du
    obtain ⟨hz, hm⟩ := hm
    have hz' : xs.length + ys.length ≤ sizeLine := by rw [h3.length, g3.length]; exact hz
    exact .inr (.inr (.inl ⟨a, b, xs, ys, rfl, rfl, h1, g1, hz', mk_lst r (h3.app g3) (by rw [List.length_append]; exact hz') hm k⟩))
  · rw [den_str dv, den_str du]
    exact .inr (.inr (.inr ⟨_, _, rfl, rfl, hm.1, mk_at r rfl hm.2 k⟩))
  · exact hm.elim
theorem pd_add (ha : PD X B .o a ma) (hb : PD X B .o b mb) : PD X B .s (.BinOp a .Add b pos) (dBin oAdd ma mb) := pd_bin (op_add.or (op_catF.or (op_cat.or op_add_str))) od_add ha hb
def oI (c : Int → Int → Prop) (g : Int → Int → Int) : O2
  | .int i, .int j => fun P _ => c i j ∧ P (.int (g i j))
  | _, _ => fun _ _ => False
theorem od_i {K : PySem.W.Frag} {c : Int → Int → Prop} {g : Int → Int → Int} : OpD K B .o .o .s (oI c g) (rI c fun i j => .int (g i j)) := by
  intro C M env σ H v u d e P Q r dv du hm k
  unfold oI at hm
  split at hm
  · rw [den_int dv, den_int du]
    exact ⟨_, _, rfl, rfl, hm.1, mk_at r rfl hm.2 k⟩
  · exact hm.elim
def oI0 (g : Int → Int → PyData) : O2
  | .int i, .int j => fun P _ => P (g i j)
  | _, _ => fun _ _ => False
def oSub : O2 := oI0 fun i j => .int (i - j)
theorem od_i0 {K : PySem.W.Frag} {g : Int → Int → PyData} {g' : Int → Int → V} (hg : ∀ i j, atomV (g i j) = some (g' i j)) : OpD K B .o .o .s (oI0 g) (rI0 g') := by
  intro C M env σ H v u d e P Q r dv du hm k
  unfold oI0 at hm
  split at hm
  · rw [den_int dv, den_int du]
    exact ⟨_, _, rfl, rfl, mk_at r (hg _ _) hm k⟩
  · exact hm.elim
theorem pd_sub (ha : PD X B .o a ma) (hb : PD X B .o b mb) : PD X B .s (.BinOp a .Sub b pos) (dBin oSub ma mb) := pd_bin op_sub (od_i0 fun _ _ => rfl) ha hb
def oMod : O2 := oI (fun _ j => 0 < j) fun i j => i % j
theorem pd_mod (ha : PD X B .o a ma) (hb : PD X B .o b mb) : PD X B .s (.BinOp a .Mod b pos) (dBin oMod ma mb) := pd_bin op_mod od_i ha hb
def oFdv : O2 := oI CDiv fun i j => i / j
theorem pd_fdv (ha : PD X B .o a ma) (hb : PD X B .o b mb) : PD X B .s (.BinOp a .FloorDiv b pos) (dBin oFdv ma mb) := pd_bin op_fdiv od_i ha hb
def oPow : O2 := oI CPow fun i j => i ^ j.toNat
theorem pd_pow (ha : PD X B .o a ma) (hb : PD X B .o b mb) : PD X B .s (.BinOp a .Pow b pos) (dBin oPow ma mb) := pd_bin op_pow od_i ha hb
end
end MT
end

section
set_option maxRecDepth 100000
set_option maxHeartbeats 4000000
namespace MT
open PySem PySem.Spec PyProof.Rows L2
section
variable {X : Cx} {B : Bd} {f g h : Fl} {e a b c : Expr} {m ma mb mc : List Slot → W PyData} {pos : Pos}

/-! comparisons -/
def oCmp (p : Int → Int → Bool) : O2 := oI0 fun i j => .bool (p i j)
def oEq : O2 := fun d e P _ => SeqAt.shaped d = true ∧ SeqAt.shaped e = true ∧ P (.bool (PyData.eqv d e))
def oNe : O2 := fun d e P _ => SeqAt.shaped d = true ∧ SeqAt.shaped e = true ∧ P (.bool (!PyData.eqv d e))
theorem denO_dp {K : PySem.W.Frag} {C : Ctx} {M : Mk} {H : Hp} : ∀ {d : PyData} {v : V}, DenF K C M H .o d v → Dp K H v d
  | .list ds, v, h => by
    obtain ⟨a, xs, rfl, h1, _, h2, h3⟩ := h
    exact .lst (.of h1) (h3.dp ds xs)
  | .none, v, h => Den.dp (M := M) _ _ h
  | .bool _, v, h => Den.dp (M := M) _ _ h
  | .int _, v, h => Den.dp (M := M) _ _ h
  | .str _, v, h => Den.dp (M := M) _ _ h
  | .tuple _, v, h => Den.dp (M := M) _ _ h
  | .dict _, v, h => (den_dict h).elim
theorem denF_dp {K : PySem.W.Frag} {C : Ctx} {M : Mk} {H : Hp} : ∀ {f : Fl} {d : PyData} {v : V}, DenF K C M H f d v → Dp K H v d
  | .s, _, _, h => Den.dp (M := M) _ _ h
  | .w, _, _, h => Den.dp (M := C.M0) _ _ h
  | .o, _, _, h => denO_dp h
theorem od_eq {K : PySem.W.Frag} : OpD K B f g .s oEq (rEqD K) := by
  intro C M env σ H v u d e P Q r dv du hm k
  obtain ⟨h1, h2, hm⟩ := hm
  exact ⟨d, e, denF_dp dv, denF_dp du, h1, h2, mk_at r rfl hm k⟩
theorem od_ne {K : PySem.W.Frag} : OpD K B f g .s oNe (rNeD K) := by
  intro C M env σ H v u d e P Q r dv du hm k
  obtain ⟨h1, h2, hm⟩ := hm
  exact ⟨d, e, denF_dp dv, denF_dp du, h1, h2, mk_at r rfl hm k⟩
/-- is None -/
def isN : PyData → Bool
  | .none => true
  | _ => false
def oIsN : O2 := fun d e P _ => isN e = true ∧ P (.bool (isN d))
def oNotN : O2 := fun d e P _ => isN e = true ∧ P (.bool (!isN d))
theorem denO_non {K : PySem.W.Frag} {C : Ctx} {M : Mk} {H : Hp} {d : PyData} {v : V} (h : DenF K C M H .o d v) : decide (v = .non) = isN d := by
  cases d with
  | none => rw [den_non h]; rfl
  | bool b => rw [den_bl h]; rfl
  | int b => rw [den_int h]; rfl
  | str b => rw [den_str h]; rfl
  | tuple ds => obtain ⟨a, xs, rfl, _⟩ := den_tup h; rfl
  | list ds => obtain ⟨a, xs, rfl, _⟩ := den_lst h; rfl
  | dict x => exact (den_dict h).elim
theorem isN_eq {e : PyData} (h : isN e = true) : e = .none := by cases e <;> simp [isN] at h; rfl
theorem od_isN {K : PySem.W.Frag} : OpD K B .o .o .s oIsN (fun x y H Q => y = .non ∧ Q (.bl (decide (x = .non))) H) := by
  intro C M env σ H v u d e P Q r dv du hm k
  obtain ⟨h1, hm⟩ := hm
  have := isN_eq h1
  subst this
  rw [denO_non dv]
  exact ⟨den_non du, mk_at r rfl hm k⟩
theorem od_notN {K : PySem.W.Frag} : OpD K B .o .o .s oNotN (fun x y H Q => y = .non ∧ Q (.bl (!decide (x = .non))) H) := by
  intro C M env σ H v u d e P Q r dv du hm k
  obtain ⟨h1, hm⟩ := hm
  have := isN_eq h1
  subst this
  rw [denO_non dv]
  exact ⟨den_non du, mk_at r rfl hm k⟩
/-- is True, is False -/
def oIsB : O2
  | .bool i, .bool j => fun P _ => P (.bool (decide (i = j)))
  | _, _ => fun _ _ => False
def oNotB : O2
  | .bool i, .bool j => fun P _ => P (.bool (!decide (i = j)))
  | _, _ => fun _ _ => False
theorem od_isB {K : PySem.W.Frag} : OpD K B .o .o .s oIsB rIsB := by
  intro C M env σ H v u d e P Q r dv du hm k
  unfold oIsB at hm
  split at hm
  · rw [den_bl dv, den_bl du]
    exact ⟨_, _, rfl, rfl, mk_at r rfl hm k⟩
  · exact hm.elim
theorem od_notB {K : PySem.W.Frag} : OpD K B .o .o .s oNotB rNotB := by
  intro C M env σ H v u d e P Q r dv du hm k
  unfold oNotB at hm
  split at hm
  · rw [den_bl dv, den_bl du]
    exact ⟨_, _, rfl, rfl, mk_at r rfl hm k⟩
  · exact hm.elim
/-- in, not in: a list of any data, a tuple of flat ones -/
def isFlat : PyData → Bool
  | .none | .bool _ | .int _ | .str _ => true
  | _ => false
def oInB (neg : Bool) : O2
  | d, .list ds => fun P _ => SeqAt.shaped d = true ∧ SeqAt.shaped (.list ds) = true ∧ P (.bool (if neg then !(ds.any fun z => PyData.eqv z d) else ds.any fun z => PyData.eqv z d))
  | d, .tuple ds => fun P _ => isFlat d = true ∧ ds.all isFlat = true ∧ P (.bool (if neg then !(ds.any fun z => PyData.eqv z d) else ds.any fun z => PyData.eqv z d))
  | _, _ => fun _ _ => False
theorem den_flat {K : PySem.W.Frag} {M : Mk} {H : Hp} {d : PyData} {v : V} (h : Den K M H d v) (f : isFlat d = true) : flatV v = true ∧ atomV d = some v := by
  cases d <;> simp [isFlat] at f <;> simp only [Den] at h <;> subst h <;> exact ⟨rfl, rfl⟩
theorem eqV_eqv {K : PySem.W.Frag} {M : Mk} {H : Hp} {d e : PyData} {v u : V} (h : Den K M H d v) (k : Den K M H e u) (f : isFlat d = true) (g : isFlat e = true) : eqV v u = PyData.eqv d e := by
  cases d <;> simp [isFlat] at f <;> cases e <;> simp [isFlat] at g <;> simp only [Den] at h k <;> subst h <;> subst k <;> simp [eqV, PyData.eqv]
theorem denL_flat {K : PySem.W.Frag} {M : Mk} {H : Hp} : ∀ {ds : List PyData} {vs : List V}, DenL K M H ds vs → ds.all isFlat = true → vs.all flatV = true
  | [], vs, h, _ => by simp only [DenL] at h; subst h; rfl
  | d :: ds, vs, h, f => by
    simp only [DenL] at h
    obtain ⟨v, r, rfl, h1, h2⟩ := h
    simp only [List.all_cons, Bool.and_eq_true] at f ⊢
    exact ⟨(den_flat h1 f.1).1, denL_flat h2 f.2⟩
theorem inV_any {K : PySem.W.Frag} {M : Mk} {H : Hp} {d : PyData} {v : V} (h : Den K M H d v) (f : isFlat d = true) : ∀ {ds : List PyData} {vs : List V}, DenL K M H ds vs → ds.all isFlat = true → inV v vs = ds.any fun z => PyData.eqv z d
  | [], vs, k, _ => by simp only [DenL] at k; subst k; rfl
  | e :: ds, vs, k, g => by
    simp only [DenL] at k
    obtain ⟨u, r, rfl, h1, h2⟩ := k
    simp only [List.all_cons, Bool.and_eq_true] at g
    have ih := inV_any h f h2 g.2
    unfold inV at ih ⊢
    rw [List.any_cons, List.any_cons, ih, eqV_eqv h1 h g.1 f]
theorem Den.oo {K : PySem.W.Frag} {C : Ctx} {M : Mk} {H : Hp} {d : PyData} {v : V} (h : DenF K C M H .o d v) (f : isFlat d = true) : Den K M H d v := by
  cases d <;> simp [isFlat] at f <;> exact h
theorem od_in {K : PySem.W.Frag} : OpD K B .o .o .s (oInB false) (fun x y H Q => rInD K x y H Q ∨ rIn K false x y H Q) := by
  intro C M env σ H v u d e P Q r dv du hm k
  unfold oInB at hm
  split at hm
  · obtain ⟨h1, h2, hm⟩ := hm
    exact .inl ⟨d, _, denF_dp dv, denF_dp du, h1, h2, mk_at r rfl hm k⟩
  · obtain ⟨h1, h2, hm⟩ := hm
    obtain ⟨b, ys, rfl, g1, g2, g3⟩ := den_tup du
    have dv' := Den.oo dv h1
    refine .inr ⟨b, ys, rfl, .inr g1, (den_flat dv' h1).1, denL_flat g3 h2, ?_⟩
    rw [inV_any dv' h1 g3 h2]
    exact mk_at r rfl hm k
  · exact hm.elim
theorem od_notIn {K : PySem.W.Frag} : OpD K B .o .o .s (oInB true) (fun x y H Q => rNotInD K x y H Q ∨ rIn K true x y H Q) := by
  intro C M env σ H v u d e P Q r dv du hm k
  unfold oInB at hm
  split at hm
  · obtain ⟨h1, h2, hm⟩ := hm
    exact .inl ⟨d, _, denF_dp dv, denF_dp du, h1, h2, mk_at r rfl hm k⟩
  · obtain ⟨h1, h2, hm⟩ := hm
    obtain ⟨b, ys, rfl, g1, g2, g3⟩ := den_tup du
    have dv' := Den.oo dv h1
    refine .inr ⟨b, ys, rfl, .inr g1, (den_flat dv' h1).1, denL_flat g3 h2, ?_⟩
    rw [inV_any dv' h1 g3 h2]
    exact mk_at r rfl hm k
  · exact hm.elim

/-! a comparison as a value, as a test -/
theorem pd_cmp {o : CmpOp} {op : O2} {r : R2} (ho : OpR X (compareOp o) r) (hs : OpD X.K B f g .s op r) (hm : behindInMarks o b = false) (ha : PD X B f a ma) (hb : PD X B g b mb) : PD X B .s (.Compare a [o] [b] pos) (dBin op ma mb) := pe_imp (pe_cmpR ho ha hb hm) (tOf_bin hs)
def asB (m : List Slot → W PyData) : List Slot → W Bool := fun env P E => m env (fun d => match d with
  | .bool b => P b
  | _ => False) E
def ttOf (K : PySem.W.Frag) (B : Bd) (m : List Slot → W Bool) : TT := fun σ H Q => ∃ C env M P, R K C M σ H env ∧ B.ok C ∧ m env P B.er ∧
  ∀ H' b, Kept C.X0 H H' → R K C M σ H' env → P b → Q b H'
abbrev PB (X : Cx) (B : Bd) (e : Expr) (m : List Slot → W Bool) : Prop := PT X e (ttOf X.K B m)
theorem tt_as {K : PySem.W.Frag} {t : TE} (hs : ∀ σ H Q, tOf K B .s m σ H Q → t σ H Q) : ∀ σ H Q, ttOf K B (asB m) σ H Q → tTest t σ H Q :=
  fun σ H Q ⟨C, env, M, P, r, bo, hm, k⟩ => hs σ H _ ⟨C, env, M, _, r, bo, hm, fun v H' d k1 r1 de p1 => by
    split at p1
    · rename_i b
      have de : Den K M H' (.bool b) v := de
      simp only [Den] at de
      exact ⟨b, de, k H' b k1 r1 p1⟩
    · exact p1.elim⟩
theorem pb_cmp {o : CmpOp} {op : O2} {r : R2} (ho : OpR X (compareOp o) r) (hs : OpD X.K B f g .s op r) (hm : behindInMarks o b = false) (ha : PD X B f a ma) (hb : PD X B g b mb) : PB X B (.Compare a [o] [b] pos) (asB (dBin op ma mb)) := pt_imp (pt_cmpR ho ha hb hm) (tt_as (tOf_bin hs))
/-- an expression that gives a bool, as a test -/
theorem pb_val (p : PD X B .s e m) (he : ∀ whole, isTrue e X.env whole = (do let v ← whole; standAt e.pos; holding [v] (truthy v)) := by intro _; rfl) : PB X B e (asB m) := pt_imp (pt_val p he) (tt_as fun _ _ _ h => h)
variable {pa pb : List Slot → W Bool} {rest : List Expr}
def bNot (p : List Slot → W Bool) : List Slot → W Bool := fun env P E => p env (fun b => P (!b)) E
def bAnd (p q : List Slot → W Bool) : List Slot → W Bool := fun env P E => p env (fun b => if b = true then q env P E else P false) E
def bOr (p q : List Slot → W Bool) : List Slot → W Bool := fun env P E => p env (fun b => if b = true then P true else q env P E) E
theorem pb_not (p : PB X B a pa) : PB X B (.UnaryOp .Not a pos) (bNot pa) := pt_imp (pt_not p) fun σ H Q ⟨C, env, M, P, r, bo, hm, k⟩ => ⟨C, env, M, _, r, bo, hm, fun H' b k1 r1 p1 => k H' (!b) k1 r1 p1⟩
/-- and, or: one part behind another -/
abbrev PBW (X : Cx) (B : Bd) (e : Expr) (m : List Slot → W Bool) : Prop := PW X e (ttOf X.K B m)
theorem pw_imp {t t' : TT} (h : PW X e t) (i : ∀ σ H Q, t' σ H Q → t σ H Q) : PW X e t' := ⟨fun wh pins s σ H Q I q => h.run wh pins s σ H Q I (i _ _ _ q)⟩
theorem pbw_and1 (p : PB X B a pa) : PBW X B (.BoolOp .And [a] pos) pa := pw_and1 p
theorem pbw_or1 (p : PB X B a pa) : PBW X B (.BoolOp .Or [a] pos) pa := pw_or1 p
theorem pbw_and (p : PB X B a pa) (q : PBW X B (.BoolOp .And (b :: rest) pos) pb) : PBW X B (.BoolOp .And (a :: b :: rest) pos) (bAnd pa pb) := pw_imp (pw_and p q) fun σ H Q ⟨C, env, M, P, r, bo, hm, k⟩ =>
  ⟨C, env, M, _, r, bo, hm, fun H' x k1 r1 p1 => by
    cases x with
    | true => exact ⟨C, env, M, P, r1, bo, p1, fun H2 y k2 r2 p2 => k H2 y (k1.trans k2) r2 p2⟩
    | false => exact k H' false k1 r1 p1⟩
theorem pbw_or (p : PB X B a pa) (q : PBW X B (.BoolOp .Or (b :: rest) pos) pb) : PBW X B (.BoolOp .Or (a :: b :: rest) pos) (bOr pa pb) := pw_imp (pw_or p q) fun σ H Q ⟨C, env, M, P, r, bo, hm, k⟩ =>
  ⟨C, env, M, _, r, bo, hm, fun H' x k1 r1 p1 => by
    cases x with
    | false => exact ⟨C, env, M, P, r1, bo, p1, fun H2 y k2 r2 p2 => k H2 y (k1.trans k2) r2 p2⟩
    | true => exact k H' true k1 r1 p1⟩
theorem pb_w (p : PBW X B e pa) : PB X B e pa := PW.pt p
/-- as values: all but the last one give bools -/
def dAnd (ma mb : List Slot → W PyData) : List Slot → W PyData := fun env P E => asB ma env (fun b => if b = true then mb env P E else P (.bool false)) E
def dOr (ma mb : List Slot → W PyData) : List Slot → W PyData := fun env P E => asB ma env (fun b => if b = true then P (.bool true) else mb env P E) E
theorem pd_one {o : BoolOp} (p : PD X B f e m) : PD X B f (.BoolOp o [e] pos) m := pe_one p
theorem pd_and (p : PD X B .s a ma) (q : PD X B .s (.BoolOp .And (b :: rest) pos) mb) : PD X B .s (.BoolOp .And (a :: b :: rest) pos) (dAnd ma mb) := pe_imp (pe_and p q) fun σ H Q ⟨C, env, M, P, r, bo, hm, k⟩ =>
  ⟨C, env, M, _, r, bo, hm, fun v H' d k1 r1 de p1 => by
    split at p1
    · rename_i x
      have de : Den X.K M H' (.bool x) v := de
      simp only [Den] at de
      refine ⟨x, de, ?_⟩
      cases x with
      | true => exact ⟨C, env, M, P, r1, bo, p1, fun w H2 y k2 r2 de2 p2 => k w H2 y (k1.trans k2) r2 de2 p2⟩
      | false => exact k _ H' _ k1 r1 (Den.atom rfl) p1
    · exact p1.elim⟩
theorem pd_or (p : PD X B .s a ma) (q : PD X B .s (.BoolOp .Or (b :: rest) pos) mb) : PD X B .s (.BoolOp .Or (a :: b :: rest) pos) (dOr ma mb) := pe_imp (pe_or p q) fun σ H Q ⟨C, env, M, P, r, bo, hm, k⟩ =>
  ⟨C, env, M, _, r, bo, hm, fun v H' d k1 r1 de p1 => by
    split at p1
    · rename_i x
      have de : Den X.K M H' (.bool x) v := de
      simp only [Den] at de
      refine ⟨x, de, ?_⟩
      cases x with
      | false => exact ⟨C, env, M, P, r1, bo, p1, fun w H2 y k2 r2 de2 p2 => k w H2 y (k1.trans k2) r2 de2 p2⟩
      | true => exact k _ H' _ k1 r1 (Den.atom rfl) p1
    · exact p1.elim⟩
def dNot (ma : List Slot → W PyData) : List Slot → W PyData := fun env P E => asB ma env (fun b => P (.bool (!b))) E
theorem pd_not (p : PD X B .s a ma) : PD X B .s (.UnaryOp .Not a pos) (dNot ma) := pe_imp (pe_not p) fun σ H Q ⟨C, env, M, P, r, bo, hm, k⟩ =>
  ⟨C, env, M, _, r, bo, hm, fun v H' d k1 r1 de p1 => by
    split at p1
    · rename_i x
      have de : Den X.K M H' (.bool x) v := de
      simp only [Den] at de
      exact ⟨x, de, k _ H' _ k1 r1 (Den.atom rfl) p1⟩
    · exact p1.elim⟩
/-- x if t else y -/
def dIf (p : List Slot → W Bool) (ma mb : List Slot → W PyData) : List Slot → W PyData := fun env P E => p env (fun b => if b = true then ma env P E else mb env P E) E
theorem pd_if (t : PB X B c pa) (p : PD X B f a ma) (q : PD X B f b mb) : PD X B f (.IfExp c a b pos) (dIf pa ma mb) := pe_imp (pe_ifExp t p q) fun σ H Q ⟨C, env, M, P, r, bo, hm, k⟩ =>
  ⟨C, env, M, _, r, bo, hm, fun H' x k1 r1 p1 => by
    cases x with
    | true => exact ⟨C, env, M, P, r1, bo, p1, fun w H2 y k2 r2 de2 p2 => k w H2 y (k1.trans k2) r2 de2 p2⟩
    | false => exact ⟨C, env, M, P, r1, bo, p1, fun w H2 y k2 r2 de2 p2 => k w H2 y (k1.trans k2) r2 de2 p2⟩⟩
/-- a < b < c -/
def dChain (o o' : O2) (ma mb mc : List Slot → W PyData) : List Slot → W PyData := fun env P E => ma env (fun x => mb env (fun y => o x y (fun z => match z with
  | .bool k => if k = true then mc env (fun w => o' y w P E) E else P (.bool false)
  | _ => False) E) E) E
theorem tOf_chain {K : PySem.W.Frag} {op op' : O2} {r r' : R2} (hs : OpD K B .o .o .s op r) (hs' : OpD K B .o .o .s op' r') : ∀ σ H Q, tOf K B .s (dChain op op' ma mb mc) σ H Q → tChain r r' (tOf K B .o ma) (tOf K B .o mb) (tOf K B .o mc) σ H Q :=
  fun σ H Q ⟨C, env, M, P, r0, bo, hm, k⟩ => ⟨C, env, M, _, r0, bo, hm, fun v H1 d k1 r1 de p1 => ⟨C, env, M, _, r1, bo, p1, fun u H2 d2 k2 r2 de2 p2 =>
    hs C M env σ H2 v u d d2 _ _ r2 (de.step r1 k2) de2 p2 fun w H' x k3 r3 de3 p3 => by
      split at p3
      · rename_i b
        have de3 : Den K M H' (.bool b) w := de3
        simp only [Den] at de3
        refine ⟨b, de3, ?_⟩
        cases b with
        | true =>
          rw [if_pos rfl] at p3 ⊢
          exact ⟨C, env, M, _, r3, bo, p3, fun w4 H4 x4 k4 r4 de4 p4 => hs' C M env σ H4 u w4 d2 x4 P Q r4 ((de2.step r2 k3).step r3 k4) de4 p4 fun w5 H5 x5 k5 r5 de5 p5 => k w5 H5 x5 (k1.trans (k2.trans (k3.trans (k4.trans k5)))) r5 de5 p5⟩
        | false => exact k _ H' _ (k1.trans (k2.trans k3)) r3 (Den.atom rfl) p3
      · exact p3.elim⟩⟩
theorem pd_chain {o o' : CmpOp} {op op' : O2} {r r' : R2} (ho : OpR X (compareOp o) r) (ho' : OpR X (compareOp o') r') (hs : OpD X.K B .o .o .s op r) (hs' : OpD X.K B .o .o .s op' r') (ha : PD X B .o a ma) (hb : PD X B .o b mb) (hc : PD X B .o c mc)
    (hm : lastMarks [o, o'] [b, c] = false := by with_unfolding_all rfl) : PD X B .s (.Compare a [o, o'] [b, c] pos) (dChain op op' ma mb mc) := pe_imp (pe_chain ho ho' ha hb hc hm) (tOf_chain hs hs')
theorem pb_chain {o o' : CmpOp} {op op' : O2} {r r' : R2} (ho : OpR X (compareOp o) r) (ho' : OpR X (compareOp o') r') (hs : OpD X.K B .o .o .s op r) (hs' : OpD X.K B .o .o .s op' r') (ha : PD X B .o a ma) (hb : PD X B .o b mb) (hc : PD X B .o c mc)
    (hm : lastMarks [o, o'] [b, c] = false := by with_unfolding_all rfl) : PB X B (.Compare a [o, o'] [b, c] pos) (asB (dChain op op' ma mb mc)) := pt_imp (pt_chain ho ho' ha hb hc hm) (tt_as (tOf_chain hs hs'))

/-! displays -/
def dNil : List Slot → W (List PyData) := fun _ P _ => P []
def dCons (ma : List Slot → W PyData) (mr : List Slot → W (List PyData)) : List Slot → W (List PyData) := fun env P E => ma env (fun x => mr env (fun r => P (x :: r)) E) E
/-- f: .s or .w -/
def taOf (K : PySem.W.Frag) (B : Bd) (f : Fl) (m : List Slot → W (List PyData)) : TA := fun σ H Q => ∃ C env M P, R K C M σ H env ∧ B.ok C ∧ m env P B.er ∧
  ∀ vs H' ds, Kept C.X0 H H' → R K C M σ H' env → DenL K (f.mk C M) H' ds vs → P ds → Q vs H'
abbrev PL (X : Cx) (B : Bd) (f : Fl) (es : List Expr) (m : List Slot → W (List PyData)) : Prop := PA X es (taOf X.K B f m)
theorem pa_imp {es : List Expr} {t t' : TA} (h : PA X es t) (i : ∀ σ H Q, t' σ H Q → t σ H Q) : PA X es t' := ⟨fun ps pins s σ H Q I q => h.run ps pins s σ H Q I (i _ _ _ q)⟩
theorem pl_nil : PL X B f [] dNil := pa_imp pa_nil fun σ H Q ⟨C, env, M, P, r, bo, hm, k⟩ => k [] H [] .refl r (by simp [DenL]) hm
def Fl.sw : Fl → Bool
  | .o => false
  | _ => true
theorem denF_mk {K : PySem.W.Frag} {C : Ctx} {M : Mk} {H : Hp} (hf : f.sw = true) {d : PyData} {v : V} : DenF K C M H f d v ↔ Den K (f.mk C M) H d v := by
  cases f with
  | s => exact Iff.rfl
  | w => exact Iff.rfl
  | o => simp [Fl.sw] at hf
theorem mk_sub {K : PySem.W.Frag} {C : Ctx} {M : Mk} {σ : L2.St} {H : Hp} {env : List Slot} (r : R K C M σ H env) {H' : Hp} (k : Kept C.X0 H H') : Kept (f.mk C M) H H' ∧ MOk (f.mk C M) H := by
  cases f with
  | s => exact ⟨k.anti fun a z => r.m0 a (r.x0m z), r.ok⟩
  | w => exact ⟨k.anti fun a z => r.x0m z, r.ok0⟩
  | o => exact ⟨k.anti fun a z => r.m0 a (r.x0m z), r.ok⟩
theorem pl_cons {es : List Expr} {mr : List Slot → W (List PyData)} (p : PD X B f e m) (q : PL X B f es mr) (hf : f.sw = true := by rfl) (hs : starEach (e :: es) X.env = (false, eval e X.env) :: starEach es X.env := by rfl) : PL X B f (e :: es) (dCons m mr) :=
  pa_imp (pa_cons p q hs) fun σ H Q ⟨C, env, M, P, r, bo, hm, k⟩ => ⟨C, env, M, _, r, bo, hm, fun v H1 d k1 r1 de p1 => ⟨C, env, M, _, r1, bo, p1, fun vs H2 ds k2 r2 dl p2 => k (v :: vs) H2 (d :: ds) (k1.trans k2) r2 (by
    obtain ⟨kk, mm⟩ := mk_sub (f := f) r1 k2
    simp only [DenL]
    exact ⟨v, vs, rfl, ((denF_mk hf).mp de).kept kk mm.w, dl⟩) p2⟩⟩
def dTup (m : List Slot → W (List PyData)) : List Slot → W PyData := fun env P E => m env (fun ds => ds.length ≤ sizeLine ∧ P (.tuple ds)) E
def dLst (m : List Slot → W (List PyData)) : List Slot → W PyData := fun env P E => m env (fun ds => ds.length ≤ sizeLine ∧ P (.list ds)) E
theorem pd_tup {es : List Expr} {k : Nat} {mr : List Slot → W (List PyData)} (p : PL X B f es mr) (hf : f.sw = true := by rfl) : PD X B f (.Tuple es k pos) (dTup mr) := pe_imp (pe_tupF p) fun σ H Q ⟨C, env, M, P, r, bo, hm, k⟩ =>
  ⟨C, env, M, _, r, bo, hm, fun vs H1 ds k1 r1 de ⟨z, p1⟩ => by
    have z' : vs.length ≤ sizeLine := by rw [de.length]; exact z
    refine ⟨z', fun p o n od => k _ _ (.tuple ds) (k1.trans (Kept.new n)) (r1.new n) ((denF_mk hf).mpr ?_) p1⟩
    simp only [Den]
    exact ⟨p, vs, rfl, .inl ⟨o, upd_same, od⟩, z', de.grow (mk_sub (f := f) r1 .refl).2 (grow_new n)⟩⟩
theorem pd_lst {es : List Expr} {mr : List Slot → W (List PyData)} (p : PL X B f es mr) (hf : f.sw = true := by rfl) : PD X B f (.List es pos) (dLst mr) := pe_imp (pe_lst p) fun σ H Q ⟨C, env, M, P, r, bo, hm, k⟩ =>
  ⟨C, env, M, _, r, bo, hm, fun vs H1 ds k1 r1 de ⟨z, p1⟩ => by
    have z' : vs.length ≤ sizeLine := by rw [de.length]; exact z
    refine ⟨z', fun p n => k _ _ (.list ds) (k1.trans (Kept.new n)) (r1.new n) ((denF_mk hf).mpr ?_) p1⟩
    simp only [Den]
    exact ⟨p, vs, rfl, upd_same, (mk_sub (f := f) r1 .refl).2.free n, z', de.grow (mk_sub (f := f) r1 .refl).2 (grow_new n)⟩⟩

/-! places and cuts -/
def oIx : O2
  | .list ds, .int i => fun P _ => ∃ d, atI ds i = some d ∧ P d
  | .tuple ds, .int i => fun P _ => ∃ d, atI ds i = some d ∧ P d
  | _, _ => fun _ _ => False
theorem denL_atI {K : PySem.W.Frag} {M : Mk} {H : Hp} {ds : List PyData} {vs : List V} (h : DenL K M H ds vs) {i : Int} {d : PyData} (e : atI ds i = some d) : ∃ v, atI vs i = some v ∧ Den K M H d v := by
  unfold atI at e ⊢
  rw [h.length]
  cases q : ixN ds.length i with
  | none => rw [q] at e; simp at e
  | some j =>
    rw [q] at e
    exact h.get' (by simpa using e)
theorem od_ix {K : PySem.W.Frag} : OpD K B .o .o .s oIx (fun x y H Q => rIxL K x y H Q ∨ rIxT K x y H Q) := by
  intro C M env σ H v u d e P Q r dv du hm k
  unfold oIx at hm
  split at hm
  · obtain ⟨x, h1, hm⟩ := hm
    obtain ⟨a, xs, rfl, g1, g2, g3⟩ := den_lst dv
    obtain ⟨w, h2, h3⟩ := denL_atI g3 h1
    exact .inl ⟨a, xs, _, w, rfl, den_int du, .of g1, h2, k w H x .refl r h3 hm⟩
  · obtain ⟨x, h1, hm⟩ := hm
    obtain ⟨a, xs, rfl, g1, g2, g3⟩ := den_tup dv
    obtain ⟨w, h2, h3⟩ := denL_atI g3 h1
    exact .inr ⟨a, xs, _, w, rfl, den_int du, g1, h2, k w H x .refl r h3 hm⟩
  · exact hm.elim
theorem pd_ix (ha : PD X B .o a ma) (hb : PD X B .o b mb) (hs : PlainIx b := by exact fun _ _ => rfl) : PD X B .s (.Subscript a b pos) (dBin oIx ma mb) := pe_imp (pe_ix (ix_list.or ix_tup) ha hb hs) (tOf_bin od_ix)
/-- a part of a cut: none, or an int -/
def dNo : List Slot → W (Option Int) := fun _ P _ => P none
def dPart (m : List Slot → W PyData) : List Slot → W (Option Int) := fun env P E => m env (fun d => match d with
  | .int i => P (some i)
  | _ => False) E
def toOf (K : PySem.W.Frag) (B : Bd) (m : List Slot → W (Option Int)) : TO := fun σ H Q => ∃ C env M P, R K C M σ H env ∧ B.ok C ∧ m env P B.er ∧
  ∀ i H', Kept C.X0 H H' → R K C M σ H' env → P i → Q i H'
abbrev PP (X : Cx) (B : Bd) (e : Option Expr) (m : List Slot → W (Option Int)) : Prop := PO X e (toOf X.K B m)
theorem po_imp {e : Option Expr} {t t' : TO} (h : PO X e t) (i : ∀ σ H Q, t' σ H Q → t σ H Q) : PO X e t' := ⟨fun pins s σ H Q I q => h.run pins s σ H Q I (i _ _ _ q)⟩
theorem pp_no : PP X B none dNo := po_imp po_none fun σ H Q ⟨C, env, M, P, r, bo, hm, k⟩ => k none H .refl r hm
theorem pp_some (p : PD X B .o e m) : PP X B (some e) (dPart m) := po_imp (po_some p) fun σ H Q ⟨C, env, M, P, r, bo, hm, k⟩ => ⟨C, env, M, _, r, bo, hm, fun v H1 d k1 r1 de p1 => by
  split at p1
  · rename_i i
    exact ⟨i, den_int de, k (some i) H1 k1 r1 p1⟩
  · exact p1.elim⟩
def cutD (xs : List PyData) (lo hi : Option Int) : List PyData := (xs.drop (HT.sIx xs.length 0 lo)).take (HT.sIx xs.length xs.length hi - HT.sIx xs.length 0 lo)
theorem denL_cut {K : PySem.W.Frag} {M : Mk} {H : Hp} {ds : List PyData} {vs : List V} (h : DenL K M H ds vs) (lo hi : Option Int) : DenL K M H (cutD ds lo hi) (cutV vs lo hi) := by
  unfold cutD cutV
  rw [← h.length]
  exact (h.drop _).take _
def oCut (d : PyData) (lo hi : Option Int) : W PyData := match d with
  | .list ds => fun P _ => P (.list (cutD ds lo hi))
  | .tuple ds => fun P _ => P (.tuple (cutD ds lo hi))
  | _ => fun _ _ => False
def dCut (ma : List Slot → W PyData) (ml mh : List Slot → W (Option Int)) : List Slot → W PyData := fun env P E => ma env (fun x => ml env (fun l => mh env (fun u => oCut x l u P E) E) E) E
theorem pd_cut {lo hi : Option Expr} {ml mh : List Slot → W (Option Int)} {p2 : Pos} (ha : PD X B .o a ma) (hl : PP X B lo ml) (hh : PP X B hi mh) : PD X B .s (.Subscript a (.Slice lo hi none p2) pos) (dCut ma ml mh) :=
  pe_imp (pe_slice (sl_list.or sl_tupF) ha hl hh) fun σ H Q ⟨C, env, M, P, r, bo, hm, k⟩ => ⟨C, env, M, _, r, bo, hm, fun v H1 d k1 r1 de p1 => ⟨C, env, M, _, r1, bo, p1, fun l H2 k2 r2 p2 => ⟨C, env, M, _, r2, bo, p2, fun u H3 k3 r3 p3 => by
    have de := (de.step r1 k2).step r2 k3
    have kk := k1.trans (k2.trans k3)
    have kx : ∀ w H' x, Kept C.X0 H3 H' → R X.K C M σ H' env → DenF X.K C M H' .s x w → P x → Q w H' := fun w H' x k4 r4 de4 p4 => k w H' x (kk.trans k4) r4 de4 p4
    unfold oCut at p3
    split at p3
    · obtain ⟨a, xs, rfl, g1, g2, g3⟩ := den_lst de
      exact .inl ⟨a, xs, rfl, .of g1, mk_lst r3 (denL_cut g3 l u) (Nat.le_trans (cutV_length _ _ _) g2) p3 kx⟩
    · obtain ⟨a, xs, rfl, g1, g2, g3⟩ := den_tupD de
      refine .inr ⟨a, xs, rfl, g1.sq, fun ⟨e1, e2⟩ => ?_, mk_tup r3 (denL_cut g3 l u) (Nat.le_trans (cutV_length _ _ _) g2) p3 kx⟩
      have e : cutV xs l u = xs := by
        unfold cutV
        rw [e1, e2]
        simp
      have g4 := denL_cut g3 l u
      rw [e] at g4
      refine kx _ H3 _ .refl r3 ?_ p3
      show Den _ _ _ (.tuple _) _
      simp only [Den]
      exact ⟨a, xs, rfl, g1, g2, g4⟩
    · exact p3.elim⟩⟩⟩
end
end MT
end

section
set_option maxRecDepth 100000
set_option maxHeartbeats 4000000
namespace MT
open PySem PySem.Spec PyProof.Rows L2
section
variable {X : Cx} {B : Bd} {f g h : Fl} {e a b c : Expr} {m ma mb mc : List Slot → W PyData} {pos p : Pos} {x : Str} {id T : String}

/-! built-in functions of one argument, of two -/
theorem pd_callB1 {op : O1} {r : List V → Hp → VK → Prop} (hc : CallR X (.builtin id) r) (hs : UnD X.K B f h op (fun v H Q => r [v] H Q)) (hg : Gl X x) (hm : X.mg x = none) (hv : bootBuiltins x = some (.builtin id)) (q : PD X B f e m) (hn : x ≠ "__name__" := by decide) (hdb : (x == ("__debug__" : Str)) = false := by decide)
    (h1 : starEach [e] X.env = (false, eval e X.env) :: starEach [] X.env := by rfl) (h2 : (backTo pos (starEach ([] : List Expr) X.env)).any (·.1) = false := by rfl) : PD X B h (.Call (.Name x p) [e] [] pos) (dUn op m) :=
  pe_imp (pe_callB hc hg hm hv (pa_cons q pa_nil h1) hn hdb h1 h2) (tOf_un hs)
theorem pd_callT1 {op : O1} {r : List V → Hp → VK → Prop} (hc : CallR X (.type T) r) (hs : UnD X.K B f h op (fun v H Q => r [v] H Q)) (hg : Gl X x) (hm : X.mg x = none) (hv : bootBuiltins x = some (.type T)) (q : PD X B f e m) (hn : x ≠ "__name__" := by decide) (hdb : (x == ("__debug__" : Str)) = false := by decide)
    (h1 : starEach [e] X.env = (false, eval e X.env) :: starEach [] X.env := by rfl) (h2 : (backTo pos (starEach ([] : List Expr) X.env)).any (·.1) = false := by rfl) : PD X B h (.Call (.Name x p) [e] [] pos) (dUn op m) :=
  pe_imp (pe_callTy hc hg hm hv (pa_cons q pa_nil h1) hn hdb h1 h2) (tOf_un hs)
theorem pd_callB2 {op : O2} {r : List V → Hp → VK → Prop} (hc : CallR X (.builtin id) r) (hs : OpD X.K B f g h op (fun v u H Q => r [v, u] H Q)) (hg : Gl X x) (hm : X.mg x = none) (hv : bootBuiltins x = some (.builtin id)) (q : PD X B f a ma) (q2 : PD X B g b mb) (hn : x ≠ "__name__" := by decide) (hdb : (x == ("__debug__" : Str)) = false := by decide)
    (h1 : starEach [a, b] X.env = (false, eval a X.env) :: starEach [b] X.env := by rfl) (h3 : starEach [b] X.env = (false, eval b X.env) :: starEach [] X.env := by rfl) (h2 : (backTo pos (starEach [b] X.env)).any (·.1) = false := by rfl) : PD X B h (.Call (.Name x p) [a, b] [] pos) (dBin op ma mb) :=
  pe_imp (pe_callB hc hg hm hv (pa_cons q (pa_cons q2 pa_nil h3) h1) hn hdb h1 h2) (tOf_bin hs)

def oLen : O1
  | .list ds => fun P _ => P (.int ds.length)
  | .tuple ds => fun P _ => P (.int ds.length)
  | .str s => fun P _ => s.length ≤ sizeLine ∧ P (.int s.length)
  | _ => fun _ _ => False
theorem ud_len {K : PySem.W.Frag} : UnD K B .o .s oLen (fun v H Q => ∃ x n, [v] = [x] ∧ LenV K x H n ∧ Q (.int n) H) := by
  intro C M env σ H v d P Q r dv hm k
  unfold oLen at hm
  split at hm
  · obtain ⟨a, xs, rfl, g1, g2, g3⟩ := den_lst dv
    rw [← g3.length] at hm
    exact ⟨_, _, rfl, .inl ⟨xs, .of g1, rfl⟩, mk_at r rfl hm k⟩
  · obtain ⟨a, xs, rfl, g1, g2, g3⟩ := den_tup dv
    rw [← g3.length] at hm
    exact ⟨_, _, rfl, .inr ⟨xs, g1, rfl⟩, mk_at r rfl hm k⟩
  · rw [den_str dv]
    exact ⟨_, _, rfl, ⟨hm.1, rfl⟩, mk_at r rfl hm.2 k⟩
  · exact hm.elim
theorem pd_len (hg : Gl X "len") (hm : X.mg "len" = none) (q : PD X B .o e m) (h1 : starEach [e] X.env = (false, eval e X.env) :: starEach [] X.env := by rfl) : PD X B .s (.Call (.Name "len" p) [e] [] pos) (dUn oLen m) := pd_callB1 call_len ud_len hg hm PySem.boot_len q (by decide) (by decide) h1
def oAbs : O1
  | .int i => fun P _ => P (.int (if i < 0 then -i else i))
  | _ => fun _ _ => False
theorem ud_abs {K : PySem.W.Frag} : UnD K B .o .s oAbs (fun v H Q => ∃ i, [v] = [V.int i] ∧ Q (.int (if i < 0 then -i else i)) H) := by
  intro C M env σ H v d P Q r dv hm k
  unfold oAbs at hm
  split at hm
  · rw [den_int dv]
    exact ⟨_, rfl, mk_at r rfl hm k⟩
  · exact hm.elim
theorem pd_abs (hg : Gl X "abs") (hm : X.mg "abs" = none) (q : PD X B .o e m) (h1 : starEach [e] X.env = (false, eval e X.env) :: starEach [] X.env := by rfl) : PD X B .s (.Call (.Name "abs" p) [e] [] pos) (dUn oAbs m) := pd_callB1 call_abs ud_abs hg hm PyProof.Rows.boot_abs q (by decide) (by decide) h1
def oInt : O1
  | .int i => fun P _ => P (.int i)
  | .bool b => fun P _ => P (.int (if b then 1 else 0))
  | _ => fun _ _ => False
theorem ud_int {K : PySem.W.Frag} : UnD K B .o .s oInt (fun v H Q => (∃ i, [v] = [V.int i] ∧ Q (.int i) H) ∨ ∃ k, [v] = [V.bl k] ∧ Q (.int (if k then 1 else 0)) H) := by
  intro C M env σ H v d P Q r dv hm k
  unfold oInt at hm
  split at hm
  · rw [den_int dv]
    exact .inl ⟨_, rfl, mk_at r rfl hm k⟩
  · rw [den_bl dv]
    exact .inr ⟨_, rfl, mk_at r rfl hm k⟩
  · exact hm.elim
theorem pd_int1 (hg : Gl X "int") (hm : X.mg "int" = none) (q : PD X B .o e m) (h1 : starEach [e] X.env = (false, eval e X.env) :: starEach [] X.env := by rfl) : PD X B .s (.Call (.Name "int" p) [e] [] pos) (dUn oInt m) := pd_callT1 call_int1 ud_int hg hm PyProof.Rows.boot_int q (by decide) (by decide) h1
/-- tuple(x), list(x) -/
def oTuple : O1
  | .list ds => fun P _ => P (.tuple ds)
  | .tuple ds => fun P _ => P (.tuple ds)
  | _ => fun _ _ => False
theorem pd_tuple (hg : Gl X "tuple") (hm : X.mg "tuple" = none) (q : PD X B .o e m) (h1 : starEach [e] X.env = (false, eval e X.env) :: starEach [] X.env := by rfl) : PD X B .s (.Call (.Name "tuple" p) [e] [] pos) (dUn oTuple m) := pe_imp (pe_tupleF hg hm q h1) fun σ H Q hh => tOf_un (r := kTupF X.K) (op := oTuple) (f := .o) (h := .s) (by
  intro C M env σ H v d P Q r dv hm k
  unfold oTuple at hm
  split at hm
  · obtain ⟨a, xs, rfl, g1, g2, g3⟩ := den_lst dv
    exact .inl ⟨a, xs, rfl, .of g1, mk_tup r g3 g2 hm k⟩
  · obtain ⟨a, xs, rfl, g1, g2, g3⟩ := den_tup dv
    exact .inr ⟨a, xs, rfl, g1, k _ H _ .refl r dv hm⟩
  · exact hm.elim) σ H Q hh
def oList : O1
  | .list ds => fun P _ => P (.list ds)
  | .tuple ds => fun P _ => P (.list ds)
  | _ => fun _ _ => False
theorem ud_list {K : PySem.W.Frag} : UnD K B .o .s oList (fun v H Q => ∃ p ys, [v] = [V.ref p] ∧ (SqL K H p ys ∨ SqT K H p ys) ∧ ∀ l, H l = none → Q (.ref l) (upd H l (.lst ys))) := by
  intro C M env σ H v d P Q r dv hm k
  unfold oList at hm
  split at hm
  · obtain ⟨a, xs, rfl, g1, g2, g3⟩ := den_lst dv
    exact ⟨a, xs, rfl, .inl (.of g1), mk_lst r g3 g2 hm k⟩
  · obtain ⟨a, xs, rfl, g1, g2, g3⟩ := den_tup dv
    exact ⟨a, xs, rfl, .inr g1, mk_lst r g3 g2 hm k⟩
  · exact hm.elim
theorem pd_list (hg : Gl X "list") (hm : X.mg "list" = none) (q : PD X B .o e m) (h1 : starEach [e] X.env = (false, eval e X.env) :: starEach [] X.env := by rfl) : PD X B .s (.Call (.Name "list" p) [e] [] pos) (dUn oList m) := pd_callT1 call_list_of ud_list hg hm PyProof.Rows.boot_list q (by decide) (by decide) h1
/-- range as a value -/
def dRg1 (ma : List Slot → W PyData) : List Slot → W (Int × Int) := fun env P E => ma env (fun d => match d with
  | .int n => P (0, n)
  | _ => False) E
def dRg2 (ma mb : List Slot → W PyData) : List Slot → W (Int × Int) := fun env P E => ma env (fun x => mb env (fun y => match x, y with
  | .int i, .int j => P (i, j)
  | _, _ => False) E) E
def tgOf (K : PySem.W.Frag) (B : Bd) (m : List Slot → W (Int × Int)) : L2.St → Hp → (Int → Int → Hp → Prop) → Prop := fun σ H Q => ∃ C env M P, R K C M σ H env ∧ B.ok C ∧ m env P B.er ∧
  ∀ i j H', Kept C.X0 H H' → R K C M σ H' env → P (i, j) → Q i j H'
abbrev PG1 (X : Cx) (B : Bd) (e : Expr) (m : List Slot → W (Int × Int)) : Prop := PRg X e (tgOf X.K B m)
theorem prg_imp {t t' : L2.St → Hp → (Int → Int → Hp → Prop) → Prop} (h : PRg X e t) (i : ∀ σ H Q, t' σ H Q → t σ H Q) : PRg X e t' := fun pins s σ H Q I q => h pins s σ H Q I (i _ _ _ q)
theorem pg_r1 (hg : Gl X "range") (hm : X.mg "range" = none) (q : PD X B .o a ma) (h1 : starEach [a] X.env = (false, eval a X.env) :: starEach [] X.env := by rfl) : PG1 X B (.Call (.Name "range" p) [a] [] pos) (dRg1 ma) := prg_imp (prg_1 hg hm q h1) fun σ H Q ⟨C, env, M, P, r, bo, hm, k⟩ =>
  ⟨C, env, M, _, r, bo, hm, fun v H1 d k1 r1 de p1 => by
    split at p1
    · exact ⟨_, den_int de, k 0 _ H1 k1 r1 p1⟩
    · exact p1.elim⟩
theorem pg_r2 (hg : Gl X "range") (hm : X.mg "range" = none) (q : PD X B .o a ma) (q2 : PD X B .o b mb) (h1 : starEach [a, b] X.env = (false, eval a X.env) :: starEach [b] X.env := by rfl) (h2 : starEach [b] X.env = (false, eval b X.env) :: starEach [] X.env := by rfl) (h3 : (backTo pos (starEach [b] X.env)).any (·.1) = false := by rfl) : PG1 X B (.Call (.Name "range" p) [a, b] [] pos) (dRg2 ma mb) := prg_imp (prg_2 hg hm q q2 h1 h2 h3) fun σ H Q ⟨C, env, M, P, r, bo, hm, k⟩ =>
  ⟨C, env, M, _, r, bo, hm, fun v H1 d k1 r1 de p1 => ⟨C, env, M, _, r1, bo, p1, fun u H2 d2 k2 r2 de2 p2 => by
    split at p2
    · exact ⟨_, _, den_int (de.step r1 k2), den_int de2, k _ _ H2 (k1.trans k2) r2 p2⟩
    · exact p2.elim⟩⟩
def rgD (a b : Int) : List PyData := (List.range (b - a).toNat).map fun i => PyData.int (a + (i : Nat))
theorem rgD_length (a b : Int) : (rgD a b).length = (b - a).toNat := by unfold rgD; simp
theorem denL_map {K : PySem.W.Frag} {M : Mk} {H : Hp} {α : Type} {d : α → PyData} {v : α → V} (h : ∀ a, Den K M H (d a) (v a)) : ∀ l : List α, DenL K M H (l.map d) (l.map v)
  | [] => by simp [DenL]
  | a :: l => by
    simp only [List.map_cons, DenL]
    exact ⟨_, _, rfl, h a, denL_map h l⟩
theorem denL_rg {K : PySem.W.Frag} {M : Mk} {H : Hp} (a b : Int) : DenL K M H (rgD a b) (rgV a b) := denL_map (fun _ => by simp [Den]) _
def dTupRg (m : List Slot → W (Int × Int)) : List Slot → W PyData := fun env P E => m env (fun q => RgOk q.1 q.2 ∧ P (.tuple (rgD q.1 q.2))) E
def dLstRg (m : List Slot → W (Int × Int)) : List Slot → W PyData := fun env P E => m env (fun q => RgOk q.1 q.2 ∧ P (.list (rgD q.1 q.2))) E
theorem rg_line {a b : Int} (h : RgOk a b) : (rgV a b).length ≤ sizeLine := by
  rw [rgV_length, sizeLine_eq]; exact h.2.2.2.2
theorem pd_tupRg {mr : List Slot → W (Int × Int)} (hc : X.calm = true) (hg : Gl X "tuple") (hm : X.mg "tuple" = none) (q : PG1 X B e mr) (h1 : starEach [e] X.env = (false, eval e X.env) :: starEach [] X.env := by rfl) : PD X B .s (.Call (.Name "tuple" p) [e] [] pos) (dTupRg mr) :=
  pe_imp (pe_tupRgF hc hg hm q h1) fun σ H Q ⟨C, env, M, P, r, bo, hm, k⟩ => ⟨C, env, M, _, r, bo, hm, fun i j H1 k1 r1 ⟨ok, p1⟩ => ⟨ok, mk_tup r1 (denL_rg i j) (rg_line ok) p1 fun w H' x k2 r2 de p2 => k w H' x (k1.trans k2) r2 de p2⟩⟩
theorem pd_lstRg {mr : List Slot → W (Int × Int)} (hc : X.calm = true) (hg : Gl X "list") (hm : X.mg "list" = none) (q : PG1 X B e mr) (h1 : starEach [e] X.env = (false, eval e X.env) :: starEach [] X.env := by rfl) : PD X B .s (.Call (.Name "list" p) [e] [] pos) (dLstRg mr) :=
  pe_imp (pe_listRg hc hg hm q h1) fun σ H Q ⟨C, env, M, P, r, bo, hm, k⟩ => ⟨C, env, M, _, r, bo, hm, fun i j H1 k1 r1 ⟨ok, p1⟩ => ⟨ok, mk_lst r1 (denL_rg i j) (rg_line ok) p1 fun w H' x k2 r2 de p2 => k w H' x (k1.trans k2) r2 de p2⟩⟩
/-- all, any: lists of bools -/
def boolsOf : List PyData → Option (List Bool)
  | [] => some []
  | .bool b :: r => (boolsOf r).map (b :: ·)
  | _ => none
theorem denL_bools {K : PySem.W.Frag} {M : Mk} {H : Hp} : ∀ {ds : List PyData} {vs : List V} {bs : List Bool}, DenL K M H ds vs → boolsOf ds = some bs → vs = bs.map V.bl
  | [], vs, bs, h, e => by simp only [DenL] at h; simp [boolsOf] at e; subst h; subst e; rfl
  | .bool b :: r, vs, bs, h, e => by
    simp only [DenL] at h
    obtain ⟨v, q, rfl, h1, h2⟩ := h
    simp only [Den] at h1
    subst h1
    simp only [boolsOf, Option.map_eq_some_iff] at e
    obtain ⟨cs, e1, rfl⟩ := e
    rw [denL_bools h2 e1]; rfl
  | .none :: _, _, _, _, e => by simp [boolsOf] at e
  | .int _ :: _, _, _, _, e => by simp [boolsOf] at e
  | .str _ :: _, _, _, _, e => by simp [boolsOf] at e
  | .list _ :: _, _, _, _, e => by simp [boolsOf] at e
  | .tuple _ :: _, _, _, _, e => by simp [boolsOf] at e
  | .dict _ :: _, _, _, _, e => by simp [boolsOf] at e
def oAll : O1
  | .list ds => fun P _ => ∃ bs, boolsOf ds = some bs ∧ P (.bool (bs.all _root_.id))
  | _ => fun _ _ => False
def oAny : O1
  | .list ds => fun P _ => ∃ bs, boolsOf ds = some bs ∧ P (.bool (bs.any _root_.id))
  | _ => fun _ _ => False
theorem ud_all {K : PySem.W.Frag} : UnD K B .o .s oAll (fun v H Q => rAll K [v] H Q) := by
  intro C M env σ H v d P Q r dv hm k
  unfold oAll at hm
  split at hm
  · obtain ⟨a, xs, rfl, g1, g2, g3⟩ := den_lst dv
    obtain ⟨bs, e1, hm⟩ := hm
    rw [denL_bools g3 e1] at g1
    exact ⟨a, bs, rfl, .of g1, mk_at r rfl hm k⟩
  · exact hm.elim
theorem ud_any {K : PySem.W.Frag} : UnD K B .o .s oAny (fun v H Q => rAny K [v] H Q) := by
  intro C M env σ H v d P Q r dv hm k
  unfold oAny at hm
  split at hm
  · obtain ⟨a, xs, rfl, g1, g2, g3⟩ := den_lst dv
    obtain ⟨bs, e1, hm⟩ := hm
    rw [denL_bools g3 e1] at g1
    exact ⟨a, bs, rfl, .of g1, mk_at r rfl hm k⟩
  · exact hm.elim
theorem pd_all (hc : X.calm = true) (hg : Gl X "all") (hm : X.mg "all" = none) (q : PD X B .o e m) (h1 : starEach [e] X.env = (false, eval e X.env) :: starEach [] X.env := by rfl) : PD X B .s (.Call (.Name "all" p) [e] [] pos) (dUn oAll m) := pd_callB1 (cr_all hc) ud_all hg hm PyProof.Rows.boot_all q (by decide) (by decide) h1
theorem pd_any (hc : X.calm = true) (hg : Gl X "any") (hm : X.mg "any" = none) (q : PD X B .o e m) (h1 : starEach [e] X.env = (false, eval e X.env) :: starEach [] X.env := by rfl) : PD X B .s (.Call (.Name "any" p) [e] [] pos) (dUn oAny m) := pd_callB1 (cr_any hc) ud_any hg hm (by decide +kernel) q (by decide) (by decide) h1
/-- lists of ints: sum, max, min -/
def intsOf : List PyData → Option (List Int)
  | [] => some []
  | .int b :: r => (intsOf r).map (b :: ·)
  | _ => none
theorem denL_ints {K : PySem.W.Frag} {M : Mk} {H : Hp} : ∀ {ds : List PyData} {vs : List V} {bs : List Int}, DenL K M H ds vs → intsOf ds = some bs → vs = bs.map V.int
  | [], vs, bs, h, e => by simp only [DenL] at h; simp [intsOf] at e; subst h; subst e; rfl
  | .int b :: r, vs, bs, h, e => by
    simp only [DenL] at h
    obtain ⟨v, q, rfl, h1, h2⟩ := h
    simp only [Den] at h1
    subst h1
    simp only [intsOf, Option.map_eq_some_iff] at e
    obtain ⟨cs, e1, rfl⟩ := e
    rw [denL_ints h2 e1]; rfl
  | .none :: _, _, _, _, e => by simp [intsOf] at e
  | .bool _ :: _, _, _, _, e => by simp [intsOf] at e
  | .str _ :: _, _, _, _, e => by simp [intsOf] at e
  | .list _ :: _, _, _, _, e => by simp [intsOf] at e
  | .tuple _ :: _, _, _, _, e => by simp [intsOf] at e
  | .dict _ :: _, _, _, _, e => by simp [intsOf] at e
def oSum : O1
  | .list ds => fun P _ => ∃ bs, intsOf ds = some bs ∧ P (.int bs.sum)
  | _ => fun _ _ => False
def oMax : O1
  | .list ds => fun P _ => ∃ bs, intsOf ds = some bs ∧ 0 < bs.length ∧ ∀ m, m ∈ bs → (∀ y, y ∈ bs → y ≤ m) → P (.int m)
  | _ => fun _ _ => False
def oMin : O1
  | .list ds => fun P _ => ∃ bs, intsOf ds = some bs ∧ 0 < bs.length ∧ ∀ m, m ∈ bs → (∀ y, y ∈ bs → m ≤ y) → P (.int m)
  | _ => fun _ _ => False
theorem ud_sum {K : PySem.W.Frag} : UnD K B .o .s oSum (fun v H Q => rSum K [v] H Q) := by
  intro C M env σ H v d P Q r dv hm k
  unfold oSum at hm
  split at hm
  · obtain ⟨a, xs, rfl, g1, g2, g3⟩ := den_lst dv
    obtain ⟨bs, e1, hm⟩ := hm
    rw [denL_ints g3 e1] at g1
    exact ⟨a, bs, rfl, .of g1, mk_at r rfl hm k⟩
  · exact hm.elim
theorem ud_max {K : PySem.W.Frag} : UnD K B .o .s oMax (fun v H Q => rMax K [v] H Q) := by
  intro C M env σ H v d P Q r dv hm k
  unfold oMax at hm
  split at hm
  · obtain ⟨a, xs, rfl, g1, g2, g3⟩ := den_lst dv
    obtain ⟨bs, e1, hz, hm⟩ := hm
    rw [denL_ints g3 e1] at g1
    exact ⟨a, bs, rfl, .of g1, hz, fun m h1 h2 => mk_at r rfl (hm m h1 h2) k⟩
  · exact hm.elim
theorem ud_min {K : PySem.W.Frag} : UnD K B .o .s oMin (fun v H Q => rMin K [v] H Q) := by
  intro C M env σ H v d P Q r dv hm k
  unfold oMin at hm
  split at hm
  · obtain ⟨a, xs, rfl, g1, g2, g3⟩ := den_lst dv
    obtain ⟨bs, e1, hz, hm⟩ := hm
    rw [denL_ints g3 e1] at g1
    exact ⟨a, bs, rfl, .of g1, hz, fun m h1 h2 => mk_at r rfl (hm m h1 h2) k⟩
  · exact hm.elim
theorem pd_sum (hc : X.calm = true) (hg : Gl X "sum") (hm : X.mg "sum" = none) (q : PD X B .o e m) (h1 : starEach [e] X.env = (false, eval e X.env) :: starEach [] X.env := by rfl) : PD X B .s (.Call (.Name "sum" p) [e] [] pos) (dUn oSum m) := pd_callB1 (cr_sum hc) ud_sum hg hm (by decide +kernel) q (by decide) (by decide) h1
theorem pd_max1 (hc : X.calm = true) (hg : Gl X "max") (hm : X.mg "max" = none) (q : PD X B .o e m) (h1 : starEach [e] X.env = (false, eval e X.env) :: starEach [] X.env := by rfl) : PD X B .s (.Call (.Name "max" p) [e] [] pos) (dUn oMax m) := pd_callB1 (cr_max hc) ud_max hg hm (by decide +kernel) q (by decide) (by decide) h1
theorem pd_min1 (hc : X.calm = true) (hg : Gl X "min") (hm : X.mg "min" = none) (q : PD X B .o e m) (h1 : starEach [e] X.env = (false, eval e X.env) :: starEach [] X.env := by rfl) : PD X B .s (.Call (.Name "min" p) [e] [] pos) (dUn oMin m) := pd_callB1 (cr_min hc) ud_min hg hm (by decide +kernel) q (by decide) (by decide) h1
def oMin2 : O2 := oI0 fun i j => .int (if j < i then j else i)
def oMax2 : O2 := oI0 fun i j => .int (if j > i then j else i)
theorem od_i2 {K : PySem.W.Frag} {g : Int → Int → Int} : OpD K B .o .o .s (oI0 fun i j => .int (g i j)) (fun v u H Q => ∃ i j, [v, u] = [V.int i, V.int j] ∧ Q (.int (g i j)) H) := by
  intro C M env σ H v u d e P Q r dv du hm k
  unfold oI0 at hm
  split at hm
  · rw [den_int dv, den_int du]
    exact ⟨_, _, rfl, mk_at r rfl hm k⟩
  · exact hm.elim
theorem pd_min2 (hc : X.calm = true) (hg : Gl X "min") (hm : X.mg "min" = none) (q : PD X B .o a ma) (q2 : PD X B .o b mb) (h1 : starEach [a, b] X.env = (false, eval a X.env) :: starEach [b] X.env := by rfl) (h3 : starEach [b] X.env = (false, eval b X.env) :: starEach [] X.env := by rfl) (h2 : (backTo pos (starEach [b] X.env)).any (·.1) = false := by rfl) : PD X B .s (.Call (.Name "min" p) [a, b] [] pos) (dBin oMin2 ma mb) :=
  pd_callB2 (call_min2 hc) od_i2 hg hm (by decide +kernel) q q2 (by decide) (by decide) h1 h3 h2
theorem pd_max2 (hc : X.calm = true) (hg : Gl X "max") (hm : X.mg "max" = none) (q : PD X B .o a ma) (q2 : PD X B .o b mb) (h1 : starEach [a, b] X.env = (false, eval a X.env) :: starEach [b] X.env := by rfl) (h3 : starEach [b] X.env = (false, eval b X.env) :: starEach [] X.env := by rfl) (h2 : (backTo pos (starEach [b] X.env)).any (·.1) = false := by rfl) : PD X B .s (.Call (.Name "max" p) [a, b] [] pos) (dBin oMax2 ma mb) :=
  pd_callB2 (call_max2 hc) od_i2 hg hm (by decide +kernel) q q2 (by decide) (by decide) h1 h3 h2
/-! isinstance -/
def tyN : PyData → String
  | .none => "NoneType"
  | .bool _ => "bool"
  | .int _ => "int"
  | .str _ => "str"
  | .list _ => "list"
  | .tuple _ => "tuple"
  | .dict _ => "dict"
def isI : PyData → Bool
  | .int _ => true
  | .bool _ => true
  | _ => false
def isBl : PyData → Bool
  | .bool _ => true
  | _ => false
def isT : PyData → Bool
  | .tuple _ => true
  | _ => false
def isL : PyData → Bool
  | .list _ => true
  | _ => false
def isS : PyData → Bool
  | .str _ => true
  | _ => false
def oIsi (t : PyData → Bool) : O1 := fun d P _ => P (.bool (t d))
theorem tyX_of {K : PySem.W.Frag} {C : Ctx} {M : Mk} {H : Hp} {d : PyData} {v : V} (h : DenF K C M H .o d v) : TyX K H v (.type (tyN d)) := by
  cases d with
  | none => rw [den_non h]; exact .base .non
  | bool b => rw [den_bl h]; exact .base (.bl _)
  | int b => rw [den_int h]; exact .base (.int _)
  | str b => rw [den_str h]; exact .base (.str _)
  | tuple ds =>
    obtain ⟨a, xs, rfl, q, _⟩ := den_tup h
    rcases q with (q | ⟨o, q⟩) | ⟨o, its, n, q, c, _⟩
    · exact .base (.tup q)
    · exact .fTuple q
    · exact .kTuple q c
  | list ds => obtain ⟨a, xs, rfl, q, _⟩ := den_lst h; exact .base (.lst q)
  | dict x => exact (den_dict h).elim
theorem denF_o {K : PySem.W.Frag} {C : Ctx} {M : Mk} {σ : L2.St} {H : Hp} {env : List Slot} (r : R K C M σ H env) {d : PyData} {v : V} : DenF K C M H .s d v → DenF K C M H .o d v := DenF.so r
theorem pd_isi {t : PyData → Bool} (hk : ∀ d, kitB (tyN d) T = some (t d)) (hg : Gl X "isinstance") (hm : X.mg "isinstance" = none) (hgT : Gl X x) (hmT : X.mg x = none) (hvT : bootBuiltins x = some (.type T)) {p2 : Pos} (q : PD X B .o e m) (hnT : x ≠ "__name__" := by decide) (hdT : (x == ("__debug__" : Str)) = false := by decide)
    (h1 : starEach [e, .Name x p2] X.env = (false, eval e X.env) :: starEach [.Name x p2] X.env := by rfl) : PD X B .s (.Call (.Name "isinstance" p) [e, .Name x p2] [] pos) (dUn (oIsi t) m) :=
  pe_imp (pe_callB call_isi hg hm PyProof.Rows.boot_isinstance (pa_cons q (pa_cons (pe_bltn (v := .ty T) hgT hmT hvT rfl hnT hdT) pa_nil rfl) h1) (by decide) (by decide) h1 rfl) fun σ H Q ⟨C, env, M, P, r, bo, hm, k⟩ =>
    ⟨C, env, M, _, r, bo, hm, fun v H1 d k1 r1 de p1 => ⟨v, .ty T, _, _, _, rfl, .ty T, tyX_of de, kit_ty (hk d), mk_at r1 rfl p1 fun w H' x k2 r2 de2 p2 => k w H' x (k1.trans k2) r2 de2 p2⟩⟩
theorem kit_int : ∀ d, kitB (tyN d) "int" = some (isI d) := fun d => by cases d <;> simp only [tyN, isI] <;> decide +kernel
theorem kit_bool : ∀ d, kitB (tyN d) "bool" = some (isBl d) := fun d => by cases d <;> simp only [tyN, isBl] <;> decide +kernel
theorem kit_tuple : ∀ d, kitB (tyN d) "tuple" = some (isT d) := fun d => by cases d <;> simp only [tyN, isT] <;> decide +kernel
theorem kit_list : ∀ d, kitB (tyN d) "list" = some (isL d) := fun d => by cases d <;> simp only [tyN, isL] <;> decide +kernel
theorem kit_str : ∀ d, kitB (tyN d) "str" = some (isS d) := fun d => by cases d <;> simp only [tyN, isS] <;> decide +kernel
theorem boot_bool' : bootBuiltins "bool" = some (.type "bool") := by decide +kernel
theorem boot_str' : bootBuiltins "str" = some (.type "str") := by decide +kernel
end
end MT
end

section
set_option maxRecDepth 100000
set_option maxHeartbeats 4000000
namespace PySem
open Sem (wp)
open AutoSeq1 (wpAny_loadPart')
theorem mt_enumT (l : Addr) (items : Array Value) (n : Nat) (dct : Option Addr) (sl : Array (Option Value)) :
    Meets (Builtin.«enumerate.__new__» ⟨[.type "enumerate", .ref l], []⟩) (fun _ Rr s => s.heap.get? l = some { cls := .type "tuple", dict := dct, data := .seq items n, slots := sl } ∧
      Rr (.ok (.ret (.ref (s.heap.objs.size + 1)))) { s with heap := (s.heap.push { cls := .type "tuple_iterator", data := .fields #[.ref l, .int 0 0] }).push { cls := .type "enumerate", data := .fields #[.none, .bool false, .ref s.heap.objs.size, rawInt 0, .none, .none] } }) :=
  .of_wp fun prog w A Rr s h => by
    obtain ⟨hp, g, d, tk, os⟩ := s; obtain ⟨hl, h⟩ := h
    have hsub := sub_enumerate
    have hz : (hp.push { cls := .type "tuple_iterator", data := .fields #[.ref l, .int 0 0] }).objs.size = hp.objs.size + 1 := Heap.size_push ..
    have hT : Heap.IsTuple (Shared.heap ⟨hp, g, d, tk, os⟩) l items := ⟨_, hl, rfl, n, rfl⟩
    have h := hz ▸ h
    wp_walk using wpAny_loadPart' hl
    refine wpAny_stack_any fun st => wpAny_pure ?_
    split
    · rename_i c _ _ _ _ _
      cases (c == Value.type "enumerate") <;> (wp_walk using wpAny_loadPart' hl, wpAny_pyIter_tuple hT; exact ⟨_, rfl, h⟩)
    · wp_walk using wpAny_loadPart' hl, wpAny_pyIter_tuple hT
      exact ⟨_, rfl, h⟩
end PySem
end

section
set_option maxRecDepth 100000
set_option maxHeartbeats 4000000
namespace MT
open PySem PySem.Spec PyProof.Rows L2
section
variable {prog : Program} {w : World} {A : Around} {E : Value → Shared → Prop} {s : Shared}
theorem call_enumT {l : Addr} {items : Array Value} {Q : Value → Shared → Prop} (hT : IsTup s.heap l items)
    (h : ∀ h', IsEnum h' (s.heap.objs.size + 1) s.heap.objs.size 0 .none → h'.IsTupleIter s.heap.objs.size l 0 →
      (∀ b o, s.heap.get? b = some o → h'.get? b = some o) → Q (.ref (s.heap.objs.size + 1)) { s with heap := h' }) :
    wpAny (model prog w) A (call (.type "enumerate") [.ref l]) Q E s := by
  obtain ⟨⟨c, dct, dt, sl⟩, hl, hc, n, hd⟩ := hT
  simp only at hc hd
  subst hc hd
  refine callType_new F.called_enumerate (by decide) (F.typeCall_enumerate_1 _) (F.newCall_enumerate_1 _) (fun obj => F.args_object_init_2 obj _) F.entry_enumerate_new (mt_enumT l items n dct sl) ⟨hl, ?_⟩
  have hz : (s.heap.push { cls := .type "tuple_iterator", data := .fields #[.ref l, .int 0 0] }).objs.size = s.heap.objs.size + 1 := Heap.size_push ..
  have g := Heap.get?_push_size (s.heap.push { cls := .type "tuple_iterator", data := .fields #[.ref l, .int 0 0] }) (o := { cls := .type "enumerate", data := .fields #[.none, .bool false, .ref s.heap.objs.size, rawInt 0, .none, .none] }) rfl
  rw [hz] at g
  exact ⟨⟨_, g, rfl⟩, h _ g ⟨_, Heap.get?_push_of_some _ (Heap.get?_push_size _ rfl), rfl, rfl⟩ fun b o x => Heap.get?_push_of_some _ (Heap.get?_push_of_some _ x)⟩
end
/-- enumerate(tuple): each item in a new pair -/
def IteT (K : PySem.W.Frag) (a : Addr) : It :=
  ⟨fun i H => ∃ (xs : List V) (x : V), SqT K H a xs ∧ xs[i]? = some x, fun i H v H' => ∃ T x, v = .ref T ∧ H T = none ∧ H' = upd H T (.tup [.int (i : Nat), x]) ∧ ∀ xs, SqT K H a xs → xs[i]? = some x, fun i H => ∃ xs : List V, SqT K H a xs ∧ xs.length = i⟩
theorem turn_enumT {P : Program} {w : World} {K : PySem.W.Frag} {elts : List Expr} {kk : Nat} {tpos : Pos} (a e it : Addr) (hai : a ≠ it) (hae : a ≠ e) :
    Turn P w K (.Tuple elts kk tpos) (IteT K a) [e, it] e (fun i h => (∃ old, IsEnum h e it ((i : Nat) : Int) old) ∧ h.IsTupleIter it a i ∧ e ≠ it) where
  mem := by simp
  obj := fun i h st b hb => by
    obtain ⟨⟨old, he⟩, ⟨o, ho, hc, hd⟩, _⟩ := st
    rcases (by simpa using hb : b = e ∨ b = it) with rfl | rfl
    · exact ⟨_, he, fun v q => nomatch q⟩
    · exact ⟨o, ho, fun v q => by rw [hd] at q; cases q⟩
  keep := fun i h h' st k => ⟨st.1.elim fun old he => ⟨old, k e (by simp) _ he⟩, st.2.1.at fun o q => k it (by simp) o q, st.2.2⟩
  item := by
    intro X hP hw hK hc i pins s σ H E I hf st hg
    subst hP hw hK
    obtain ⟨⟨old, he⟩, hit, hne⟩ := st
    obtain ⟨xs, x, hq, hx⟩ := hg
    obtain ⟨its, rv, p, hz⟩ := I.tuple hq
    obtain ⟨u, hu, ru⟩ := rv.get hx
    have hel := Heap.lt_size he
    have hil : it < s.heap.objs.size := hit.elim fun _ q => Heap.lt_size q.1
    have hn : i < its.toArray.size := by simpa using (List.getElem?_eq_some_iff.mp hu).1
    refine wpAny_pyNext_enum_itemD (Draws.tuple (A := X.A.in1) (I.ok.hd hc) it a hai its.toArray) he ⟨hit, p⟩ hn hne (by simp [hne, Ne.symm hae]) fun v h' tk hv ho st' hT hsz hk => ?_
    have ev : v = u := Option.some.inj (hv.symm.trans (by simpa using hu))
    subst ev
    refine ⟨_, rfl, wpAny_letOwnedTupleGo_enum (s := { s with heap := h', toks := tk + 1 }) ho fun h'' he' sb => ?_⟩
    have hT2 := (sb.2 _ (Nat.ne_of_gt hel)).trans hT
    have new : ObjOk X.prog X.w (upd H s.heap.objs.size (.tup [.int (i : Nat), x])) h'' s.heap.objs.size (.tup [.int (i : Nat), x]) :=
      ⟨by show 2 ≤ sizeLine; decide, [.int i tk, v], .cons ⟨_, rfl⟩ (.cons ru .nil), ⟨_, hT2, rfl, _, rfl⟩⟩
    have I1 := I.turnedNew (t' := tk + 1) (ch := [e, it]) (fun b ob hb q => (sb.2 b (fun z => hb (by simp [z]))).trans (hk b ob (fun z => hb (by simp [z])) (fun z => hb (by simp [z])) q)) hf (Nat.le_refl _) new
    refine ⟨.ref s.heap.objs.size, _, I1, rfl, ⟨_, x, rfl, I.hok.fresh (Nat.le_refl _), rfl, fun ys hy => by rw [I.tuple_inj hy hq]; exact hx⟩, ⟨⟨v, ?_⟩, st'.1.at fun o q => (sb.2 it (Ne.symm hne)).trans q, hne⟩, fun b hb => ?_⟩
    · rw [show ((i + 1 : Nat) : Int) = (i : Int) + 1 by omega]; exact he'
    · have hb' : b < s.heap.objs.size := by rcases (by simpa using hb : b = e ∨ b = it) with rfl | rfl <;> assumption
      rw [upd_ne (Nat.ne_of_lt hb')]
      exact (hf b hb).1
  done := by
    intro X hP hw hK hc i pins s σ H E I hf st hg
    subst hP hw hK
    obtain ⟨⟨old, he⟩, hit, hne⟩ := st
    obtain ⟨xs, hq, hx⟩ := hg
    obtain ⟨its, rv, p, hz⟩ := I.tuple hq
    obtain ⟨f0, f1, f2, f3, f4, f5⟩ := hf it (by simp)
    have hl := rv.length
    have hn : its.toArray.size = i := by rw [List.size_toArray, ← hl]; exact hx
    subst hn
    exact wpAny_pyNext_enum_endD (Draws.tuple (A := X.A.in1) (I.ok.hd hc) it a hai its.toArray) he ⟨hit, p⟩ fun h' eb => ⟨rfl, I.turned (t' := s.toks) (fun b o hb q => eb b o hb q) f0 f1 f3 f4 f5⟩
  self := fun A i s Q E st h => st.1.elim fun _ he => wpAny_pyIter_enum he h
end MT
end

section
set_option maxRecDepth 100000
set_option maxHeartbeats 4000000
namespace MT
open PySem PySem.Spec PyProof.Rows L2

/-! what is walked -/
/-- data, or (lo) a tuple of data of any make -/
def DenT (lo : Bool) (K : PySem.W.Frag) (M : Mk) (H : Hp) (d : PyData) (v : V) : Prop := Den K M H d v ∨ (lo = true ∧ ∃ ds a xs, d = .tuple ds ∧ v = .ref a ∧ SqT K H a xs ∧ xs.length ≤ sizeLine ∧ DenL K M H ds xs)
structure ItOk (K : PySem.W.Frag) (f : Fl) (lo : Bool) (J : It) (items : List PyData) (srcs : List (PyData × V)) : Prop where
  go : ∀ C M H i, (∀ p ∈ srcs, DenF K C M H f p.1 p.2) → i < items.length → J.go i H
  stop : ∀ C M H, (∀ p ∈ srcs, DenF K C M H f p.1 p.2) → J.stop items.length H
  yld : ∀ C M H i v H', (∀ p ∈ srcs, DenF K C M H f p.1 p.2) → MOk M H → i < items.length → J.yld i H v H' → (∀ a o, H a = some o → H' a = some o) ∧ ∃ d, items[i]? = some d ∧ DenT lo K M H' d v
def tiOf (K : PySem.W.Frag) (B : Bd) (f : Fl) (lo : Bool) (mi : List Slot → W (List PyData)) : TI := fun σ H Rr => ∃ C env M P, R K C M σ H env ∧ B.ok C ∧ mi env P B.er ∧
  ∀ J H' items srcs, Kept C.X0 H H' → R K C M σ H' env → ItOk K f lo J items srcs → (∀ p ∈ srcs, DenF K C M H' f p.1 p.2) → items.length ≤ sizeLine → P items → Rr J H'
abbrev PIt (X : Cx) (B : Bd) (f : Fl) (lo : Bool) (tg e : Expr) (mi : List Slot → W (List PyData)) : Prop := PI X tg e (tiOf X.K B f lo mi)
theorem pi_imp {X : Cx} {tg e : Expr} {t t' : TI} (h : PI X tg e t) (i : ∀ σ H Q, t' σ H Q → t σ H Q) : PI X tg e t' := ⟨fun pins s σ H Q I q => h.run pins s σ H Q I (i _ _ _ q)⟩
theorem denO_seq {K : PySem.W.Frag} {C : Ctx} {M : Mk} {H : Hp} {f : Fl} (hf : f = .s ∨ f = .o) {ds : List PyData} {v : V} (h : DenF K C M H f (.list ds) v) : ∃ a xs, v = V.ref a ∧ H a = some (.lst xs) ∧ xs.length ≤ sizeLine ∧ DenL K M H ds xs := by
  rcases hf with rfl | rfl
  · have h : Den K M H (.list ds) v := h
    simp only [Den] at h
    obtain ⟨a, xs, e, h1, _, h2, h3⟩ := h
    exact ⟨a, xs, e, h1, h2, h3⟩
  · exact den_lst h
theorem denO_tup {K : PySem.W.Frag} {C : Ctx} {M : Mk} {H : Hp} {f : Fl} (hf : f = .s ∨ f = .o) {ds : List PyData} {v : V} (h : DenF K C M H f (.tuple ds) v) : ∃ a xs, v = V.ref a ∧ SqT K H a xs ∧ xs.length ≤ sizeLine ∧ DenL K M H ds xs := by
  obtain ⟨a, xs, e, h1, h2⟩ : ∃ a xs, v = V.ref a ∧ TupD K H a xs ∧ xs.length ≤ sizeLine ∧ DenL K M H ds xs := by
    rcases hf with rfl | rfl <;> (have h : Den K M H (.tuple ds) v := h; simpa only [Den] using h)
  exact ⟨a, xs, e, h1.sq, h2⟩
section
variable {K : PySem.W.Frag} {f : Fl} {a b : Addr} {ds es : List PyData}
theorem it_lst (hf : f = .s ∨ f = .o) : ItOk K f false (Itl K a) ds [(.list ds, V.ref a)] where
  go := fun C M H i h hi => by
    obtain ⟨b, xs, e, h1, h2, h3⟩ := denO_seq hf (h _ List.mem_cons_self)
    cases e
    exact walk_list.goes i H (by rw [h3.length]; exact hi) (.of h1)
  stop := fun C M H h => by
    obtain ⟨b, xs, e, h1, h2, h3⟩ := denO_seq hf (h _ List.mem_cons_self)
    cases e
    rw [← h3.length]
    exact walk_list.stops H (.of h1)
  yld := fun C M H i v H' h m hi y => by
    obtain ⟨b, xs, e, h1, h2, h3⟩ := denO_seq hf (h _ List.mem_cons_self)
    cases e
    obtain ⟨rfl, e⟩ := walk_list.yields i H v H' (by rw [h3.length]; exact hi) (.of h1) y
    obtain ⟨d, e1, e2⟩ := h3.get e
    exact ⟨fun _ _ z => z, d, e1, .inl e2⟩
theorem it_tup (hf : f = .s ∨ f = .o) : ItOk K f false (Itt K a) ds [(.tuple ds, V.ref a)] where
  go := fun C M H i h hi => by
    obtain ⟨b, xs, e, h1, h2, h3⟩ := denO_tup hf (h _ List.mem_cons_self)
    cases e
    exact walk_tup.goes i H (by rw [h3.length]; exact hi) h1
  stop := fun C M H h => by
    obtain ⟨b, xs, e, h1, h2, h3⟩ := denO_tup hf (h _ List.mem_cons_self)
    cases e
    rw [← h3.length]
    exact walk_tup.stops H h1
  yld := fun C M H i v H' h m hi y => by
    obtain ⟨b, xs, e, h1, h2, h3⟩ := denO_tup hf (h _ List.mem_cons_self)
    cases e
    obtain ⟨rfl, e⟩ := walk_tup.yields i H v H' (by rw [h3.length]; exact hi) h1 y
    obtain ⟨d, e1, e2⟩ := h3.get e
    exact ⟨fun _ _ z => z, d, e1, .inl e2⟩
theorem it_rng {lo : Int} {n : Nat} : ItOk K f false (Itr lo n) ((List.range n).map fun i => PyData.int (lo + (i : Nat))) [] where
  go := fun C M H i h hi => by simpa [Itr] using hi
  stop := fun C M H h => by simp [Itr]
  yld := fun C M H i v H' h m hi y => by
    obtain ⟨rfl, rfl⟩ := y
    have hi : i < n := by simpa using hi
    exact ⟨fun _ _ z => z, .int (lo + i), by simp [hi], .inl (by simp [Den])⟩
/-- enumerate, zip -/
def enumD : Nat → List PyData → List PyData
  | _, [] => []
  | k, d :: r => .tuple [.int k, d] :: enumD (k + 1) r
theorem enumD_get : ∀ {ds : List PyData} {k i : Nat} {d : PyData}, ds[i]? = some d → (enumD k ds)[i]? = some (.tuple [.int ((k + i : Nat) : Int), d])
  | _ :: _, k, 0, d, e => by simp at e; subst e; simp [enumD]
  | _ :: r, k, i + 1, d, e => by
    have := enumD_get (ds := r) (k := k + 1) (i := i) (d := d) (by simpa using e)
    simp only [enumD, List.getElem?_cons_succ, this]
    rw [show k + 1 + i = k + (i + 1) by omega]
theorem enumD_length : ∀ (ds : List PyData) (k : Nat), (enumD k ds).length = ds.length
  | [], _ => rfl
  | _ :: r, k => by simp [enumD, enumD_length r]
def zipD : List PyData → List PyData → List PyData
  | d :: r, e :: q => .tuple [d, e] :: zipD r q
  | _, _ => []
theorem zipD_get : ∀ {ds es : List PyData} {i : Nat} {d e : PyData}, ds[i]? = some d → es[i]? = some e → (zipD ds es)[i]? = some (.tuple [d, e])
  | _ :: _, _ :: _, 0, d, e, h, g => by simp at h g; subst h; subst g; simp [zipD]
  | _ :: r, _ :: q, i + 1, d, e, h, g => by
    simpa [zipD] using zipD_get (ds := r) (es := q) (i := i) (by simpa using h) (by simpa using g)
theorem zipD_length : ∀ (ds es : List PyData), (zipD ds es).length = min ds.length es.length
  | [], es => by cases es <;> simp [zipD]
  | _ :: _, [] => by simp [zipD]
  | _ :: r, _ :: q => by simp [zipD, zipD_length r q]
theorem den_pair {M : Mk} {H : Hp} {T : Addr} {x y : V} {d e : PyData} (m : MOk M H) (n : H T = none) (hx : Den K M H d x) (hy : Den K M H e y) : (∀ a o, H a = some o → upd H T (.tup [x, y]) a = some o) ∧ DenT true K M (upd H T (.tup [x, y])) (.tuple [d, e]) (.ref T) := by
  refine ⟨grow_new n, .inr ⟨rfl, ?_⟩⟩
  refine ⟨_, T, [x, y], rfl, rfl, .of upd_same, by show 2 ≤ sizeLine; decide, ?_⟩
  simp only [DenL]
  exact ⟨x, _, rfl, Den.grow m (grow_new n) hx, y, _, rfl, Den.grow m (grow_new n) hy, rfl⟩
theorem it_enum (hf : f = .s ∨ f = .o) : ItOk K f true (Ite K a) (enumD 0 ds) [(.list ds, V.ref a)] where
  go := fun C M H i h hi => by
    obtain ⟨b, xs, e, h1, h2, h3⟩ := denO_seq hf (h _ List.mem_cons_self)
    cases e
    rw [enumD_length] at hi
    exact walk_enum.goes i H (by rw [h3.length]; exact hi) (.of h1)
  stop := fun C M H h => by
    obtain ⟨b, xs, e, h1, h2, h3⟩ := denO_seq hf (h _ List.mem_cons_self)
    cases e
    rw [enumD_length, ← h3.length]
    exact walk_enum.stops H (.of h1)
  yld := fun C M H i v H' h m hi y => by
    obtain ⟨b, xs, e, h1, h2, h3⟩ := denO_seq hf (h _ List.mem_cons_self)
    cases e
    rw [enumD_length] at hi
    obtain ⟨T, x, z, rfl, n, rfl, e1, e2⟩ := walk_enum.yields i H v H' (by rw [h3.length]; exact hi) (.of h1) y
    cases e1
    obtain ⟨d, e3, e4⟩ := h3.get e2
    obtain ⟨k, g⟩ := den_pair (d := .int (i : Nat)) (x := .int (i : Nat)) m n (by simp [Den]) e4
    exact ⟨k, _, by rw [enumD_get e3, Nat.zero_add], g⟩
theorem it_enumT (hf : f = .s ∨ f = .o) : ItOk K f true (IteT K a) (enumD 0 ds) [(.tuple ds, V.ref a)] where
  go := fun C M H i h hi => by
    obtain ⟨b, xs, e, h1, h2, h3⟩ := denO_tup hf (h _ List.mem_cons_self)
    cases e
    rw [enumD_length, ← h3.length] at hi
    exact ⟨xs, xs[i], h1, by simp [hi]⟩
  stop := fun C M H h => by
    obtain ⟨b, xs, e, h1, h2, h3⟩ := denO_tup hf (h _ List.mem_cons_self)
    cases e
    rw [enumD_length, ← h3.length]
    exact ⟨xs, h1, rfl⟩
  yld := fun C M H i v H' h m hi y => by
    obtain ⟨b, xs, e, h1, h2, h3⟩ := denO_tup hf (h _ List.mem_cons_self)
    cases e
    obtain ⟨T, x, rfl, n, rfl, e2⟩ := y
    obtain ⟨d, e3, e4⟩ := h3.get (e2 xs h1)
    obtain ⟨k, g⟩ := den_pair (d := .int (i : Nat)) (x := .int (i : Nat)) m n (by simp [Den]) e4
    exact ⟨k, _, by rw [enumD_get e3, Nat.zero_add], g⟩
theorem it_zip (hf : f = .s ∨ f = .o) : ItOk K f true (Itz K a b) (zipD ds es) [(.list ds, V.ref a), (.list es, V.ref b)] where
  go := fun C M H i h hi => by
    obtain ⟨b, xs, e, h1, h2, h3⟩ := denO_seq hf (h _ (List.mem_cons_self))
    obtain ⟨c, ys, e', g1, g2, g3⟩ := denO_seq hf (h _ (List.mem_cons_of_mem _ List.mem_cons_self))
    cases e; cases e'
    rw [zipD_length, ← h3.length, ← g3.length] at hi
    exact (walk_zip rfl).goes i H hi ⟨.of h1, .of g1⟩
  stop := fun C M H h => by
    obtain ⟨b, xs, e, h1, h2, h3⟩ := denO_seq hf (h _ (List.mem_cons_self))
    obtain ⟨c, ys, e', g1, g2, g3⟩ := denO_seq hf (h _ (List.mem_cons_of_mem _ List.mem_cons_self))
    cases e; cases e'
    rw [zipD_length, ← h3.length, ← g3.length]
    exact (walk_zip rfl).stops H ⟨.of h1, .of g1⟩
  yld := fun C M H i v H' h m hi y => by
    obtain ⟨b, xs, e, h1, h2, h3⟩ := denO_seq hf (h _ (List.mem_cons_self))
    obtain ⟨c, ys, e', g1, g2, g3⟩ := denO_seq hf (h _ (List.mem_cons_of_mem _ List.mem_cons_self))
    cases e; cases e'
    rw [zipD_length, ← h3.length, ← g3.length] at hi
    obtain ⟨T, x, z, rfl, n, rfl, e1, e2⟩ := (walk_zip rfl).yields i H v H' hi ⟨.of h1, .of g1⟩ y
    obtain ⟨d, e3, e4⟩ := h3.get e1
    obtain ⟨d2, e5, e6⟩ := g3.get e2
    obtain ⟨k, g⟩ := den_pair m n e4 e6
    exact ⟨k, _, zipD_get e3 e5, g⟩
theorem it_zipT (hf : f = .s ∨ f = .o) : ItOk K f true (RZ.ItzT K a b) (zipD ds es) [(.tuple ds, V.ref a), (.tuple es, V.ref b)] where
  go := fun C M H i h hi => by
    obtain ⟨b, xs, e, h1, h2, h3⟩ := denO_tup hf (h _ (List.mem_cons_self))
    obtain ⟨c, ys, e', g1, g2, g3⟩ := denO_tup hf (h _ (List.mem_cons_of_mem _ List.mem_cons_self))
    cases e; cases e'
    rw [zipD_length, ← h3.length, ← g3.length] at hi
    have q1 : i < xs.length := by omega
    have q2 : i < ys.length := by omega
    exact ⟨xs, ys, xs[i], ys[i], h1, g1, by simp [q1], by simp [q2]⟩
  stop := fun C M H h => by
    obtain ⟨b, xs, e, h1, h2, h3⟩ := denO_tup hf (h _ (List.mem_cons_self))
    obtain ⟨c, ys, e', g1, g2, g3⟩ := denO_tup hf (h _ (List.mem_cons_of_mem _ List.mem_cons_self))
    cases e; cases e'
    rw [zipD_length, ← h3.length, ← g3.length]
    exact ⟨xs, ys, h1, g1, by omega⟩
  yld := fun C M H i v H' h m hi y => by
    obtain ⟨b, xs, e, h1, h2, h3⟩ := denO_tup hf (h _ (List.mem_cons_self))
    obtain ⟨c, ys, e', g1, g2, g3⟩ := denO_tup hf (h _ (List.mem_cons_of_mem _ List.mem_cons_self))
    cases e; cases e'
    obtain ⟨T, x, z, rfl, n, rfl, e1, e2⟩ := y
    obtain ⟨d, e3, e4⟩ := h3.get (e1 xs h1)
    obtain ⟨d2, e5, e6⟩ := g3.get (e2 ys g1)
    obtain ⟨k, g⟩ := den_pair m n e4 e6
    exact ⟨k, _, zipD_get e3 e5, g⟩
end
end MT
end

section
set_option maxRecDepth 100000
set_option maxHeartbeats 4000000
namespace MT
open PySem PySem.Spec PyProof.Rows L2
section
variable {X : Cx} {B : Bd} {f g h : Fl} {tg e a b c : Expr} {m ma mb mc : List Slot → W PyData} {pos p : Pos}
def dItems (m : List Slot → W PyData) : List Slot → W (List PyData) := fun env P E => m env (fun d => match d with
  | .list ds => P ds
  | .tuple ds => P ds
  | _ => False) E
/-- a list or a tuple -/
theorem pi_seq {tl : TE} (hl : PE X e tl) : PI X tg e (fun σ H R => tl σ H fun x H1 => ∃ a xs, x = .ref a ∧ ((SqL X.K H1 a xs ∧ R (Itl X.K a) H1) ∨ (SqT X.K H1 a xs ∧ R (Itt X.K a) H1))) := by
  refine ⟨fun pins s σ H R I h => ?_⟩
  refine thn (hl.run pins s σ H _ I h) fun v s1 ⟨x, H1, I1, r1, a, xs, ex, q1⟩ => ?_
  subst ex
  cases r1
  have fin : ∀ {J : It} {tn : Nat → Heap → Prop} {o : Obj}, R J H1 → Turn X.prog X.w X.K tg J [s1.heap.objs.size] s1.heap.objs.size tn → tn 0 (s1.heap.push o) → PIE X pins σ tg R (.ref s1.heap.objs.size) { s1 with heap := s1.heap.push o } := fun {J tn o} q T t0 => by
    refine ⟨s1.heap.objs.size, [s1.heap.objs.size], tn, J, H1, rfl, I1.kept (t' := s1.toks) fun b o e => Heap.get?_push_of_some _ e, T, t0, fun b hb => ?_, q⟩
    have e : b = s1.heap.objs.size := by simpa using hb
    subst e
    exact I1.fpOk (Nat.le_refl _) (I1.hok.fresh (Nat.le_refl _))
  rcases q1 with ⟨hq, q⟩ | ⟨hq, q⟩
  · obtain ⟨its, rv, p, hz⟩ := I1.list hq
    exact wpAny_pyIter_list p.isList (fin q (turn_list a _) ⟨_, Heap.get?_push_size _ rfl, rfl, rfl⟩)
  · obtain ⟨its, rv, p, hz⟩ := I1.tuple hq
    exact wpAny_pyIter_tuple (show s1.heap.IsTuple a its.toArray from p) (fin q (turn_tuple a _) ⟨_, Heap.get?_push_size _ rfl, rfl, rfl⟩)
theorem pit_seq (hf : f = .s ∨ f = .o) (q : PD X B f e m) : PIt X B f false tg e (dItems m) := pi_imp (pi_seq q) fun σ H Rr ⟨C, env, M, P, r, bo, hm, k⟩ => ⟨C, env, M, _, r, bo, hm, fun v H1 d k1 r1 de p1 => by
  split at p1
  · obtain ⟨a, xs, rfl, h1, h2, h3⟩ := denO_seq hf de
    exact ⟨a, xs, rfl, .inl ⟨.of h1, k _ H1 _ _ k1 r1 (it_lst hf) (fun p hp => by rw [List.mem_singleton.mp hp]; exact de) (by rw [← h3.length]; exact h2) p1⟩⟩
  · obtain ⟨a, xs, rfl, h1, h2, h3⟩ := denO_tup hf de
    exact ⟨a, xs, rfl, .inr ⟨h1, k _ H1 _ _ k1 r1 (it_tup hf) (fun p hp => by rw [List.mem_singleton.mp hp]; exact de) (by rw [← h3.length]; exact h2) p1⟩⟩
  · exact p1.elim⟩
/-- range -/
def dRng1 (m : List Slot → W PyData) : List Slot → W (List PyData) := fun env P E => m env (fun d => match d with
  | .int n => -(2 ^ 62) ≤ n ∧ n ≤ 16777216 ∧ P (rgD 0 n)
  | _ => False) E
def dRng2 (ma mb : List Slot → W PyData) : List Slot → W (List PyData) := fun env P E => ma env (fun x => mb env (fun y => match x, y with
  | .int i, .int j => RgOk i j ∧ P (rgD i j)
  | _, _ => False) E) E
theorem pit_r1 (hg : Gl X "range") (hm : X.mg "range" = none) (q : PD X B .o a m) (h1 : starEach [a] X.env = (false, eval a X.env) :: starEach [] X.env := by rfl) (h2 : starEach [a] X.env = [(false, eval a X.env)] := by rfl) : PIt X B f false tg (.Call (.Name "range" p) [a] [] pos) (dRng1 m) :=
  pi_imp (pi_range1 hg hm (pa_cons q pa_nil h1) h2) fun σ H Rr ⟨C, env, M, P, r, bo, hm, k⟩ => ⟨C, env, M, _, r, bo, hm, fun v H1 d k1 r1 de p1 => by
    split at p1
    · rename_i n
      obtain ⟨b1, b2, p1⟩ := p1
      refine ⟨n, by rw [den_int de], b1, by omega, k _ H1 (rgD 0 n) [] k1 r1 ?_ (fun _ z => nomatch z) ?_ p1⟩
      · have := it_rng (K := X.K) (f := f) (lo := 0) (n := n.toNat)
        unfold rgD
        rw [Int.sub_zero]
        exact this
      · rw [rgD_length, sizeLine_eq]; omega
    · exact p1.elim⟩
theorem pit_r2 (hg : Gl X "range") (hm : X.mg "range" = none) (q : PD X B .o a ma) (q2 : PD X B .o b mb) (h1 : starEach [a, b] X.env = (false, eval a X.env) :: starEach [b] X.env := by rfl) (h2 : starEach [b] X.env = (false, eval b X.env) :: starEach [] X.env := by rfl)
    (h3 : starEach [a, b] X.env = [(false, eval a X.env), (false, eval b X.env)] := by rfl) (h4 : starEach [b] X.env = [(false, eval b X.env)] := by rfl) : PIt X B f false tg (.Call (.Name "range" p) [a, b] [] pos) (dRng2 ma mb) :=
  pi_imp (pi_range2 hg hm (pa_cons q (pa_cons q2 pa_nil h2) h1) h3 h4) fun σ H Rr ⟨C, env, M, P, r, bo, hm, k⟩ => ⟨C, env, M, _, r, bo, hm, fun v H1 d k1 r1 de p1 => ⟨C, env, M, _, r1, bo, p1, fun u H2 d2 k2 r2 de2 p2 => by
    split at p2
    · rename_i i j
      obtain ⟨ok, p2⟩ := p2
      refine ⟨i, j, by rw [den_int (de.step r1 k2), den_int de2], ⟨ok.1, ok.2.1, ok.2.2.1, ok.2.2.2.1⟩, k _ H2 (rgD i j) [] (k1.trans k2) r2 it_rng (fun _ z => nomatch z) ?_ p2⟩
      rw [rgD_length, sizeLine_eq]; exact ok.2.2.2.2
    · exact p2.elim⟩⟩
/-- enumerate -/
def dEnum (m : List Slot → W PyData) : List Slot → W (List PyData) := fun env P E => m env (fun d => match d with
  | .list ds => P (enumD 0 ds)
  | .tuple ds => P (enumD 0 ds)
  | _ => False) E
theorem boot_enum : bootBuiltins "enumerate" = some (.type "enumerate") := by decide +kernel
theorem pi_enumA {elts : List Expr} {kk : Nat} {tpos : Pos} {te : TE} (hg : Gl X "enumerate") (hm : X.mg "enumerate" = none) (he : PE X e te) (h1 : starEach [e] X.env = (false, eval e X.env) :: starEach [] X.env := by rfl) :
    PI X (.Tuple elts kk tpos) (.Call (.Name "enumerate" p) [e] [] pos) (fun σ H R => te σ H fun x H1 => ∃ a xs, x = .ref a ∧ ((SqL X.K H1 a xs ∧ R (Ite X.K a) H1) ∨ (SqT X.K H1 a xs ∧ R (IteT X.K a) H1))) := by
  refine ⟨fun pins s σ H R I h => ?_⟩
  refine Call_ (ld_blt I hg hm boot_enum (PyProof.Rows.callWith_type1 (one_arg he I h (fun v s1 x H1 I1 r1 q1 => ?_) h1) h1))
  obtain ⟨a, xs, ex, q1⟩ := q1
  subst ex
  cases r1
  have fpo : ∀ b ∈ [s1.heap.objs.size + 1, s1.heap.objs.size], FpOk X pins H1 b := fun b hb => by
    have hle : s1.heap.objs.size ≤ b := by
      rcases (by simpa using hb : b = s1.heap.objs.size + 1 ∨ b = s1.heap.objs.size) with rfl | rfl <;> omega
    exact I1.fpOk hle (I1.hok.fresh hle)
  rcases q1 with ⟨hq, q⟩ | ⟨hq, q⟩
  · obtain ⟨its, rv, p', hz⟩ := I1.list hq
    refine call_enumerate_list p'.isList fun h' he hit hsz hk => wpAny_pyIter_enum he ?_
    exact ⟨_, _, _, _, H1, rfl, I1.kept (t' := s1.toks) hk, turn_enum a (s1.heap.objs.size + 1) s1.heap.objs.size, ⟨⟨.none, he⟩, hit, Nat.succ_ne_self _⟩, fpo, q⟩
  · obtain ⟨its, rv, p', hz⟩ := I1.tuple hq
    have hlt : a < s1.heap.objs.size := p'.lt
    refine call_enumT p' fun h' he hit hk => wpAny_pyIter_enum he ?_
    exact ⟨_, _, _, _, H1, rfl, I1.kept (t' := s1.toks) hk, turn_enumT a (s1.heap.objs.size + 1) s1.heap.objs.size (Nat.ne_of_lt hlt) (Nat.ne_of_lt (Nat.lt_succ_of_lt hlt)), ⟨⟨.none, he⟩, hit, Nat.succ_ne_self _⟩, fpo, q⟩
theorem pit_enum {elts : List Expr} {kk : Nat} {tpos : Pos} (hf : f = .s ∨ f = .o) (hg : Gl X "enumerate") (hm : X.mg "enumerate" = none) (q : PD X B f e m) (h1 : starEach [e] X.env = (false, eval e X.env) :: starEach [] X.env := by rfl) : PIt X B f true (.Tuple elts kk tpos) (.Call (.Name "enumerate" p) [e] [] pos) (dEnum m) :=
  pi_imp (pi_enumA hg hm q h1) fun σ H Rr ⟨C, env, M, P, r, bo, hm, k⟩ => ⟨C, env, M, _, r, bo, hm, fun v H1 d k1 r1 de p1 => by
    split at p1
    · obtain ⟨a, xs, rfl, h1, h2, h3⟩ := denO_seq hf de
      exact ⟨a, xs, rfl, .inl ⟨.of h1, k _ H1 _ _ k1 r1 (it_enum hf) (fun p hp => by rw [List.mem_singleton.mp hp]; exact de) (by rw [enumD_length, ← h3.length]; exact h2) p1⟩⟩
    · obtain ⟨a, xs, rfl, h1, h2, h3⟩ := denO_tup hf de
      exact ⟨a, xs, rfl, .inr ⟨h1, k _ H1 _ _ k1 r1 (it_enumT hf) (fun p hp => by rw [List.mem_singleton.mp hp]; exact de) (by rw [enumD_length, ← h3.length]; exact h2) p1⟩⟩
    · exact p1.elim⟩
/-- zip of two lists, of two tuples -/
def dZip (ma mb : List Slot → W PyData) : List Slot → W (List PyData) := fun env P E => ma env (fun x => mb env (fun y => match x, y with
  | .list ds, .list es => P (zipD ds es)
  | .tuple ds, .tuple es => P (zipD ds es)
  | _, _ => False) E) E
theorem pit_zip {elts : List Expr} {kk : Nat} {tpos : Pos} (hf : f = .s ∨ f = .o) (hg : Gl X "zip") (hm : X.mg "zip" = none) (q : PD X B f a ma) (q2 : PD X B f b mb) (h1 : starEach [a, b] X.env = (false, eval a X.env) :: starEach [b] X.env := by rfl) (h2 : starEach [b] X.env = (false, eval b X.env) :: starEach [] X.env := by rfl) (h3 : (backTo pos (starEach [b] X.env)).any (·.1) = false := by rfl) :
    PIt X B f true (.Tuple elts kk tpos) (.Call (.Name "zip" p) [a, b] [] pos) (dZip ma mb) :=
  pi_imp (RZ.pi_zipA hg hm (pa_cons q (pa_cons q2 pa_nil h2) h1) h1 h3) fun σ H Rr ⟨C, env, M, P, r, bo, hm, k⟩ => ⟨C, env, M, _, r, bo, hm, fun v H1 d k1 r1 de p1 => ⟨C, env, M, _, r1, bo, p1, fun u H2 d2 k2 r2 de2 p2 => by
    have de := de.step r1 k2
    split at p2
    · obtain ⟨a, xs, rfl, h1, h2, h3⟩ := denO_seq hf de
      obtain ⟨b, ys, rfl, g1, g2, g3⟩ := denO_seq hf de2
      refine ⟨a, b, xs, ys, rfl, .inl ⟨.of h1, .of g1, k _ H2 _ _ (k1.trans k2) r2 (it_zip hf) (fun p hp => ?_) (by rw [zipD_length, ← h3.length]; omega) p2⟩⟩
      rcases List.mem_cons.mp hp with rfl | hp
      · exact de
      · rw [List.mem_singleton.mp hp]; exact de2
    · obtain ⟨a, xs, rfl, h1, h2, h3⟩ := denO_tup hf de
      obtain ⟨b, ys, rfl, g1, g2, g3⟩ := denO_tup hf de2
      refine ⟨a, b, xs, ys, rfl, .inr ⟨h1, g1, k _ H2 _ _ (k1.trans k2) r2 (it_zipT hf) (fun p hp => ?_) (by rw [zipD_length, ← h3.length]; omega) p2⟩⟩
      rcases List.mem_cons.mp hp with rfl | hp
      · exact de
      · rw [List.mem_singleton.mp hp]; exact de2
    · exact p2.elim⟩⟩

/-! targets -/
abbrev TgD := PyData → List Slot → Option (List Slot)
def tg1 (i : Nat) : TgD := fun d env => some (env.set i (.d d))
/-- several names, left to right -/
def tgs : List TgD → List PyData → List Slot → Option (List Slot)
  | [], [], env => some env
  | t :: r, d :: ds, env => (t d env).bind fun env' => tgs r ds env'
  | _, _, _ => none
def tgT (ts : List TgD) : TgD := fun d env => match d with
  | .tuple ds => tgs ts ds env
  | _ => none
theorem R.set {K : PySem.W.Frag} {C : Ctx} {M : Mk} {σ : L2.St} {H : Hp} {env : List Slot} (r : R K C M σ H env) {i : Nat} {d : PyData} {v : V} (de : Den K M H d v) : R K C M (σ.set i (some v)) H (env.set i (.d d)) where
  ext := r.ext
  m0 := r.m0
  mn := r.mn
  ok := r.ok
  drw := r.drw
  len := by rw [List.length_set, List.length_set]; exact r.len
  hid := r.hid
  tab := r.tab
  tbm := r.tbm
  slot := fun j s o e1 e2 => by
    by_cases h : j = i
    · subst h
      have hj : j < env.length := by simpa using (List.getElem?_eq_some_iff.mp e1).1
      rw [List.getElem?_set_self hj] at e1
      rw [List.getElem?_set_self (by rw [← r.len]; exact hj)] at e2
      cases e1; cases e2
      exact ⟨v, rfl, de⟩
    · rw [List.getElem?_set_ne (Ne.symm h)] at e1 e2
      exact r.slot j s o e1 e2
  sep := fun j k a ⟨xs, e1, e2⟩ ⟨ys, g1, g2⟩ => by
    have hj : j ≠ i := by
      rintro rfl
      have hj : j < env.length := by simpa using (List.getElem?_eq_some_iff.mp e1).1
      rw [List.getElem?_set_self hj] at e1; cases e1
    have hk : k ≠ i := by
      rintro rfl
      have hj : k < env.length := by simpa using (List.getElem?_eq_some_iff.mp g1).1
      rw [List.getElem?_set_self hj] at g1; cases g1
    rw [List.getElem?_set_ne (Ne.symm hj)] at e1 e2
    rw [List.getElem?_set_ne (Ne.symm hk)] at g1 g2
    exact r.sep j k a ⟨xs, e1, e2⟩ ⟨ys, g1, g2⟩
theorem R.unset {K : PySem.W.Frag} {C : Ctx} {M : Mk} {σ : L2.St} {H : Hp} {env : List Slot} (r : R K C M σ H env) (i : Nat) (o : Option V) : R K C M (σ.set i o) H (env.set i .un) where
  ext := r.ext
  m0 := r.m0
  mn := r.mn
  ok := r.ok
  drw := r.drw
  len := by rw [List.length_set, List.length_set]; exact r.len
  hid := r.hid
  tab := r.tab
  tbm := r.tbm
  slot := fun j s o e1 e2 => by
    by_cases h : j = i
    · subst h
      have hj : j < env.length := by simpa using (List.getElem?_eq_some_iff.mp e1).1
      rw [List.getElem?_set_self hj] at e1
      cases e1
      trivial
    · rw [List.getElem?_set_ne (Ne.symm h)] at e1 e2
      exact r.slot j s _ e1 e2
  sep := fun j k a ⟨xs, e1, e2⟩ ⟨ys, g1, g2⟩ => by
    have hj : j ≠ i := by
      rintro rfl
      have hj : j < env.length := by simpa using (List.getElem?_eq_some_iff.mp e1).1
      rw [List.getElem?_set_self hj] at e1; cases e1
    have hk : k ≠ i := by
      rintro rfl
      have hj : k < env.length := by simpa using (List.getElem?_eq_some_iff.mp g1).1
      rw [List.getElem?_set_self hj] at g1; cases g1
    rw [List.getElem?_set_ne (Ne.symm hj)] at e1 e2
    rw [List.getElem?_set_ne (Ne.symm hk)] at g1 g2
    exact r.sep j k a ⟨xs, e1, e2⟩ ⟨ys, g1, g2⟩
/-- ix: the places that the target stores to -/
def tgOfR (K : PySem.W.Frag) (lo : Bool) (t : TgD) (ix : List Nat) : TG := fun v σ H Q => ∃ C env M d env', R K C M σ H env ∧ DenT lo K M H d v ∧ t d env = some env' ∧
  ∀ σ', R K C M σ' H env' → (∀ vs : List Nat, (∀ i ∈ ix, i ∈ vs) → wipe σ' vs = wipe σ vs) → Q σ' H
abbrev PT1 (X : Cx) (lo : Bool) (tg : Expr) (t : TgD) (ix : List Nat) : Prop := PG X tg (tgOfR X.K lo t ix)
theorem wipe_set {σ : L2.St} {i : Nat} {o : Option V} : ∀ {vs : List Nat}, i ∈ vs → wipe (σ.set i o) vs = wipe σ vs := fun {vs} h => by
  induction vs with
  | nil => cases h
  | cons v vs ih =>
    have comm : ∀ (ws : List Nat), i ∉ ws → wipe (σ.set i o) ws = (wipe σ ws).set i o := fun ws => by
      induction ws with
      | nil => intro _; rfl
      | cons w ws ih2 =>
        intro hw
        simp only [List.mem_cons, not_or] at hw
        simp only [wipe, ih2 hw.2]
        exact List.set_comm _ _ hw.1
    simp only [wipe]
    by_cases h2 : i ∈ vs
    · rw [ih h2]
    · rcases List.mem_cons.mp h with rfl | h
      · rw [comm vs h2, List.set_set]
      · exact absurd h h2
theorem pg_imp {t t' : TG} (h : PG X tg t) (i : ∀ v σ H Q, t' v σ H Q → t v σ H Q) : PG X tg t' := ⟨fun pins s σ H v u Q I r q => h.run pins s σ H v u Q I r (i _ _ _ _ q)⟩
theorem pt1_nm {i : Nat} (q : PG X tg (gName i)) : PT1 X false tg (tg1 i) [i] := pg_imp q fun v σ H Q ⟨C, env, M, d, env', r, de, e, k⟩ => by
  cases e
  have de := de.resolve_right fun z => by cases z.1
  exact k _ (r.set de) fun vs hv => wipe_set (hv i (by simp))
/-- several targets -/
def tgsOfR (K : PySem.W.Frag) (ts : List TgD) (ix : List Nat) : TGs := fun vs σ H Q => ∃ C env M ds env', R K C M σ H env ∧ DenL K M H ds vs ∧ tgs ts ds env = some env' ∧
  ∀ σ', R K C M σ' H env' → (∀ vs : List Nat, (∀ i ∈ ix, i ∈ vs) → wipe σ' vs = wipe σ vs) → Q σ' H
theorem pgs_imp {es : List Expr} {t t' : TGs} (h : PGs X es t) (i : ∀ v σ H Q, t' v σ H Q → t v σ H Q) : PGs X es t' := ⟨fun pins s σ H v u Q I r q => h.run pins s σ H v u Q I r (i _ _ _ _ q)⟩
theorem pts_nl : PGs X [] (tgsOfR X.K [] []) := pgs_imp pgs_nil fun vs σ H Q ⟨C, env, M, ds, env', r, de, e, k⟩ => by
  cases ds with
  | cons d ds => simp [tgs] at e
  | nil =>
    simp only [DenL] at de
    simp only [tgs, Option.some.injEq] at e
    subst e
    exact ⟨de, k σ r fun _ _ => rfl⟩
theorem pts_cn {es : List Expr} {t : TgD} {ix ixs : List Nat} {ts : List TgD} (p1 : PT1 X false e t ix) (p2 : PGs X es (tgsOfR X.K ts ixs)) (hs : (assignEach (e :: es) X.env).map (·.2) = assign e X.env :: (assignEach es X.env).map (·.2) := by rfl) : PGs X (e :: es) (tgsOfR X.K (t :: ts) (ix ++ ixs)) :=
  pgs_imp (pgs_cons p1 p2 hs) fun vs σ H Q ⟨C, env, M, ds, env', r, de, e, k⟩ => by
    cases ds with
    | nil => simp [tgs] at e
    | cons d ds =>
      simp only [tgs] at e
      simp only [DenL] at de
      obtain ⟨v, q, rfl, h1, h2⟩ := de
      cases e1 : t d env with
      | none => rw [e1] at e; simp at e
      | some env1 =>
        rw [e1] at e
        exact ⟨v, q, rfl, C, env, M, d, env1, r, .inl h1, e1, fun σ1 r1 w1 => ⟨C, env1, M, ds, env', r1, h2, e, fun σ2 r2 w2 => k σ2 r2 fun vs hv => by
          rw [w2 vs fun i hi => hv i (List.mem_append_right _ hi), w1 vs fun i hi => hv i (List.mem_append_left _ hi)]⟩⟩
theorem tgs_len : ∀ {ts : List TgD} {ds : List PyData} {env env' : List Slot}, tgs ts ds env = some env' → ds.length = ts.length
  | [], [], _, _, _ => rfl
  | [], _ :: _, _, _, h => by simp [tgs] at h
  | _ :: _, [], _, _, h => by simp [tgs] at h
  | t :: ts, d :: ds, env, env', h => by
    simp only [tgs, Option.bind_eq_some_iff] at h
    obtain ⟨e1, _, h⟩ := h
    simp [tgs_len h]
theorem pt1_tup {lo : Bool} {es : List Expr} {k : Nat} {ts : List TgD} {ix : List Nat} (hc : X.calm = true) (q : PGs X es (tgsOfR X.K ts ix)) (hn : (assignEach es X.env).length = ts.length := by rfl) (hst : (assignEach es X.env).findIdx? (·.1) = none := by rfl) : PT1 X lo (.Tuple es k pos) (tgT ts) ix :=
  pg_imp (pg_tup hc q hn hst) fun v σ H Q ⟨C, env, M, d, env', r, de, e, k⟩ => by
    cases d with
    | tuple ds =>
      obtain ⟨a, xs, rfl, h1, h2, h3⟩ : ∃ a xs, v = V.ref a ∧ SqT X.K H a xs ∧ xs.length ≤ sizeLine ∧ DenL X.K M H ds xs := by
        rcases de with de | ⟨_, es, a, xs, e1, e2, h⟩
        · simp only [Den] at de
          obtain ⟨a, xs, e1, h1, h2⟩ := de
          exact ⟨a, xs, e1, h1.sq, h2⟩
        · cases e1
          exact ⟨a, xs, e2, h⟩
      have hl := tgs_len (env := env) (env' := env') e
      exact ⟨a, xs, rfl, h1, by rw [h3.length, hl], C, env, M, ds, env', r, h3, e, k⟩
    | _ => simp [tgT] at e
end
end MT
end

section
set_option maxRecDepth 100000
set_option maxHeartbeats 4000000
namespace MT
open PySem PySem.Spec PyProof.Rows L2

def wipeE (env : List Slot) : List Nat → List Slot
  | [] => env
  | v :: vs => (wipeE env vs).set v .un
/-- inside a comprehension nothing is raised -/
abbrev B0 : Bd := ⟨fun _ => False, fun _ => True, fun _ _ h => h⟩
def bYes : List Slot → W Bool := fun _ P _ => P true
def lcW (t : TgD) (c : List Slot → W Bool) (el : List Slot → W PyData) (env : List Slot) : List PyData → W (List PyData)
  | [] => fun P _ => P []
  | x :: r => fun P E => ∃ env', t x env = some env' ∧ c env' (fun b => if b = true then el env' (fun d => lcW t c el env r (fun ds => P (d :: ds)) E) E else lcW t c el env r P E) E
def dLc (mi : List Slot → W (List PyData)) (t : TgD) (c : List Slot → W Bool) (el : List Slot → W PyData) (vs : List Nat) : List Slot → W PyData := fun env P E =>
  mi env (fun items => lcW t c el (wipeE env vs) items (fun ds => P (.list ds)) (fun _ => False)) E
section
variable {K : PySem.W.Frag} {C : Ctx} {M : Mk} {σ : L2.St} {H H' : Hp} {env : List Slot}
theorem R.wipe (r : R K C M σ H env) : ∀ vs : List Nat, R K C M (L2.wipe σ vs) H (wipeE env vs)
  | [] => r
  | v :: vs => (R.wipe r vs).unset v none
theorem wipe_idem {ws : List Nat} : ∀ {vs : List Nat}, (∀ i ∈ ws, i ∈ vs) → L2.wipe (L2.wipe σ ws) vs = L2.wipe σ vs := fun {vs} h => by
  induction ws with
  | nil => rfl
  | cons w ws ih =>
    show L2.wipe ((L2.wipe σ ws).set w none) vs = _
    rw [wipe_set (h w List.mem_cons_self), ih fun i hi => h i (List.mem_cons_of_mem _ hi)]
/-- a further list of our own -/
abbrev addM (M : Mk) (D : Addr) : Mk := fun a => M a ∨ a = D
theorem MOk.addW (m : MOk M H) {D : Addr} (n : H D = none) : MW (addM M D) H := fun a o h e => by
  rcases h with h | rfl
  · exact m.w a o h e
  · rw [n] at e; cases e
theorem Den.add (m : MOk M H) {D : Addr} (n : H D = none) {o : HO} {d : PyData} {v : V} (h : Den K M H d v) : Den K (addM M D) (upd H D o) d v :=
  Den.kept (Kept.new n) (m.addW n) d v (h.mk fun a xs e h1 h2 => h2.elim h1 fun z => by rw [z, n] at e; cases e)
theorem DenL.add (m : MOk M H) {D : Addr} (n : H D = none) {o : HO} {d : List PyData} {v : List V} (h : DenL K M H d v) : DenL K (addM M D) (upd H D o) d v :=
  DenL.kept (Kept.new n) (m.addW n) d v (h.mk fun a xs e h1 h2 => h2.elim h1 fun z => by rw [z, n] at e; cases e)
theorem R.addMu (r : R K C M σ H env) {D : Addr} (n : H D = none) {ob : HO} (mu : MutT ob) : R K C (MT.addM M D) σ (upd H D ob) env where
  ext := (r.new n).ext
  m0 := fun a h => .inl (r.m0 a h)
  mn := fun a h => by
    rcases h with h | rfl
    · exact r.mn a h
    · refine .inr ?_
      cases q : C.H0 a with
      | none => rfl
      | some u =>
        by_cases hx : C.X0 a
        · exact absurd n (by obtain ⟨o, e, _⟩ := r.ok a (r.m0 a (r.x0m hx)); rw [e]; simp)
        · rw [r.ext a u q hx] at n; cases n
  ok := fun a h => by
    by_cases e : a = D
    · subst e; exact ⟨_, upd_same, mu⟩
    · rcases h with h | h
      · obtain ⟨o, e1, mu⟩ := r.ok a h
        exact ⟨o, by rw [upd_ne e]; exact e1, mu⟩
      · exact absurd h e
  drw := fun d l c e => by
    obtain ⟨Dw, h1, h2, h3⟩ := (r.new (o := ob) n).drw d l c e
    refine ⟨Dw, h1, fun z => z.elim h2 fun z => ?_, h3⟩
    obtain ⟨ms, e2, _⟩ := (r.drw d l c e).1.cl
    rw [z, n] at e2; cases e2
  len := r.len
  slot := fun i s o e1 e2 => by
    have q := r.slot i s o e1 e2
    cases s with
    | un => trivial
    | d x =>
      obtain ⟨v, e, h⟩ := q
      exact ⟨v, e, h.add r.ok n⟩
    | l ys =>
      obtain ⟨a, vs, e, h1, h2, h3, h4, h5⟩ := q
      exact ⟨a, vs, e, grow_new n a _ h1, .inl h2, h3, h4, h5.add r.ok n⟩
    | dr => exact q
    | fn _ => exact q
    | ex x =>
      cases x with
      | none => exact q
      | some x =>
        obtain ⟨a, e, h⟩ := q
        exact ⟨a, e, (h.mk fun b hb h1 h2 => h2.elim h1 fun z => hb (z ▸ n)).kept (Kept.new n) (r.ok.addW n)⟩
    | sc ns => exact (r.new (o := ob) n).slot i _ o e1 e2
  sep := r.sep
  hid := fun p hp => (r.hid p hp).add r.ok n
  tab := r.tab.ext (grow_new n)
  tbm := r.tbm
theorem R.addM (r : R K C M σ H env) {D : Addr} (n : H D = none) {xs : List V} : R K C (MT.addM M D) σ (upd H D (.lst xs)) env := r.addMu n trivial
/-- our own object is changed -/
theorem R.mutU (r : R K C M σ H env) {D : Addr} (hM : M D) (h0 : ¬ C.M0 D) {ob ob' : HO} (hD : H D = some ob) (mu : MutT ob) (mu' : MutT ob') (no : ∀ i, ¬ Owns σ env i D) (no2 : ∀ c q, ob ≠ LamX.CodeO c q) : R K C M σ (upd H D ob') env where
  ext := fun a o e n => by
    have q := r.ext a o e n
    by_cases z : a = D
    · subst z
      rcases r.mn a hM with h | h
      · exact absurd h h0
      · rw [h] at e; cases e
    · rw [upd_ne z]; exact q
  m0 := r.m0
  mn := r.mn
  ok := fun a h => by
    by_cases e : a = D
    · subst e; exact ⟨_, upd_same, mu'⟩
    · obtain ⟨o, e1, mu⟩ := r.ok a h
      exact ⟨o, by rw [upd_ne e]; exact e1, mu⟩
  drw := fun d l c e => by
    obtain ⟨Dw, h1, h2, h3⟩ := r.drw d l c e
    obtain ⟨ne, ⟨x, t, e1⟩, ⟨ns, e2⟩, ⟨ms, e3, e4⟩⟩ := Dw
    have n1 : d ≠ D := fun z => h0 (z ▸ h3)
    have n2 : l ≠ D := fun z => h0 (z ▸ h1)
    have n3 : c ≠ D := fun z => h2 (z ▸ hM)
    exact ⟨⟨ne, ⟨x, t, by rw [upd_ne n1]; exact e1⟩, ⟨ns, by rw [upd_ne n2]; exact e2⟩, ⟨ms, by rw [upd_ne n3]; exact e3, e4⟩⟩, h1, h2, h3⟩
  len := r.len
  slot := fun i s o e1 e2 => by
    have q := r.slot i s o e1 e2
    cases s with
    | un => trivial
    | d x =>
      obtain ⟨v, e, h⟩ := q
      exact ⟨v, e, h.kept (Kept.mut hM) r.ok.w⟩
    | l zs =>
      obtain ⟨a, vs, e, h1, h2, h3, h4, h5⟩ := q
      have na : a ≠ D := fun z => no i ⟨zs, e1, by rw [e2, e, z]⟩
      exact ⟨a, vs, e, by rw [upd_ne na]; exact h1, h2, h3, h4, h5.kept (Kept.mut hM) r.ok.w⟩
    | dr => exact q
    | fn _ => exact q
    | ex x =>
      cases x with
      | none => exact q
      | some x =>
        obtain ⟨a, e, h⟩ := q
        exact ⟨a, e, h.kept (Kept.mut hM) r.ok.w⟩
    | sc ns =>
      obtain ⟨a, e, q⟩ := q
      refine ⟨a, e, ?_⟩
      rcases q with ⟨o, q⟩ | q
      · refine .inl ⟨o, ?_⟩
        rw [upd_ne (fun z => by rw [z, hD] at q; cases q; exact mu)]
        exact q
      · exact .inr q
  sep := r.sep
  hid := fun p hp => (r.hid p hp).kept (Kept.mut hM) r.ok.w
  tab := fun p hp => by
    obtain ⟨ps, e1, e2, e3⟩ := r.tab p hp
    have n1 : p.1 ≠ D := fun z => h0 (z ▸ r.tbm p hp)
    refine ⟨ps, by rw [upd_ne n1]; exact e1, e2, fun pos cv hc => ?_⟩
    obtain ⟨c, q1, q2⟩ := e3 pos cv hc
    exact ⟨c, q1, by rw [upd_ne fun z => no2 c p.2 (Option.some.inj (by rw [← hD, ← z]; exact q2))]; exact q2⟩
  tbm := r.tbm
theorem R.mut (r : R K C M σ H env) {D : Addr} (hM : M D) (h0 : ¬ C.M0 D) {xs ys : List V} (hD : H D = some (.lst xs)) (no : ∀ i, ¬ Owns σ env i D) : R K C M σ (upd H D (.lst ys)) env := r.mutU hM h0 hD trivial trivial no fun c q z => by unfold LamX.CodeO at z; cases z
theorem R.own (r : R K C M σ H env) {i : Nat} {a : Addr} (h : Owns σ env i a) : M a ∧ ¬ C.M0 a ∧ ∃ vs, H a = some (.lst vs) := by
  obtain ⟨xs, e1, e2⟩ := h
  obtain ⟨b, vs, e, h1, h2, h3, _⟩ := r.slot i _ _ e1 e2
  cases e
  exact ⟨h2, h3, vs, h1⟩
end

section
variable {X : Cx} {B : Bd} {f : Fl} {tg iter elt : Expr} {pos : Pos}
theorem lc_imp {f : Fl} {lo : Bool} {own : List (Str × Nat)} {mi : List Slot → W (List PyData)} {t : TgD} {ix : List Nat} {c : List Slot → W Bool} {el : List Slot → W PyData} (hf : f = .s ∨ f = .o) (hx : ∀ i ∈ ix, i ∈ own.map (·.2)) :
    ∀ σ H Q, tOf X.K B .s (dLc mi t c el (own.map (·.2))) σ H Q → tLc (tiOf X.K B f lo mi) (tgOfR X.K lo t ix) (ttOf X.K B0 c) (tOf X.K B0 .s el) (own.map (·.2)) σ H Q := fun σ H Q ⟨C, env, M, P, r, bo, hm, k⟩ => by
  refine ⟨C, env, M, _, r, bo, hm, fun J H1 items srcs k1 r1 ik hsrc hz pw => fun D nD => ?_⟩
  let vs := own.map (·.2)
  have mw := r1.ok.addW nD
  have srcs' : ∀ p ∈ srcs, DenF X.K C (addM M D) H1 f p.1 p.2 := fun p hp => by
    have q := hsrc p hp
    have kk : ∀ a xs, H1 a = some (.lst xs) → ¬ M a → ¬ addM M D a := fun a xs e h1 h2 => h2.elim h1 fun z => by rw [z, nD] at e; cases e
    rcases hf with rfl | rfl
    · exact Den.mk kk _ _ q
    · obtain ⟨d, v⟩ := p
      cases d with
      | list ds =>
        obtain ⟨a, xs, e, q, n, l, g⟩ := q
        exact ⟨a, xs, e, q, n, l, g.mk kk⟩
      | dict x => simp [DenF, Den] at q
      | _ => exact Den.mk (M := M) kk _ v q
  have w : Walk J items.length (fun H => ∀ p ∈ srcs, DenF X.K C (addM M D) H f p.1 p.2) (fun i H x H' => (∀ p ∈ srcs, DenF X.K C (addM M D) H f p.1 p.2) ∧ J.yld i H x H') :=
    ⟨fun i H hi g => ik.go C _ H i g hi, fun H g => ik.stop C _ H g, fun i H x H' hi g y => ⟨g, y⟩⟩
  have rw0 := r1.wipe vs
  have no : ∀ i, ¬ Owns (L2.wipe σ vs) (wipeE env vs) i D := fun i h => by
    obtain ⟨_, _, ws, e⟩ := rw0.own h
    rw [nD] at e; cases e
  have nM0 : ¬ C.M0 D := fun z => r1.ok.free nD (r1.m0 D z)
  have nX0 : ¬ C.X0 D := fun z => nM0 (r1.x0m z)
  have up : ∀ {H2 H3 : Hp} {ys : List V}, Kept C.X0 H1 H2 → Kept C.X0 H2 H3 → Kept C.X0 H1 (upd H3 D (.lst ys)) := fun {H2 H3 ys} a b c o e n => by
    rw [upd_ne (ne_of_none e nD)]; exact b c o (a c o e n) n
  refine lc_it w (fun i H => Kept C.X0 H1 H ∧ R X.K C (addM M D) (L2.wipe σ vs) H (wipeE env vs) ∧ ∃ acc done, H D = some (.lst acc) ∧ DenL X.K (addM M D) H done acc ∧ done.length ≤ i ∧
    lcW t c el (wipeE env vs) (items.drop i) (fun ds => P (.list (done ++ ds))) (fun _ => False)) ?_ ?_ ?_ ?_
  · refine ⟨Kept.new nD, rw0.addM nD, [], [], upd_same, by simp [DenL], Nat.le_refl _, ?_⟩
    simpa using pw
  · rintro i H2 _ ⟨k2, r2, _⟩ p hp
    exact (srcs' p hp).stepW (fun a z => .inl (r1.m0 a (r1.x0m z))) mw k2 hf fun a z => r1.x0m z
  · rintro i x H2 H3 hlt ⟨k2, r2, acc, done, hD, dl, hlen, hw⟩ ⟨g, y⟩
    obtain ⟨k3, d, ed, dd⟩ := ik.yld C _ H2 i x H3 g r2.ok hlt y
    have edrop : items.drop i = d :: items.drop (i + 1) := by
      rw [List.drop_eq_getElem_cons hlt]
      rw [List.getElem?_eq_getElem hlt] at ed
      cases ed; rfl
    rw [edrop] at hw
    obtain ⟨env', e1, hw⟩ := hw
    have r3 := r2.grow k3
    refine ⟨C, wipeE env vs, addM M D, d, env', r3, dd, e1, fun σ' r4 wp => ⟨?_, ?_⟩⟩
    · rw [wp vs hx, wipe_idem fun i hi => hi]
    · refine ⟨C, env', addM M D, _, r4, trivial, hw, fun H4 b k4 r5 pb => ?_⟩
      have k34 : Kept C.X0 H2 H4 := fun a o e n => k4 a o (k3 a o e) n
      have rout : R X.K C (addM M D) (L2.wipe σ vs) H4 (wipeE env vs) := r2.step k34 (fun d l c e => (r5.drw d l c e).1) r5.tab
      have kM : Kept (addM M D) H2 H4 := k34.anti fun a z => .inl (r1.m0 a (r1.x0m z))
      cases b with
      | false =>
        rw [if_neg (by decide)] at pb
        exact iteF ⟨k2.trans k34, rout, acc, done, k34 D _ hD nX0, dl.kept kM r2.ok.w, Nat.le_succ_of_le hlen, pb⟩
      | true =>
        rw [if_pos rfl] at pb
        refine iteT ⟨C, env', addM M D, _, r5, trivial, pb, fun v H5 d5 k5 r6 de p6 => ?_⟩
        have k35 : Kept C.X0 H2 H5 := k34.trans k5
        have rout2 : R X.K C (addM M D) (L2.wipe σ vs) H5 (wipeE env vs) := r2.step k35 (fun d l c e => (r6.drw d l c e).1) r6.tab
        have kM5 : Kept (addM M D) H2 H5 := k35.anti fun a z => .inl (r1.m0 a (r1.x0m z))
        have hD5 := k35 D _ hD nX0
        have la := dl.length
        refine ⟨acc, hD5, by rw [la]; omega, up (k2.trans k35) .refl, rout2.mut (.inr rfl) nM0 hD5 no, acc ++ [v], done ++ [d5], upd_same, ?_, ?_, ?_⟩
        · exact ((dl.kept kM5 r2.ok.w).app (.one de)).kept (Kept.mut (.inr rfl)) rout2.ok.w
        · rw [List.length_append]; simp only [List.length_singleton]; omega
        · have e : (fun ds => P (.list (done ++ (d5 :: ds)))) = fun ds => P (.list ((done ++ [d5]) ++ ds)) := by
            funext ds; rw [List.append_assoc]; rfl
          rw [← e]; exact p6
  · rintro H2 ⟨k2, r2, acc, done, hD, dl, hlen, hw⟩
    rw [List.drop_length] at hw
    have rout : R X.K C M σ H2 env := r1.step k2 (fun d l c e => (r2.drw d l c e).1) r2.tab
    refine k (.ref D) H2 (.list done) (k1.trans k2) rout ?_ (by simpa [lcW] using hw)
    show Den X.K M H2 (.list done) (.ref D)
    simp only [Den]
    exact ⟨D, acc, rfl, hD, r1.ok.free nD, by rw [dl.length]; omega, dl.mk fun a xs _ h z => h (.inl z)⟩
theorem pd_lc {lo : Bool} {ifs : List Expr} {scope : Scope} {own : List (Str × Nat)} {mi : List Slot → W (List PyData)} {t : TgD} {ix : List Nat} {c : List Slot → W Bool} {el : List Slot → W PyData} (hf : f = .s ∨ f = .o) (hc : X.calm = true) (hN : X.N.Nodup) (hi : PIt X B f lo tg iter mi) (ok : BlkOk X.N X.env.scope scope own)
    (hg : ∀ (s : Shared) (H : Hp) (C : Addr) (cl : List (Str × Addr)) (fp : List Addr), PG (X.blk s H scope (PySem.compEnvC scope cl C X.env) fp) tg (tgOfR X.K lo t ix)) (hx : ∀ i ∈ ix, i ∈ own.map (·.2))
    (ht : ∀ (s : Shared) (H : Hp) (C : Addr) (cl : List (Str × Addr)) (fp : List Addr), PTs (X.blk s H scope (PySem.compEnvC scope cl C X.env) fp) ifs (ttOf X.K B0 c))
    (he : ∀ (s : Shared) (H : Hp) (C : Addr) (cl : List (Str × Addr)) (fp : List Addr), PE (X.blk s H scope (PySem.compEnvC scope cl C X.env) fp) elt (tOf X.K B0 .s el)) (hs : ∀ x, foldedSetIterable iter X.env x = pure x := by intro _; rfl) :
    PD X B .s (.ListComp elt [⟨tg, iter, ifs, 0⟩] scope pos) (dLc mi t c el (own.map (·.2))) := pe_imp (pe_lc hc hN hi ok hg ht he hs) (lc_imp hf hx)
theorem pts_no {X : Cx} : PTs X [] (ttOf X.K B0 bYes) := ⟨fun pins s σ H Q I ⟨C, env, M, P, r, bo, hm, k⟩ => pts_nil.run pins s σ H Q I (k H true .refl r hm)⟩
theorem pts_1 {X : Cx} {e : Expr} {c : List Slot → W Bool} (p : PB X B0 e c) : PTs X [e] (ttOf X.K B0 c) := pts_one p
end
end MT
end

section
set_option maxRecDepth 100000
set_option maxHeartbeats 4000000
namespace MT
open PySem PySem.Spec PyProof.Rows L2

/-- what is wanted behind a statement -/
structure DE where
  nx : List Slot → Prop
  rt : List Slot → PyData → Prop
  bk : List Slot → Prop
  ct : List Slot → Prop
  er : Exn → Prop
abbrev WS := DE → List Slot → Prop
def tsOf (K : PySem.W.Frag) (B : Bd) (f : WS) : TS := fun D σ H => ∃ C env M nx rt bk ct, R K C M σ H env ∧ B.ok C ∧ f ⟨nx, rt, bk, ct, B.er⟩ env ∧
  (∀ M' σ' H' env', R K C M' σ' H' env' → nx env' → D.nx σ' H') ∧
  (∀ M' σ' v H' env' d, R K C M' σ' H' env' → Den K C.M0 H' d v → rt env' d → D.rt v H') ∧
  (∀ M' σ' H' env', R K C M' σ' H' env' → bk env' → D.bk σ' H') ∧
  (∀ M' σ' H' env', R K C M' σ' H' env' → ct env' → D.ct σ' H')
abbrev SD (X : Cx) (B : Bd) (st : Stmt) (f : WS) : Prop := PS X st (tsOf X.K B f)
abbrev SDs (X : Cx) (B : Bd) (st : List Stmt) (f : WS) : Prop := PSs X st (tsOf X.K B f)
theorem pss_imp {X : Cx} {e : List Stmt} {t t' : TS} (h : PSs X e t) (i : ∀ D σ H, t' D σ H → t D σ H) : PSs X e t' := ⟨fun pins s σ H D I q => h.run pins s σ H D I (i _ _ _ q)⟩

section
variable {K : PySem.W.Frag} {C : Ctx} {M : Mk} {σ : L2.St} {H H' : Hp} {env : List Slot}
theorem R.setS (r : R K C M σ H env) {i : Nat} {s : Slot} {v : V} (so : SlotOk K C M H (some v) s) (own : ∀ xs a, s = .l xs → v = V.ref a → ∀ j, ¬ Owns σ env j a) : R K C M (σ.set i (some v)) H (env.set i s) where
  ext := r.ext
  m0 := r.m0
  mn := r.mn
  ok := r.ok
  drw := r.drw
  len := by rw [List.length_set, List.length_set]; exact r.len
  hid := r.hid
  tab := r.tab
  tbm := r.tbm
  slot := fun j s' o e1 e2 => by
    by_cases h : j = i
    · subst h
      have hj : j < env.length := by simpa using (List.getElem?_eq_some_iff.mp e1).1
      rw [List.getElem?_set_self hj] at e1
      rw [List.getElem?_set_self (by rw [← r.len]; exact hj)] at e2
      cases e1; cases e2
      exact so
    · rw [List.getElem?_set_ne (Ne.symm h)] at e1 e2
      exact r.slot j s' o e1 e2
  sep := fun j k a ⟨xs, e1, e2⟩ ⟨ys, g1, g2⟩ => by
    by_cases hj : j = i
    · by_cases hk : k = i
      · rw [hj, hk]
      · exfalso
        subst hj
        have hl : j < env.length := by simpa using (List.getElem?_eq_some_iff.mp e1).1
        rw [List.getElem?_set_self hl] at e1
        rw [List.getElem?_set_self (by rw [← r.len]; exact hl)] at e2
        rw [List.getElem?_set_ne (Ne.symm hk)] at g1 g2
        cases e1; cases e2
        exact own xs a rfl rfl k ⟨ys, g1, g2⟩
    · by_cases hk : k = i
      · exfalso
        subst hk
        have hl : k < env.length := by simpa using (List.getElem?_eq_some_iff.mp g1).1
        rw [List.getElem?_set_self hl] at g1
        rw [List.getElem?_set_self (by rw [← r.len]; exact hl)] at g2
        rw [List.getElem?_set_ne (Ne.symm hj)] at e1 e2
        cases g1; cases g2
        exact own ys a rfl rfl j ⟨xs, e1, e2⟩
      · rw [List.getElem?_set_ne (Ne.symm hj)] at e1 e2
        rw [List.getElem?_set_ne (Ne.symm hk)] at g1 g2
        exact r.sep j k a ⟨xs, e1, e2⟩ ⟨ys, g1, g2⟩
theorem slotHid {C' : Ctx} (h0 : C'.M0 = C.M0) (h1 : C'.dr = C.dr) {o : Option V} {s : Slot} (q : SlotOk K C M H o s) : SlotOk K C' M H o s := by
  cases s with
  | ex x => cases x <;> exact q
  | l xs => obtain ⟨a, vs, e1, e2, e3, e4, e5⟩ := q; exact ⟨a, vs, e1, e2, e3, by rw [h0]; exact e4, e5⟩
  | dr => obtain ⟨d, l, c, e1, e2⟩ := q; exact ⟨d, l, c, h1.trans e1, e2⟩
  | _ => exact q
theorem R.withHid (r : R K C M σ H env) {h : List (PyData × V)} (hh : ∀ p ∈ h, Den K M H p.1 p.2) : R K { C with hid := h } M σ H env :=
  ⟨r.ext, r.m0, r.mn, r.ok, r.drw, r.len, fun i s o e1 e2 => by have q := r.slot i s o e1 e2; exact slotHid rfl rfl q, r.sep, hh, r.tab, r.tbm⟩
theorem R.unHid {h : List (PyData × V)} (r : R K { C with hid := h } M σ H env) (hh : ∀ p ∈ C.hid, p ∈ h) : R K C M σ H env :=
  ⟨r.ext, r.m0, r.mn, r.ok, r.drw, r.len, fun i s o e1 e2 => by have q := r.slot i s o e1 e2; exact slotHid rfl rfl q, r.sep, fun p hp => r.hid p (hh p hp), r.tab, r.tbm⟩
end

section
variable {X : Cx} {B : Bd} {f g : WS} {st : Stmt} {rest : List Stmt} {e a b : Expr} {m ma mb : List Slot → W PyData} {pos : Pos}
def dNext : WS := fun E env => E.nx env
def dSeq (f g : WS) : WS := fun E env => f { E with nx := g E } env
theorem sd_nil : SDs X B [] dNext := pss_imp pss_nil fun D σ H ⟨C, env, M, nx, rt, bk, ct, r, bo, hf, k1, k2, k3, k4⟩ => k1 M σ H env r hf
theorem sd_cons (p : SD X B st f) (q : SDs X B rest g) : SDs X B (st :: rest) (dSeq f g) := pss_imp (pss_cons p q) fun D σ H ⟨C, env, M, nx, rt, bk, ct, r, bo, hf, k1, k2, k3, k4⟩ =>
  ⟨C, env, M, _, rt, bk, ct, r, bo, hf, fun M' σ' H' env' r' q' => ⟨C, env', M', nx, rt, bk, ct, r', bo, q', k1, k2, k3, k4⟩, k2, k3, k4⟩
theorem sd_one (p : SD X B st f) : SDs X B [st] f := pss_one p
def dPass : WS := fun E env => E.nx env
theorem sd_pass : SD X B (.Pass pos) dPass := ps_imp ps_pass fun D σ H ⟨C, env, M, nx, rt, bk, ct, r, bo, hf, k1, k2, k3, k4⟩ => k1 M σ H env r hf
def dBreak : WS := fun E env => E.bk env
def dCont : WS := fun E env => E.ct env
theorem sd_break : SD X B (.Break pos) dBreak := ps_imp ps_break fun D σ H ⟨C, env, M, nx, rt, bk, ct, r, bo, hf, k1, k2, k3, k4⟩ => k3 M σ H env r hf
theorem sd_cont : SD X B (.Continue pos) dCont := ps_imp ps_continue fun D σ H ⟨C, env, M, nx, rt, bk, ct, r, bo, hf, k1, k2, k3, k4⟩ => k4 M σ H env r hf
def dNever : WS := fun _ _ => False
theorem sd_never : SD X B st dNever := ps_imp ps_never fun D σ H ⟨C, env, M, nx, rt, bk, ct, r, bo, hf, _⟩ => hf
/-- name = data -/
def dSet (i : Nat) (m : List Slot → W PyData) : WS := fun E env => m env (fun d => E.nx (env.set i (.d d))) E.er
theorem tAsg_set {i : Nat} {te : TE} (p : ∀ σ H Q, tOf X.K B .s m σ H Q → te σ H Q) : ∀ D σ H, tsOf X.K B (dSet i m) D σ H → tAsg te (gName i) D σ H := fun D σ H ⟨C, env, M, nx, rt, bk, ct, r, bo, hf, k1, k2, k3, k4⟩ =>
  p σ H _ ⟨C, env, M, _, r, bo, hf, fun v H' d kk r' de q => k1 M _ H' _ (r'.set de) q⟩
theorem sd_set {i : Nat} {x : Str} {pos' : Pos} (hN : X.N.Nodup) (hi : X.N[i]? = some x) (hx : Loc X.env.scope x) (p : PD X B .s e m) (hf : X.fn x = true ∨ X.env.scope.names.lookup x = some .local) (hs : swapsWith e (some (.Name x pos')) pos.line X.env = pure false := by rfl) : SD X B (.Assign [.Name x pos'] e pos) (dSet i m) :=
  ps_imp (ps_set hN hi hx p hs hf) (tAsg_set fun _ _ _ h => h)
def dRet (m : List Slot → W PyData) : WS := fun E env => m env (fun d => E.rt env d) E.er
theorem sd_ret (p : PD X B .w e m) : SD X B (.Return (some e) pos) (dRet m) := ps_imp (ps_ret p) fun D σ H ⟨C, env, M, nx, rt, bk, ct, r, bo, hf, k1, k2, k3, k4⟩ =>
  ⟨C, env, M, _, r, bo, hf, fun v H' d kk r' de q => k2 M σ v H' env d r' de q⟩
def dRetN : WS := fun E env => E.rt env .none
theorem sd_retN : SD X B (.Return none pos) dRetN := ps_imp ps_retN fun D σ H ⟨C, env, M, nx, rt, bk, ct, r, bo, hf, k1, k2, k3, k4⟩ => k2 M σ .non H env .none r (by simp [Den]) hf
def dIfS (c : List Slot → W Bool) (f g : WS) : WS := fun E env => c env (fun b => if b = true then f E env else g E env) E.er
theorem sd_if {c : Expr} {t u : List Stmt} {pc : List Slot → W Bool} (hc : PB X B c pc) (p : SDs X B t f) (q : SDs X B u g) : SD X B (.If c t u pos) (dIfS pc f g) := ps_imp (ps_if hc p q) fun D σ H ⟨C, env, M, nx, rt, bk, ct, r, bo, hf, k1, k2, k3, k4⟩ =>
  ⟨C, env, M, _, r, bo, hf, fun H' b kk r' q => by
    cases b with
    | true => exact iteT ⟨C, env, M, nx, rt, bk, ct, r', bo, by simpa using q, k1, k2, k3, k4⟩
    | false => exact iteF ⟨C, env, M, nx, rt, bk, ct, r', bo, by simpa using q, k1, k2, k3, k4⟩⟩
def dExpr (m : List Slot → W PyData) : WS := fun E env => m env (fun _ => E.nx env) E.er
theorem sd_expr {f : Fl} (p : PD X B f e m) (hs : swapsWith e none pos.line X.env = pure false := by rfl) : SD X B (.Expr e pos) (dExpr m) := ps_imp (ps_expr p hs) fun D σ H ⟨C, env, M, nx, rt, bk, ct, r, bo, hf, k1, k2, k3, k4⟩ =>
  ⟨C, env, M, _, r, bo, hf, fun v H' d kk r' de q => k1 M σ H' env r' q⟩

/-! lists of our own -/
def tfOf (K : PySem.W.Frag) (B : Bd) (m : List Slot → W (List PyData)) : TE := fun σ H Q => ∃ C env M P, R K C M σ H env ∧ B.ok C ∧ m env P B.er ∧
  ∀ p vs H' ds, Kept C.X0 H H' → R K C M σ H' env → H' p = none → DenL K M H' ds vs → vs.length ≤ sizeLine → P ds → Q (.ref p) (upd H' p (.lst vs))
abbrev PF (X : Cx) (B : Bd) (e : Expr) (m : List Slot → W (List PyData)) : Prop := PE X e (tfOf X.K B m)
def fLst (m : List Slot → W (List PyData)) : List Slot → W (List PyData) := fun env P E => m env (fun ds => ds.length ≤ sizeLine ∧ P ds) E
theorem pf_lst {es : List Expr} {mr : List Slot → W (List PyData)} (p : PL X B .s es mr) : PF X B (.List es pos) (fLst mr) := pe_imp (pe_lst p) fun σ H Q ⟨C, env, M, P, r, bo, hm, k⟩ =>
  ⟨C, env, M, _, r, bo, hm, fun vs H1 ds k1 r1 de ⟨z, p1⟩ => by
    have z' : vs.length ≤ sizeLine := by rw [de.length]; exact z
    exact ⟨z', fun p n => k p vs H1 ds k1 r1 n de z' p1⟩⟩
/-- list(x), a slice, a sum, a multiple: whatever gives a list of data, made anew -/
def fUn (op : PyData → W (List PyData)) (ma : List Slot → W PyData) : List Slot → W (List PyData) := fun env P E => ma env (fun x => op x P E) E
def fBin (op : PyData → PyData → W (List PyData)) (ma mb : List Slot → W PyData) : List Slot → W (List PyData) := fun env P E => ma env (fun x => mb env (fun y => op x y P E) E) E
def seqOf : PyData → W (List PyData)
  | .list ds => fun P _ => P ds
  | .tuple ds => fun P _ => P ds
  | _ => fun _ _ => False
theorem pf_list {p : Pos} (hg : Gl X "list") (hm : X.mg "list" = none) (q : PD X B .o e m) (h1 : starEach [e] X.env = (false, eval e X.env) :: starEach [] X.env := by rfl) : PF X B (.Call (.Name "list" p) [e] [] pos) (fUn seqOf m) :=
  pe_imp (pe_callTy call_list_of hg hm PyProof.Rows.boot_list (pa_cons q pa_nil h1) (by decide) (by decide) h1 rfl) fun σ H Q ⟨C, env, M, P, r, bo, hm, k⟩ => ⟨C, env, M, _, r, bo, hm, fun v H1 d k1 r1 de p1 => by
    unfold seqOf at p1
    split at p1
    · obtain ⟨a, xs, rfl, g1, g2, g3⟩ := den_lst de
      exact ⟨a, xs, rfl, .inl (.of g1), fun p n => k p xs H1 _ k1 r1 n g3 g2 p1⟩
    · obtain ⟨a, xs, rfl, g1, g2, g3⟩ := den_tup de
      exact ⟨a, xs, rfl, .inr g1, fun p n => k p xs H1 _ k1 r1 n g3 g2 p1⟩
    · exact p1.elim⟩
def fRg (m : List Slot → W (Int × Int)) : List Slot → W (List PyData) := fun env P E => m env (fun q => RgOk q.1 q.2 ∧ P (rgD q.1 q.2)) E
theorem pf_lstRg {p : Pos} {mr : List Slot → W (Int × Int)} (hc : X.calm = true) (hg : Gl X "list") (hm : X.mg "list" = none) (q : PG1 X B e mr) (h1 : starEach [e] X.env = (false, eval e X.env) :: starEach [] X.env := by rfl) : PF X B (.Call (.Name "list" p) [e] [] pos) (fRg mr) :=
  pe_imp (pe_listRg hc hg hm q h1) fun σ H Q ⟨C, env, M, P, r, bo, hm, k⟩ => ⟨C, env, M, _, r, bo, hm, fun i j H1 k1 r1 ⟨ok, p1⟩ => ⟨ok, fun p n => k p _ H1 _ k1 r1 n (denL_rg i j) (rg_line ok) p1⟩⟩
/-- xs * n -/
def repD (ds : List PyData) (n : Nat) : List PyData := (List.replicate n ds).flatten
theorem denL_rep {K : PySem.W.Frag} {M : Mk} {H : Hp} {ds : List PyData} {vs : List V} (h : DenL K M H ds vs) : ∀ n : Nat, DenL K M H (repD ds n) (List.replicate n vs).flatten
  | 0 => by simp [repD, DenL]
  | n + 1 => by
    have ih := denL_rep h n
    unfold repD at ih ⊢
    simp only [List.replicate_succ, List.flatten_cons]
    exact h.app ih
def repOf : PyData → PyData → W (List PyData)
  | .list ds, .int n => fun P _ => -(2 ^ 63) ≤ n ∧ n < 2 ^ 63 ∧ ds.length * n.toNat ≤ sizeLine ∧ P (repD ds n.toNat)
  | _, _ => fun _ _ => False
theorem flat_len {α : Type} (l : List α) : ∀ n : Nat, (List.replicate n l).flatten.length = l.length * n
  | 0 => by simp
  | n + 1 => by simp [List.replicate_succ, flat_len l n, Nat.mul_succ, Nat.add_comm]
theorem pf_rep (q : PD X B .o a ma) (q2 : PD X B .o b mb) : PF X B (.BinOp a .Mult b pos) (fBin repOf ma mb) :=
  pe_imp (pe_op op_rep q q2) fun σ H Q ⟨C, env, M, P, r, bo, hm, k⟩ => ⟨C, env, M, _, r, bo, hm, fun v H1 d k1 r1 de p1 => ⟨C, env, M, _, r1, bo, p1, fun u H2 d2 k2 r2 de2 p2 => by
    have de := de.step r1 k2
    unfold repOf at p2
    split at p2
    · obtain ⟨a, xs, rfl, g1, g2, g3⟩ := den_lst de
      obtain ⟨b1, b2, b3, p2⟩ := p2
      rw [den_int de2]
      rw [← g3.length] at b3
      exact ⟨a, _, xs, rfl, rfl, g1, b1, b2, b3, fun p n => k p _ H2 _ (k1.trans k2) r2 n (denL_rep g3 _) (by rw [flat_len]; exact b3) p2⟩
    · exact p2.elim⟩⟩
def catOf : PyData → PyData → W (List PyData)
  | .list x, .list y => fun P _ => x.length + y.length ≤ sizeLine ∧ P (x ++ y)
  | _, _ => fun _ _ => False
theorem pf_cat (q : PD X B .o a ma) (q2 : PD X B .o b mb) : PF X B (.BinOp a .Add b pos) (fBin catOf ma mb) :=
  pe_imp (pe_op op_cat q q2) fun σ H Q ⟨C, env, M, P, r, bo, hm, k⟩ => ⟨C, env, M, _, r, bo, hm, fun v H1 d k1 r1 de p1 => ⟨C, env, M, _, r1, bo, p1, fun u H2 d2 k2 r2 de2 p2 => by
    have de := de.step r1 k2
    unfold catOf at p2
    split at p2
    · obtain ⟨a, xs, rfl, g1, g2, g3⟩ := den_lst de
      obtain ⟨c, ys, rfl, h1, h2, h3⟩ := den_lst de2
      obtain ⟨b1, p2⟩ := p2
      rw [← g3.length, ← h3.length] at b1
      exact ⟨a, c, xs, ys, rfl, rfl, g1, h1, b1, fun p n => k p _ H2 _ (k1.trans k2) r2 n (g3.app h3) (by rw [List.length_append]; exact b1) p2⟩
    · exact p2.elim⟩⟩
/-- a list made anew, as data -/
def dF (m : List Slot → W (List PyData)) : List Slot → W PyData := fun env P E => m env (fun ds => P (.list ds)) E
end
end MT
end

section
set_option maxRecDepth 100000
set_option maxHeartbeats 4000000
namespace MT
open PySem PySem.Spec PyProof.Rows L2
section
variable {X : Cx} {B : Bd} {f g : WS} {st : Stmt} {rest : List Stmt} {e a b : Expr} {m ma mb : List Slot → W PyData} {pos : Pos}
theorem set_self {α : Type} {l : List α} {i : Nat} {x : α} (e : l[i]? = some x) : l.set i x = l := by
  obtain ⟨h, rfl⟩ := List.getElem?_eq_some_iff.mp e
  exact List.set_getElem_self h
/-- name = a list made anew, our own -/
def dOwn (i : Nat) (m : List Slot → W (List PyData)) : WS := fun E env => m env (fun ds => E.nx (env.set i (.l ds))) E.er
section
variable {K : PySem.W.Frag} {C : Ctx} {M : Mk} {σ : L2.St} {H H' : Hp} {env : List Slot}
theorem R.noOwn (r : R K C M σ H env) {p : Addr} (n : H p = none) : ∀ j, ¬ Owns σ env j p := fun j h => by
  obtain ⟨_, _, ws, e⟩ := r.own h
  rw [n] at e; cases e
theorem R.no0 (r : R K C M σ H env) {p : Addr} (n : H p = none) : ¬ C.M0 p := fun z => r.ok.free n (r.m0 p z)
theorem R.setOwn (r : R K C M σ H env) {p : Addr} {vs : List V} {ds : List PyData} {i : Nat} (n : H p = none) (dl : DenL K M H ds vs) (z : vs.length ≤ sizeLine) : R K C (MT.addM M p) (σ.set i (some (.ref p))) (upd H p (.lst vs)) (env.set i (.l ds)) := by
  have r2 := r.addM n (xs := vs)
  refine r2.setS (s := .l ds) (v := V.ref p) ⟨p, vs, rfl, upd_same, .inr rfl, r.no0 n, z, dl.add r.ok n⟩ fun xs a _ e j => ?_
  cases e
  exact r.noOwn n j
end
theorem tAsg_own {i : Nat} {te : TE} {mr : List Slot → W (List PyData)} (p : ∀ σ H Q, tfOf X.K B mr σ H Q → te σ H Q) : ∀ D σ H, tsOf X.K B (dOwn i mr) D σ H → tAsg te (gName i) D σ H := fun D σ H ⟨C, env, M, nx, rt, bk, ct, r, bo, hf, k1, k2, k3, k4⟩ =>
  p σ H _ ⟨C, env, M, _, r, bo, hf, fun p vs H' ds kk r' n dl z q => k1 _ _ _ _ (r'.setOwn n dl z) q⟩
theorem sd_own {i : Nat} {x : Str} {pos' : Pos} {mr : List Slot → W (List PyData)} (hN : X.N.Nodup) (hi : X.N[i]? = some x) (hx : Loc X.env.scope x) (p : PF X B e mr) (hf : X.fn x = true ∨ X.env.scope.names.lookup x = some .local) (hs : swapsWith e (some (.Name x pos')) pos.line X.env = pure false := by rfl) : SD X B (.Assign [.Name x pos'] e pos) (dOwn i mr) :=
  ps_imp (ps_set hN hi hx p hs hf) (tAsg_own fun _ _ _ h => h)

/-- x.append(e) -/
def dApp (i : Nat) (m : List Slot → W PyData) : WS := fun E env => ∃ xs, env[i]? = some (.l xs) ∧ m env (fun d => xs.length < sizeLine ∧ E.nx (env.set i (.l (xs ++ [d])))) E.er
theorem R.atL {K : PySem.W.Frag} {C : Ctx} {M : Mk} {σ : L2.St} {H : Hp} {env : List Slot} (r : R K C M σ H env) {i : Nat} {xs : List PyData} (h : env[i]? = some (.l xs)) : ∃ a vs, σ[i]? = some (some (V.ref a)) ∧ H a = some (.lst vs) ∧ M a ∧ ¬ C.M0 a ∧ vs.length ≤ sizeLine ∧ DenL K M H xs vs := by
  obtain ⟨o, e1, a, vs, e2, q⟩ := r.at h
  subst e2
  exact ⟨a, vs, e1, q⟩
/-- our list is changed and its slot with it -/
theorem R.mutS {K : PySem.W.Frag} {C : Ctx} {M : Mk} {σ : L2.St} {H : Hp} {env : List Slot} (r : R K C M σ H env) {i : Nat} {xs ds : List PyData} {a : Addr} {vs us : List V} (h : env[i]? = some (.l xs)) (e : σ[i]? = some (some (V.ref a))) (hD : H a = some (.lst vs)) (hM : M a) (h0 : ¬ C.M0 a) (z : us.length ≤ sizeLine) (dl : DenL K M H ds us) :
    R K C M σ (upd H a (.lst us)) (env.set i (.l ds)) := by
  have hi : i < env.length := (List.getElem?_eq_some_iff.mp h).1
  have ownI : Owns σ env i a := ⟨xs, h, e⟩
  have r1 : R K C M σ H (env.set i .un) := by
    have q := r.unset i (some (V.ref a))
    have es : σ.set i (some (V.ref a)) = σ := set_self e
    rwa [es] at q
  have no : ∀ j, ¬ Owns σ (env.set i .un) j a := fun j ⟨ys, e1, e2⟩ => by
    by_cases hj : j = i
    · subst hj; rw [List.getElem?_set_self hi] at e1; cases e1
    · rw [List.getElem?_set_ne (Ne.symm hj)] at e1
      exact hj (r.sep j i a ⟨ys, e1, e2⟩ ownI)
  have r2 := r1.mut hM h0 hD no (ys := us)
  have r3 := r2.setS (i := i) (s := .l ds) (v := V.ref a) ⟨a, us, rfl, upd_same, hM, h0, z, dl.kept (Kept.mut hM) r.ok.w⟩ fun ys b _ eb j => by
    cases eb; exact no j
  rw [List.set_set] at r3
  have es : σ.set i (some (V.ref a)) = σ := set_self e
  rwa [es] at r3
theorem sd_app {i : Nat} (p : PE X e (tBM X.K "list" rAppend (tVar i) (tCons (tOf X.K B .s m) tNil))) (hs : swapsWith e none pos.line X.env = pure false := by rfl) : SD X B (.Expr e pos) (dApp i m) :=
  ps_imp (ps_expr p hs) fun D σ H ⟨C, env, M, nx, rt, bk, ct, r, bo, ⟨xs, hl, hf⟩, k1, k2, k3, k4⟩ => by
    obtain ⟨a, vs, e1, e2, hM, h0, z, dl⟩ := r.atL hl
    refine ⟨V.ref a, e1, .inl ⟨rfl, vs, SqL.of e2⟩, C, env, M, _, r, bo, hf, fun v H' d kk r' de ⟨g2, g3⟩ => ?_⟩
    obtain ⟨b, us, f1, f2, hM, h0, z, dl⟩ := r'.atL hl
    rw [e1] at f1
    cases f1
    have hz : us.length < sizeLine := by rw [dl.length]; exact g2
    refine ⟨a, us, v, rfl, rfl, f2, hz, ?_⟩
    exact k1 M σ _ _ (r'.mutS hl e1 f2 hM h0 (by rw [List.length_append]; exact hz) (dl.app (.one de))) g3
/-- x[k] = v: the value first -/
def dPut (i : Nat) (mv mk : List Slot → W PyData) : WS := fun E env => ∃ xs, env[i]? = some (.l xs) ∧ mv env (fun d => mk env (fun k => ∃ n j, k = .int n ∧ ixN xs.length n = some j ∧ E.nx (env.set i (.l (xs.set j d)))) E.er) E.er
theorem sd_put {i : Nat} {st : Stmt} (p : PS X st (tAsg (tOf X.K B .s m) (gSub (tVar i) (tOf X.K B .o ma) rSetL))) : SD X B st (dPut i m ma) :=
  ps_imp p fun D σ H ⟨C, env, M, nx, rt, bk, ct, r, bo, ⟨xs, hl, hf⟩, k1, k2, k3, k4⟩ => ⟨C, env, M, _, r, bo, hf, fun v H1 d kk r1 de q => by
    obtain ⟨a, vs, e1, e2, hM, h0, z, dl⟩ := r1.atL hl
    refine ⟨V.ref a, e1, C, env, M, _, r1, bo, q, fun u H2 d2 kk2 r2 de2 ⟨n, j, g2, g3, g4⟩ => ?_⟩
    subst g2
    obtain ⟨b, us, f1, f2, hM, h0, z, dl⟩ := r2.atL hl
    rw [e1] at f1; cases f1
    refine ⟨a, us, n, j, rfl, den_int de2, f2, by rw [dl.length]; exact g3, ?_⟩
    exact k1 M σ _ _ (r2.mutS hl e1 f2 hM h0 (by simpa using z) (dl.set (de.step r1 kk2) j)) g4⟩
/-- name op= e -/
def dAug (i : Nat) (op : O2) (m : List Slot → W PyData) : WS := fun E env => ∃ x, env[i]? = some (.d x) ∧ m env (fun y => op x y (fun z => E.nx (env.set i (.d z))) E.er) E.er
theorem sd_aug {i : Nat} {op : O2} {r0 : R2} (p : PS X st (tAug i (tOf X.K B .o m) r0)) (hs : OpD X.K B .o .o .s op r0) : SD X B st (dAug i op m) :=
  ps_imp p fun D σ H ⟨C, env, M, nx, rt, bk, ct, r, bo, ⟨x, hl, hf⟩, k1, k2, k3, k4⟩ => by
    obtain ⟨o, e1, v, e2, de0⟩ := r.at hl
    subst e2
    refine ⟨v, e1, C, env, M, _, r, bo, hf, fun u H1 d kk r1 de q => ?_⟩
    have de0' : DenF X.K C M H1 .o x v := (DenF.so r de0).step r kk
    exact hs C M env σ H1 v u x d _ _ r1 de0' de (q) fun w H2 z k5 r5 de5 p5 => k1 M _ H2 _ (r5.set de5) p5
/-- x.extend(e): a list that is not x's own -/
def dExt (i : Nat) (m : List Slot → W PyData) : WS := fun E env => ∃ xs, env[i]? = some (.l xs) ∧ m env (fun d => ∃ ds, d = .list ds ∧ xs.length + ds.length ≤ sizeLine ∧ E.nx (env.set i (.l (xs ++ ds)))) E.er
theorem sd_ext {i : Nat} (p : PE X e (tBM X.K "list" rExtend (tVar i) (tCons (tOf X.K B .o m) tNil))) (hs : swapsWith e none pos.line X.env = pure false := by rfl) : SD X B (.Expr e pos) (dExt i m) :=
  ps_imp (ps_expr p hs) fun D σ H ⟨C, env, M, nx, rt, bk, ct, r, bo, ⟨xs, hl, hf⟩, k1, k2, k3, k4⟩ => by
    obtain ⟨a, vs, e1, e2, hM, h0, z, dl⟩ := r.atL hl
    refine ⟨V.ref a, e1, .inl ⟨rfl, vs, SqL.of e2⟩, C, env, M, _, r, bo, hf, fun v H' d kk r' de ⟨ds, ed, g2, g3⟩ => ?_⟩
    subst ed
    obtain ⟨b, us, f1, f2, hM, h0, z, dl⟩ := r'.atL hl
    rw [e1] at f1
    cases f1
    obtain ⟨c, ws, rfl, h1, h2, h3⟩ := den_lst de
    have hz : us.length + ws.length ≤ sizeLine := by rw [dl.length, h3.length]; exact g2
    refine ⟨a, c, us, ws, rfl, rfl, f2, h1, hz, ?_⟩
    exact k1 M σ _ _ (r'.mutS hl e1 f2 hM h0 (by simpa using hz) (dl.app h3)) g3

/-! a, b, .. = x, y, .. -/
def slOf (m : List Slot → W PyData) : List Slot → W Slot := fun env P E => m env (fun d => P (.d d)) E
def slOwn (m : List Slot → W (List PyData)) : List Slot → W Slot := fun env P E => m env (fun ds => P (.l ds)) E
/-- the new values: data, or lists made anew -/
structure NewOk (K : PySem.W.Frag) (C : Ctx) (M : Mk) (σ : L2.St) (H : Hp) (env : List Slot) (ss : List Slot) (vs : List V) : Prop where
  len : ss.length = vs.length
  ok : ∀ (i : Nat) s v, ss[i]? = some s → vs[i]? = some v → SlotOk K C M H (some v) s
  own : ∀ (i : Nat) xs a, ss[i]? = some (.l xs) → vs[i]? = some (V.ref a) → ∀ j, ¬ Owns σ env j a
  sep : ∀ (i j : Nat) xs ys a, ss[i]? = some (.l xs) → vs[i]? = some (V.ref a) → ss[j]? = some (.l ys) → vs[j]? = some (V.ref a) → i = j
def tvOf (K : PySem.W.Frag) (B : Bd) (m : List Slot → W (List Slot)) : TA := fun σ H Q => ∃ C env M P, R K C M σ H env ∧ B.ok C ∧ m env P B.er ∧
  ∀ M' vs H' ss, (∀ a, M' a → M a ∨ H a = none) → (∀ a, M a → M' a) → Kept C.X0 H H' → R K C M' σ H' env → NewOk K C M' σ H' env ss vs → (∀ (i : Nat) xs a, ss[i]? = some (.l xs) → vs[i]? = some (V.ref a) → H a = none) → P ss → Q vs H'
def vNil : List Slot → W (List Slot) := fun _ P _ => P []
def vCons (m : List Slot → W Slot) (mr : List Slot → W (List Slot)) : List Slot → W (List Slot) := fun env P E => m env (fun s => mr env (fun r => P (s :: r)) E) E
theorem vl_nil : PA X [] (tvOf X.K B vNil) := pa_imp pa_nil fun σ H Q ⟨C, env, M, P, r, bo, hm, k⟩ => k M [] H [] (fun a h => .inl h) (fun a h => h) .refl r ⟨rfl, fun i s v e => by simp at e, fun i xs a e => by simp at e, fun i j xs ys a e => by simp at e⟩ (fun i xs a e => by simp at e) hm
theorem SlotOk.later {K : PySem.W.Frag} {C : Ctx} {M M' : Mk} {σ : L2.St} {H H' : Hp} {env : List Slot} (r : R K C M σ H env) (hM : ∀ a, M' a → M a ∨ H a = none) (h1 : ∀ a, M a → M' a) (k : Kept C.X0 H H') {o : Option V} {s : Slot} (q : SlotOk K C M H o s) (hs : ∀ n, s ≠ .sc n) : SlotOk K C M' H' o s := by
  have mw : MW M' H := fun a u z e => by
    rcases hM a z with z | z
    · exact r.ok.w a u z e
    · rw [z] at e; cases e
  have kk : Kept M' H H' := k.anti fun a z => h1 a (r.m0 a (r.x0m z))
  have mk : ∀ a xs, H a = some (.lst xs) → ¬ M a → ¬ M' a := fun a xs e n z => by
    rcases hM a z with z | z
    · exact n z
    · rw [z] at e; cases e
  cases s with
  | un => trivial
  | d x =>
    obtain ⟨v, e, h⟩ := q
    exact ⟨v, e, (h.mk mk).kept kk mw⟩
  | l xs =>
    obtain ⟨a, vs, e, h, ma, n, z, g⟩ := q
    exact ⟨a, vs, e, k a _ h fun y => n (r.x0m y), h1 a ma, n, z, (g.mk mk).kept kk mw⟩
  | dr => exact q
  | fn _ => exact q
  | ex x =>
    cases x with
    | none => exact q
    | some x =>
      obtain ⟨a, e, h⟩ := q
      exact ⟨a, e, (h.mk fun b hb n z => (hM b z).elim n hb).kept kk mw⟩
  | sc n => exact absurd rfl (hs n)
theorem vl_d {es : List Expr} {mr : List Slot → W (List Slot)} (p : PD X B .s e m) (q : PA X es (tvOf X.K B mr)) (hs : starEach (e :: es) X.env = (false, eval e X.env) :: starEach es X.env := by rfl) : PA X (e :: es) (tvOf X.K B (vCons (slOf m) mr)) :=
  pa_imp (pa_cons p q hs) fun σ H Q ⟨C, env, M, P, r, bo, hm, k⟩ => ⟨C, env, M, _, r, bo, hm, fun v H1 d k1 r1 de p1 => ⟨C, env, M, _, r1, bo, p1, fun M' vs H2 ss g1 g2 k2 r2 nw ne p2 => by
    have fr : ∀ a, H1 a = none → ¬ C.X0 a → H a = none := fun a h n => by
      cases q : H a with
      | none => rfl
      | some u => rw [k1 a u q n] at h; cases h
    refine k M' (v :: vs) H2 (.d d :: ss) (fun a z => ?_) g2 (k1.trans k2) r2 ⟨by simp [nw.len], fun i s w e1 e2 => ?_, fun i xs a e1 e2 => ?_, fun i j xs ys a e1 e2 e3 e4 => ?_⟩ (fun i xs a e1 e2 => ?_) p2
    · rcases g1 a z with z | z
      · exact .inl z
      · by_cases hx : C.X0 a
        · exact .inl (r1.m0 a (r1.x0m hx))
        · exact .inr (fr a z hx)
    · cases i with
      | zero => simp at e1 e2; subst e1; subst e2; exact SlotOk.later r1 g1 g2 k2 (s := .d d) ⟨v, rfl, de⟩ (fun _ z => by cases z)
      | succ i => exact nw.ok i s w (by simpa using e1) (by simpa using e2)
    · cases i with
      | zero => simp at e1
      | succ i => exact nw.own i xs a (by simpa using e1) (by simpa using e2)
    · cases i with
      | zero => simp at e1
      | succ i => cases j with
        | zero => simp at e3
        | succ j => rw [nw.sep i j xs ys a (by simpa using e1) (by simpa using e2) (by simpa using e3) (by simpa using e4)]
    · cases i with
      | zero => simp at e1
      | succ i =>
        have h := ne i xs a (by simpa using e1) (by simpa using e2)
        obtain ⟨b, ws, eb, h1, h2, h3, _⟩ := nw.ok i _ _ (by simpa using e1) (by simpa using e2)
        cases eb
        exact fr a h fun z => h3 (r1.x0m z)⟩⟩
theorem vl_own {es : List Expr} {ml : List Slot → W (List PyData)} {mr : List Slot → W (List Slot)} (p : PF X B e ml) (q : PA X es (tvOf X.K B mr)) (hs : starEach (e :: es) X.env = (false, eval e X.env) :: starEach es X.env := by rfl) : PA X (e :: es) (tvOf X.K B (vCons (slOwn ml) mr)) :=
  pa_imp (pa_cons p q hs) fun σ H Q ⟨C, env, M, P, r, bo, hm, k⟩ => ⟨C, env, M, _, r, bo, hm, fun v ws H1 d k1 r1 n1 dl z p1 => ⟨C, env, addM M v, _, r1.addM n1, bo, p1, fun M' vs H2 ss g1 g2 k2 r2 nw ne p2 => by
    have k1' : Kept C.X0 H (upd H1 v (.lst ws)) := k1.trans (Kept.new n1)
    have n0 : ¬ C.M0 v := r1.no0 n1
    have nX : ¬ C.X0 v := fun z => n0 (r1.x0m z)
    have fr : ∀ a, H1 a = none → ¬ C.X0 a → H a = none := fun a h n => by
      cases q : H a with
      | none => rfl
      | some u => rw [k1 a u q n] at h; cases h
    have fr2 : ∀ a, upd H1 v (.lst ws) a = none → H1 a = none := fun a h => by
      by_cases e : a = v
      · subst e; exact n1
      · rw [upd_ne e] at h; exact h
    have so : SlotOk X.K C M' H2 (some (V.ref v)) (.l d) := SlotOk.later (r1.addM n1) g1 g2 k2 (s := .l d) ⟨v, ws, rfl, upd_same, .inr rfl, n0, z, dl.add r1.ok n1⟩ (fun _ z => by cases z)
    refine k M' (V.ref v :: vs) H2 (.l d :: ss) (fun a z => ?_) (fun a z => g2 a (.inl z)) (k1'.trans k2) r2 ⟨by simp [nw.len], fun i s w e1 e2 => ?_, fun i xs a e1 e2 => ?_, fun i j xs ys a e1 e2 e3 e4 => ?_⟩ (fun i xs a e1 e2 => ?_) p2
    · rcases g1 a z with (z | rfl) | z
      · exact .inl z
      · exact .inr (fr a n1 nX)
      · by_cases hx : C.X0 a
        · exact .inl (r1.m0 a (r1.x0m hx))
        · exact .inr (fr a (fr2 a z) hx)
    · cases i with
      | zero => simp at e1 e2; subst e1; subst e2; exact so
      | succ i => exact nw.ok i s w (by simpa using e1) (by simpa using e2)
    · cases i with
      | zero =>
        simp at e1 e2
        subst e2
        exact r1.noOwn n1
      | succ i => exact nw.own i xs a (by simpa using e1) (by simpa using e2)
    · have no : ∀ (l : Nat) zs, ss[l]? = some (.l zs) → vs[l]? = some (V.ref v) → False := fun l zs h1 h2 => by
        have h := ne l zs v h1 h2
        rw [upd_same] at h; cases h
      cases i with
      | zero =>
        simp at e2; subst e2
        cases j with
        | zero => rfl
        | succ j => exact (no j ys (by simpa using e3) (by simpa using e4)).elim
      | succ i => cases j with
        | zero => simp at e4; subst e4; exact (no i xs (by simpa using e1) (by simpa using e2)).elim
        | succ j => rw [nw.sep i j xs ys a (by simpa using e1) (by simpa using e2) (by simpa using e3) (by simpa using e4)]
    · cases i with
      | zero => simp at e2; subst e2; exact fr v n1 nX
      | succ i =>
        have h := ne i xs a (by simpa using e1) (by simpa using e2)
        obtain ⟨b, ws, eb, h1, h2, h3, _⟩ := nw.ok i _ _ (by simpa using e1) (by simpa using e2)
        cases eb
        exact fr a (fr2 a h) fun z => h3 (r1.x0m z)⟩⟩
/-- the slots one behind the other -/
def setAll : List Slot → List Nat → List Slot → List Slot
  | env, i :: is, s :: ss => setAll (env.set i s) is ss
  | env, _, _ => env
def setAllV : L2.St → List Nat → List V → L2.St
  | σ, i :: is, v :: vs => setAllV (σ.set i (some v)) is vs
  | σ, _, _ => σ
theorem R.setAll {K : PySem.W.Frag} {C : Ctx} {M : Mk} {H : Hp} : ∀ {is : List Nat} {ss : List Slot} {vs : List V} {σ : L2.St} {env : List Slot}, is.length = ss.length → R K C M σ H env → NewOk K C M σ H env ss vs → R K C M (setAllV σ is vs) H (MT.setAll env is ss)
  | [], ss, vs, σ, env, hl, r, nw => by
    cases ss with
    | nil => cases vs with
      | nil => exact r
      | cons v vs => simpa using nw.len
    | cons s ss => simp at hl
  | i :: is, [], vs, σ, env, hl, r, nw => by simp at hl
  | i :: is, s :: ss, [], σ, env, hl, r, nw => by have := nw.len; simp at this
  | i :: is, s :: ss, v :: vs, σ, env, hl, r, nw => by
    have r2 := r.setS (i := i) (nw.ok 0 s v rfl rfl) fun xs a e1 e2 => nw.own 0 xs a (by rw [e1]; rfl) (by rw [e2]; rfl)
    show R K C M (setAllV (σ.set i (some v)) is vs) H (MT.setAll (env.set i s) is ss)
    refine R.setAll (is := is) (ss := ss) (vs := vs) (by simpa using hl) r2 ⟨by simpa using nw.len, fun j t w e1 e2 => nw.ok (j + 1) t w (by simpa using e1) (by simpa using e2), fun j xs a e1 e2 l ⟨ys, g1, g2⟩ => ?_, fun j l xs ys a e1 e2 e3 e4 => by
      have := nw.sep (j + 1) (l + 1) xs ys a (by simpa using e1) (by simpa using e2) (by simpa using e3) (by simpa using e4)
      omega⟩
    by_cases hli : l = i
    · subst hli
      have hj : l < env.length := by simpa using (List.getElem?_eq_some_iff.mp g1).1
      rw [List.getElem?_set_self hj] at g1
      rw [List.getElem?_set_self (by rw [← r.len]; exact hj)] at g2
      cases g1
      have ev : v = V.ref a := by simpa using g2
      have := nw.sep 0 (j + 1) ys xs a rfl (by rw [ev]; rfl) (by simpa using e1) (by simpa using e2)
      omega
    · rw [List.getElem?_set_ne (Ne.symm hli)] at g1 g2
      exact nw.own (j + 1) xs a (by simpa using e1) (by simpa using e2) l ⟨ys, g1, g2⟩
def dPars (is : List Nat) (m : List Slot → W (List Slot)) : WS := fun E env => m env (fun ss => ss.length = is.length ∧ E.nx (setAll env is ss)) E.er
theorem sd_par2 {i j : Nat} {m : List Slot → W (List Slot)} (p : PS X st (tPar i j (tvOf X.K B m))) : SD X B st (dPars [i, j] m) := ps_imp p fun D σ H ⟨C, env, M, nx, rt, bk, ct, r, bo, hf, k1, k2, k3, k4⟩ =>
  ⟨C, env, M, _, r, bo, hf, fun M' vs H' ss _ _ kk r' nw _ ⟨hl, q⟩ => by
    have h2 := nw.len
    match vs, ss, hl, h2, nw, q with
    | [v, w], ss, hl, h2, nw, q => exact ⟨v, w, rfl, k1 M' _ H' _ (r'.setAll (is := [i, j]) (by rw [hl]) nw) q⟩
    | [], ss, hl, h2, _, _ => rw [hl] at h2; simp at h2
    | [_], ss, hl, h2, _, _ => rw [hl] at h2; simp at h2
    | _ :: _ :: _ :: _, ss, hl, h2, _, _ => rw [hl] at h2; simp at h2⟩
theorem sd_par3 {i j l : Nat} {m : List Slot → W (List Slot)} (p : PS X st (tPar3 i j l (tvOf X.K B m))) : SD X B st (dPars [i, j, l] m) := ps_imp p fun D σ H ⟨C, env, M, nx, rt, bk, ct, r, bo, hf, k1, k2, k3, k4⟩ =>
  ⟨C, env, M, _, r, bo, hf, fun M' vs H' ss _ _ kk r' nw _ ⟨hl, q⟩ => by
    have h2 := nw.len
    match vs, ss, hl, h2, nw, q with
    | [v, w, u], ss, hl, h2, nw, q => exact ⟨v, w, u, rfl, k1 M' _ H' _ (r'.setAll (is := [i, j, l]) (by rw [hl]) nw) q⟩
    | [], ss, hl, h2, _, _ => rw [hl] at h2; simp at h2
    | [_], ss, hl, h2, _, _ => rw [hl] at h2; simp at h2
    | [_, _], ss, hl, h2, _, _ => rw [hl] at h2; simp at h2
    | _ :: _ :: _ :: _ :: _, ss, hl, h2, _, _ => rw [hl] at h2; simp at h2⟩
/-- the general road: a tuple is made and taken apart -/
def gNames : List Nat → TGs
  | [] => gNil
  | i :: is => gCons (gName i) (gNames is)
theorem gNames_ok {K : PySem.W.Frag} : ∀ (is : List Nat) (vs : List V) (σ : L2.St) (H : Hp) (Q : L2.St → Hp → Prop), vs.length = is.length → Q (setAllV σ is vs) H → gNames is vs σ H Q
  | [], [], σ, H, Q, _, q => ⟨rfl, q⟩
  | [], _ :: _, _, _, _, h, _ => by simp at h
  | i :: is, [], _, _, _, h, _ => by simp at h
  | i :: is, v :: vs, σ, H, Q, h, q => ⟨v, vs, rfl, gNames_ok (K := K) is vs _ H Q (by simpa using h) q⟩
theorem NewOk.new {K : PySem.W.Frag} {C : Ctx} {M : Mk} {σ : L2.St} {H : Hp} {env : List Slot} {ss : List Slot} {vs : List V} (nw : NewOk K C M σ H env ss vs) (r : R K C M σ H env) {p : Addr} {o : HO} (n : H p = none) : NewOk K C M σ (upd H p o) env ss vs where
  len := nw.len
  ok := fun i s v e1 e2 => (nw.ok i s v e1 e2).keptM r (Kept.new n)
  own := nw.own
  sep := nw.sep
theorem sd_parT {is : List Nat} {m : List Slot → W (List Slot)} (hz : is.length ≤ sizeLine) (p : PS X st (tAsg (tTup (tvOf X.K B m)) (gTup X.K is.length (gNames is)))) : SD X B st (dPars is m) := ps_imp p fun D σ H ⟨C, env, M, nx, rt, bk, ct, r, bo, hf, k1, k2, k3, k4⟩ =>
  ⟨C, env, M, _, r, bo, hf, fun M' vs H' ss _ _ kk r' nw _ ⟨hl, q⟩ => by
    have h2 : vs.length = is.length := by rw [← nw.len, hl]
    refine ⟨by rw [h2]; exact hz, fun a na => ⟨a, vs, rfl, .of upd_same, h2, ?_⟩⟩
    exact gNames_ok (K := X.K) is vs σ _ _ h2 (k1 M' _ _ _ ((r'.new na).setAll hl.symm (nw.new r' na)) q)⟩

/-! loops -/
def forW (t : TgD) (body : WS) : List PyData → WS
  | [], E, env => E.nx env
  | x :: r, E, env => ∃ env', t x env = some env' ∧ body ⟨forW t body r E, E.rt, E.nx, forW t body r E, E.er⟩ env'
def dFor (mi : List Slot → W (List PyData)) (t : TgD) (body : WS) : WS := fun E env => mi env (fun items => forW t body items E env) E.er
theorem sd_for {lo : Bool} {tg iter : Expr} {body : List Stmt} {mi : List Slot → W (List PyData)} {t : TgD} {ix : List Nat} (hp : PassesOwn (model X.prog X.w) X.A X.env X.xe) (hc : X.calm = true) (hi : PIt X B .s lo tg iter mi) (hg : PT1 X lo tg t ix) (hb : SDs X B body f) (hs : ∀ x, foldedSetIterable iter X.env x = pure x := by intro _; rfl) :
    SD X B (.For tg iter body [] pos) (dFor mi t f) := ps_imp (ps_for hp hc hi hg hb hs) fun D σ H ⟨C, env, M, nx, rt, bk, ct, r, bo, hf, k1, k2, k3, k4⟩ =>
  ⟨C, env, M, _, r, bo, hf, fun J H1 items srcs kk r1 ik hsrc hz pw => by
    let C' : Ctx := { C with hid := srcs ++ C.hid }
    have un : ∀ {M σ H env}, R X.K C' M σ H env → R X.K C M σ H env := fun r => r.unHid fun p hp => List.mem_append_right _ hp
    have w : Walk J items.length (fun H => ∃ M, (∀ p ∈ srcs, Den X.K M H p.1 p.2)) (fun i H x H' => J.yld i H x H') :=
      ⟨fun i H hi ⟨M, g⟩ => ik.go C M H i g hi, fun H ⟨M, g⟩ => ik.stop C M H g, fun i H x H' hi g y => y⟩
    refine for_it w (fun i σ' H' => ∃ M' env', R X.K C' M' σ' H' env' ∧ forW t f (items.drop i) ⟨nx, rt, bk, ct, B.er⟩ env') ⟨M, env, r1.withHid fun p hp => (List.mem_append.mp hp).elim (hsrc p) (r1.hid p), pw⟩ ?_ ?_ ?_
    · rintro i σ' H' _ ⟨M', env', r', _⟩
      exact ⟨M', fun p hp => r'.hid p (List.mem_append_left _ hp)⟩
    · rintro i x σ2 H2 H3 hlt ⟨M2, env2, r2, hw⟩ y
      obtain ⟨k3', d, ed, dd⟩ := ik.yld C M2 H2 i x H3 (fun p hp => r2.hid p (List.mem_append_left _ hp)) r2.ok hlt y
      have edrop : items.drop i = d :: items.drop (i + 1) := by
        rw [List.drop_eq_getElem_cons hlt]
        rw [List.getElem?_eq_getElem hlt] at ed
        cases ed; rfl
      rw [edrop] at hw
      obtain ⟨env', e1, hw⟩ := hw
      refine ⟨C', env2, M2, d, env', r2.grow k3', dd, e1, fun σ' r4 _ => ?_⟩
      exact ⟨C', env', M2, _, _, _, _, r4, B.st _ _ bo, hw, fun M5 σ5 H5 env5 r5 q => ⟨M5, env5, r5, q⟩, fun M5 σ5 v5 H5 env5 d5 r5 de5 q => k2 M5 σ5 v5 H5 env5 d5 (un r5) de5 q,
        fun M5 σ5 H5 env5 r5 q => k1 M5 σ5 H5 env5 (un r5) q, fun M5 σ5 H5 env5 r5 q => ⟨M5, env5, r5, q⟩⟩
    · rintro σ2 H2 ⟨M2, env2, r2, hw⟩
      rw [List.drop_length] at hw
      exact k1 M2 σ2 H2 env2 (un r2) hw⟩
def whileW (c : List Slot → W Bool) (body : WS) : Nat → WS
  | 0, _, _ => False
  | n + 1, E, env => c env (fun b => if b = true then body ⟨whileW c body n E, E.rt, E.nx, whileW c body n E, E.er⟩ env else E.nx env) E.er
def dWhile (c : List Slot → W Bool) (body : WS) : WS := fun E env => ∃ n, whileW c body n E env
theorem sd_while {c : Expr} {body : List Stmt} {pc : List Slot → W Bool} (hp : PassesOwn (model X.prog X.w) X.A X.env X.xe) (hc : PB X B c pc) (hb : SDs X B body f) : SD X B (.While c body [] pos) (dWhile pc f) := ps_imp (ps_while hp hc hb) fun D σ H ⟨C, env, M, nx, rt, bk, ct, r, bo, ⟨n, hf⟩, k1, k2, k3, k4⟩ => by
  refine ⟨fun m σ' H' => ∃ M' env', R X.K C M' σ' H' env' ∧ whileW pc f m ⟨nx, rt, bk, ct, B.er⟩ env', ⟨n, M, env, r, hf⟩, ?_⟩
  rintro m σ2 H2 ⟨M2, env2, r2, hw⟩
  cases m with
  | zero => exact hw.elim
  | succ m =>
    refine ⟨C, env2, M2, _, r2, bo, hw, fun H3 b kk r3 q => ?_⟩
    cases b with
    | true =>
      refine iteT ⟨fun σ' H' => ∃ M' env', R X.K C M' σ' H' env' ∧ whileW pc f m ⟨nx, rt, bk, ct, B.er⟩ env', fun σ' H' q' => ⟨m, Nat.lt_succ_self m, q'⟩, ?_⟩
      exact ⟨C, env2, M2, _, _, _, _, r3, bo, (by simpa using q : f ⟨whileW pc f m ⟨nx, rt, bk, ct, B.er⟩, rt, nx, whileW pc f m ⟨nx, rt, bk, ct, B.er⟩, B.er⟩ env2), fun M5 σ5 H5 env5 r5 q => ⟨M5, env5, r5, q⟩, k2, k1, fun M5 σ5 H5 env5 r5 q => ⟨M5, env5, r5, q⟩⟩
    | false => exact iteF (k1 M2 σ2 H3 env2 r3 (by simpa using q))
end
end MT
end

section
set_option maxRecDepth 100000
set_option maxHeartbeats 4000000
namespace MT
open PySem PySem.Spec PyProof.Rows L2

/-! defs: what they promise where no repr runs around -/
structure FnG (P : Program) (w : World) (K : PySem.W.Frag) (mg : Str → Option Value) (base : Heap) (k : Nat) (f : Addr) (fd : FuncData) (n : Nat) (ps : List Str) (sp : Sp) : Prop where
  len : ∀ vs H Q E, sp vs H Q E → vs.length = ps.length
  run : ∀ (A : Around) (outer : List Env) (s : Shared) (H : Hp) (args : Args) (us : List Value) (vs : List V) (Q : VK) (E : XK), Room k A → A.guards = some [] → Env0 P w K mg base A outer s H → BindsTo s fd args (ps.zip us) → Vals vs us → sp vs H Q E →
    codeAny (model P w) A (.call (.ref f) args) (CR (L2.CX P w) outer P w H s Q E) s
theorem fng_of {P : Program} {w : World} {K : PySem.W.Frag} {mg : Str → Option Value} {base : Heap} {k : Nat} {f : Addr} {x qual : Str} {pr : Arguments} {bd : List Stmt} {sc : Scope} {dvs : List V} {kws : List (Str × V)} {fd : FuncData} {N ps : List Str} {sp : Sp} (F : FunD K x qual pr bd sc dvs kws f fd) (S : FnScope N ps sc)
    (len : ∀ vs H Q E, sp vs H Q E → vs.length = ps.length)
    (hbody : ∀ (cdv : Value) (A : Around) (outer : List Env) (s : Shared) (H : Hp) (vs : List V) (Q : VK) (E : XK), fd.code = cdv → Room k (A.deeper (envOfC qual sc s.heap.objs.size f cdv)) → A.guards = some [] → sp vs H Q E →
      ∃ t, PSs (cxOf (L2.CX P w) P w K mg base N qual sc f cdv A outer s H E) bd t ∧ t { nx := fun _ H' => Q .non H', rt := Q } (start N vs) H) :
    FnG P w K mg base (k + 1) f fd ps.length ps sp := by
  obtain ⟨oc, od, dV, kV, doc, pm, an, cdv, ct, osl, rfl, lk, hcd, _, _⟩ := F.ex
  refine ⟨len, fun A outer s H args us vs Q E hr hg e0 hb r hsp => ?_⟩
  have KX : K.In s.heap := e0.mod.kin.keeps fun b o e => (e0.bs b o e).1
  have lim : s.heap.NoLimit := e0.mod.nolimit.keeps fun b o e => (e0.bs b o e).1
  refine codeAny_call_function hr.depth (KX _ _ lk) rfl S.co S.gen rfl (PySem.W.codeRec_of KX hcd) (hb _ _ _ _ ?_)
  refine wpAny_newFunctionEnv_cells S.kind (fun ⟨n, v⟩ hy => (S.par n (List.of_mem_zip hy).1).imp id fun q => ⟨q, PySem.W.cellsFrom_some _ _ _ (.inl q)⟩) fun env he s1 hx => ?_
  subst he
  refine ⟨lim.keeps hx.toInCall.keep, codeAny_func ?_⟩
  obtain ⟨t, ht, hq⟩ := hbody cdv A outer s H vs Q E rfl (hr.deeper _) hg hsp
  have I := inv_start (CX := L2.CX P w) (E := E) S hr.hd e0 (len _ _ _ _ hsp) r hx
  refine wpAny_mono (ht.run [] s1 (start N vs) H _ I hq) (fun fl s' hs => ?_) fun e s' hs => hs
  have back : ∀ {v : V} {u : Value} {σ' : L2.St} {H' : Hp}, RelV v u → Inv (cxOf (L2.CX P w) P w K mg base N qual sc f cdv A outer s H E) [] σ' H' s' → Q v H' → CE outer P w H s Q u s' := fun rv J q => ⟨_, _, J.os, J.bare, J.base, J.hok, rv, q⟩
  cases fl with
  | ret u => obtain ⟨v, σ', H', J, rv, q⟩ := hs; exact back rv J q
  | next => obtain ⟨σ', H', J, q⟩ := hs; exact back (v := V.non) (u := Value.none) rfl J q
  | brk => exact hs.elim fun _ h => h.elim fun _ h => h.2.elim
  | cont => exact hs.elim fun _ h => h.elim fun _ h => h.2.elim

/-- a def of the text, seen from a caller -/
structure Cal0 (P : Program) (w : World) (K : PySem.W.Frag) (mg : Str → Option Value) (base : Heap) (x : Str) (lv : Nat) (sp : Sp) (f : Addr) (fd : FuncData) (ps : List Str) : Prop where
  fn : FnG P w K mg base lv f fd ps.length ps sp
  gl : mg x = some (.ref f)
  kp : PySem.W.keepIn K (.ref f) = true
  bd : Binds K fd ps []
def CalS (P : Program) (w : World) (K : PySem.W.Frag) (mg : Str → Option Value) (base : Heap) (x : Str) (lv : Nat) (sp : Sp) : Prop := ∃ f fd ps, Cal0 P w K mg base x lv sp f fd ps
theorem run_fng {X : Cx} {k : Nat} {sp : Sp} {E : XK} {f : Addr} {fd : FuncData} {n : Nat} {ps : List Str} {pins : List (Addr × Obj)} {σ : L2.St} {H : Hp} {s : Shared} {Q : VK} {us : List Value} {vs : List V} (F : FnG X.prog X.w X.K X.mg X.base k f fd n ps sp) (hr : Room k X.A) (hg : X.A.guards = some []) (hb : Binds X.K fd ps []) (hx : Passes (L2.CX X.prog X.w) X E)
    (I : Inv X pins σ H s) (r : Vals vs us) (h : sp vs H Q E) : wpAny (model X.prog X.w) X.A (call (.ref f) us) (EP X pins σ Q) X.xe s := by
  have hl : us.length = ps.length := r.length.symm.trans (F.len _ _ _ _ h)
  have b := hb s us I.kIn ((congrArg List.length (List.append_nil us)).trans hl)
  rw [List.append_nil] at b
  refine wpAny_call (codeAny_mono (F.run X.A X.stack s H ⟨us, []⟩ us vs Q E hr hg I.env0 b r h) fun q s' hq => ?_)
  match q, hq with
  | .error e, hq => exact hx pins σ H s e s' I hq
  | .ok (.ret u), hq => exact I.after hq
theorem pe_callG {X : Cx} {k : Nat} {sp : Sp} {E : XK} {x : Str} {p pos : Pos} {e : Expr} {es : List Expr} {t : TA} (c : CalS X.prog X.w X.K X.mg X.base x k sp) (hr : Room k X.A) (hgd : X.A.guards = some []) (hg : Gl X x) (hx : Passes (L2.CX X.prog X.w) X E) (ha : PA X (e :: es) t) (hdb : (x == ("__debug__" : Str)) = false)
    (h1 : starEach (e :: es) X.env = (false, eval e X.env) :: starEach es X.env) (h2 : (backTo pos (starEach es X.env)).any (·.1) = false) : PE X (.Call (.Name x p) (e :: es) [] pos) (tCall sp [] E t) := by
  obtain ⟨f, fd, ps, F, gl, kp, bd⟩ := c
  refine ⟨fun pins s σ H Q I h => wpAny_Call_Name_kw (ld_glob I hg gl (PySem.W.callWith_K (h₀ := X.base) I.ok.mod.kin kp (thn (ha.run pos pins s σ H _ I h) fun us s1 ⟨vs, H1, I1, r, q⟩ => ⟨I1.kIn, ?_⟩) h1 h2) hdb)⟩
  have q : sp (vs ++ []) H1 Q E := q
  rw [List.append_nil] at q
  exact run_fng F hr hgd bd hx I1 r q

/-! the promise of a def by what it tells of data -/
structure DrOk (dr : Option (Addr × Addr × Addr)) (tb : List (Addr × Str)) (H : Hp) : Prop where
  dr : ∀ d l c, dr = some (d, l, c) → DrawAt H d l c
  tb : LamX.Tabs tb H
theorem R.drOk {K : PySem.W.Frag} {C : Ctx} {M : Mk} {σ : L2.St} {H : Hp} {env : List Slot} (r : R K C M σ H env) : DrOk C.dr C.tb H := ⟨fun d l c e => (r.drw d l c e).1, r.tab⟩
/-- an error at the heap -/
def ExDen (K : PySem.W.Frag) (M : Mk) (e : Exn) (cls : Value) (d : Option Addr) (H : Hp) : Prop := cls = .ref (He.ga K e.cls) ∧ ExF K M H e d
abbrev Spec := List Slot → W PyData
/-- ok: which tables are kept -/
def spOfB (K : PySem.W.Frag) (ok : List (Addr × Str) → Prop) (n : Nat) (m : Spec) : Sp := fun vs H Q E => ∃ (M0 : Mk) (dr : Option (Addr × Addr × Addr)) (tb : List (Addr × Str)) (args : List Slot) (P : PyData → Prop) (er : Exn → Prop),
  vs.length = n ∧ R K ⟨H, M0, dr, [], tb⟩ M0 (vs.map some) H args ∧ ok tb ∧ m args P er ∧
  (∀ v H' d, Kept (Ctx.X0 ⟨H, M0, dr, [], tb⟩) H H' → DrOk dr tb H' → Den K M0 H' d v → P d → Q v H') ∧
  (∀ e cls d H', er e → Kept (Ctx.X0 ⟨H, M0, dr, [], tb⟩) H H' → DrOk dr tb H' → ExDen K M0 e cls d H' → E cls d H')
abbrev spOf (K : PySem.W.Frag) (n : Nat) (m : Spec) : Sp := spOfB K (fun _ => True) n m
abbrev CalB (P : Program) (w : World) (K : PySem.W.Frag) (mg : Str → Option Value) (base : Heap) (ok : List (Addr × Str) → Prop) (x : Str) (lv n : Nat) (m : Spec) : Prop := CalS P w K mg base x lv (spOfB K ok n m)
abbrev Cal (P : Program) (w : World) (K : PySem.W.Frag) (mg : Str → Option Value) (base : Heap) (x : Str) (lv n : Nat) (m : Spec) : Prop := CalS P w K mg base x lv (spOf K n m)
/-- what an error that leaves from where C is -/
def ErOk (K : PySem.W.Frag) (er : Exn → Prop) (E : XK) (C : Ctx) : Prop := ∀ e cls d H', er e → Kept C.X0 C.H0 H' → DrOk C.dr C.tb H' → ExDen K C.M0 e cls d H' → E cls d H'
/-- the boundary of a def's body -/
def bdOf (K : PySem.W.Frag) (ok : List (Addr × Str) → Prop) (er : Exn → Prop) (E : XK) : Bd where
  er := er
  ok := fun C => ok C.tb ∧ ErOk K er E C
  st := fun _ _ h => h
def bodyW (N : Nat) (fb : WS) : Spec := fun args P er => fb ⟨fun _ => P .none, fun _ d => P d, fun _ => False, fun _ => False, er⟩ (args ++ List.replicate (N - args.length) .un)
theorem R.start {K : PySem.W.Frag} {C : Ctx} {M : Mk} {vs : List V} {H : Hp} {args : List Slot} (r : R K C M (vs.map some) H args) (N : List Str) (h : vs.length ≤ N.length) : R K C M (L2.start N vs) H (args ++ List.replicate (N.length - args.length) .un) := by
  have hl : args.length = vs.length := by have := r.len; rwa [List.length_map] at this
  have at1 : ∀ {i : Nat} {s : Slot}, (args ++ List.replicate (N.length - args.length) Slot.un)[i]? = some s → (i < args.length ∧ args[i]? = some s) ∨ s = .un := fun {i s} e => by
    by_cases hi : i < args.length
    · rw [List.getElem?_append_left hi] at e; exact .inl ⟨hi, e⟩
    · rw [List.getElem?_append_right (by omega), List.getElem?_replicate] at e
      split at e
      · cases e; exact .inr rfl
      · cases e
  have at2 : ∀ {i : Nat}, i < args.length → (L2.start N vs)[i]? = (vs.map some)[i]? := fun {i} hi => by
    unfold L2.start
    rw [List.getElem?_append_left (by rw [List.length_map]; omega)]
  refine ⟨r.ext, r.m0, r.mn, r.ok, r.drw, by unfold L2.start; simp; omega, fun i s o e1 e2 => ?_, fun i j a ⟨xs, e1, e2⟩ ⟨ys, g1, g2⟩ => ?_, r.hid, r.tab, r.tbm⟩
  · rcases at1 e1 with ⟨hi, e⟩ | rfl
    · rw [at2 hi] at e2; exact r.slot i s o e e2
    · trivial
  · rcases at1 e1 with ⟨hi, e⟩ | e
    · rcases at1 g1 with ⟨hj, g⟩ | g
      · rw [at2 hi] at e2; rw [at2 hj] at g2
        exact r.sep i j a ⟨xs, e, e2⟩ ⟨ys, g, g2⟩
      · cases g
    · cases e

/-- what the rules ask of where they stand -/
structure Cf (X : Cx) (B : Bd) (N : List Str) (sc : Scope) (lv : Nat) : Prop where
  n : X.N = N
  scope : X.env.scope = sc
  nd : X.N.Nodup
  calm : X.calm = true
  room : Room lv X.A
  gd : X.A.guards = some []
  ps : PassesOwn (model X.prog X.w) X.A X.env X.xe
  pass : ∃ E, Passes (L2.CX X.prog X.w) X E ∧ (∀ C, B.ok C → ErOk X.K B.er E C) ∧ Takes X (fun cls d _ H => E cls d H)
theorem blk_pass {X : Cx} {s : Shared} {H : Hp} {scope : Scope} {env : Env} {fp : List Addr} : Passes (L2.CX X.prog X.w) (X.blk s H scope env fp) (fun _ _ _ => False) := fun _ _ _ _ _ _ _ ⟨_, _, _, _, _, _, _, _, _, _, _, _, z⟩ => z
theorem Cf.blk {X : Cx} {B : Bd} {N : List Str} {sc : Scope} {lv : Nat} (c : Cf X B N sc lv) (scope : Scope) (s : Shared) (H : Hp) (C : Addr) (cl : List (Str × Addr)) (fp : List Addr) : Cf (X.blk s H scope (PySem.compEnvC scope cl C X.env) fp) B0 N (relS scope sc) lv where
  n := c.n
  scope := by rw [← c.scope]; rfl
  nd := c.nd
  calm := c.calm
  room := c.room
  gd := c.gd
  ps := PassesOwn.never
  pass := ⟨_, blk_pass, fun _ _ _ _ _ _ z => z.elim, LamX.takes0⟩
theorem Cf.u1 {X : Cx} {B : Bd} {N : List Str} {sc : Scope} {lv : Nat} (c : Cf X B N sc lv) : X.A.units + 1 < cLine := by have := c.room.un; omega
/-- a def's body keeps its promise by what its rules tell -/
theorem cal_ofB {ok : List (Addr × Str) → Prop} {P : Program} {w : World} {K : PySem.W.Frag} {mg : Str → Option Value} {base : Heap} {k : Nat} {f : Addr} {x qual : Str} {pr : Arguments} {body : List Stmt} {sc : Scope} {dvs : List V} {kws : List (Str × V)} {fd : FuncData} {N ps : List Str} {fb : WS} {spec : Spec} (F : FunD K x qual pr body sc dvs kws f fd) (gl : mg x = some (.ref f)) (S : FnScope N ps sc) (bd : Binds K fd ps [])
    (hz : ps.length ≤ N.length) (der : ∀ (X : Cx) (B : Bd), X.prog = P → X.w = w → X.K = K → X.mg = mg → X.base = base → (∀ y, X.fn y = true) → Cf X B N sc k → (∀ C, B.ok C → ok C.tb) → X.env.qual = qual ++ ".<locals>." → X.env.code = fd.code → SDs X B body fb)
    (sem : ∀ args P er, spec args P er → bodyW N.length fb args P er) : CalB P w K mg base ok x (k + 1) ps.length spec := by
  refine ⟨f, fd, ps, fng_of F S (fun vs H Q E h => ?_) (fun cdv A outer s H vs Q E hcd hr hg h => ?_), gl, F.kp, bd⟩
  · obtain ⟨_, _, _, _, _, _, h, _⟩ := h; exact h
  · obtain ⟨M0, dr, tb, args, Pp, er, hl, r, htb, hm, k1, k2⟩ := h
    have tk := takes_of (X := cxOf (L2.CX P w) P w K mg base N qual sc f cdv A outer s H E) (E := E) rfl rfl rfl rfl
    refine ⟨_, der _ (bdOf K ok er E) rfl rfl rfl rfl rfl (fun _ => rfl) ⟨rfl, rfl, S.nd, rfl, hr, hg, passes_of rfl, E, passes_call tk fun _ _ _ _ h => h, fun C ok => ok.2, tk⟩ (fun C h => h.1) rfl hcd.symm, ?_⟩
    exact ⟨⟨H, M0, dr, [], tb⟩, _, M0, _, _, _, _, r.start N (by rw [hl]; exact hz), ⟨htb, k2⟩, sem _ _ _ hm, fun M' σ' H' env' r' q => k1 .non H' .none r'.ext r'.drOk (by simp [Den]) q,
      fun M' σ' v H' env' d r' de q => k1 v H' d r'.ext r'.drOk de q, fun _ _ _ _ _ q => q, fun _ _ _ _ _ q => q⟩
theorem cal_of {P : Program} {w : World} {K : PySem.W.Frag} {mg : Str → Option Value} {base : Heap} {k : Nat} {f : Addr} {x qual : Str} {pr : Arguments} {body : List Stmt} {sc : Scope} {dvs : List V} {kws : List (Str × V)} {fd : FuncData} {N ps : List Str} {fb : WS} {spec : Spec} (F : FunD K x qual pr body sc dvs kws f fd) (gl : mg x = some (.ref f)) (S : FnScope N ps sc) (bd : Binds K fd ps [])
    (hz : ps.length ≤ N.length) (der : ∀ (X : Cx) (B : Bd), X.prog = P → X.w = w → X.K = K → X.mg = mg → X.base = base → (∀ y, X.fn y = true) → Cf X B N sc k → SDs X B body fb)
    (sem : ∀ args P er, spec args P er → bodyW N.length fb args P er) : Cal P w K mg base x (k + 1) ps.length spec := cal_ofB F gl S bd hz (fun X B h1 h2 h3 h4 h5 h6 h7 _ _ _ => der X B h1 h2 h3 h4 h5 h6 h7) sem
section
variable {X : Cx} {B : Bd} {f : Fl} {N : List Str} {sc : Scope} {lv : Nat} {x : Str} {p pos : Pos} {e : Expr} {es : List Expr}
/-- a call of a def of the text -/
def dCall (n : Nat) (spec : Spec) (ml : List Slot → W (List PyData)) : List Slot → W PyData := fun env P E => ml env (fun ds => ds.length = n ∧ spec (ds.map .d) P E) E
theorem denL_slots {K : PySem.W.Frag} {C : Ctx} {M : Mk} {H : Hp} : ∀ {ds : List PyData} {vs : List V}, DenL K M H ds vs → ∀ (i : Nat) s o, (ds.map Slot.d)[i]? = some s → (vs.map some)[i]? = some o → SlotOk K C M H o s := fun {ds vs} h i s o e1 e2 => by
  rw [List.getElem?_map] at e1 e2
  cases q : vs[i]? with
  | none => rw [q] at e2; simp at e2
  | some v =>
    obtain ⟨d, g1, g2⟩ := h.get q
    rw [q] at e2; rw [g1] at e1
    simp at e1 e2
    subst e1; subst e2
    exact ⟨v, rfl, g2⟩
theorem noL {ds : List PyData} {σ : L2.St} {i : Nat} {a : Addr} : ¬ Owns σ (ds.map Slot.d) i a := fun ⟨xs, e, _⟩ => by
  rw [List.getElem?_map] at e
  cases q : ds[i]? with
  | none => rw [q] at e; simp at e
  | some d => rw [q] at e; simp at e
theorem x0_tb {H : Hp} {M M' : Mk} {dr : Option (Addr × Addr × Addr)} {hid : List (PyData × V)} {tb : List (Addr × Str)} {H' : Hp} {a : Addr} (h : Ctx.X0 ⟨H, M, none, [], tb⟩ a) : Ctx.X0 ⟨H', M', dr, hid, tb⟩ a := by
  rcases h with ⟨_, _, _, z, _⟩ | h
  · cases z
  · exact .inr h
/-- behind a call that hands tables on, not the draws -/
theorem R.call {K : PySem.W.Frag} {C : Ctx} {M : Mk} {σ : L2.St} {H H' H1 : Hp} {env : List Slot} {M1 : Mk} (r : R K C M σ H env) (k : Kept (Ctx.X0 ⟨H1, M1, none, [], C.tb⟩) H H') (t : LamX.Tabs C.tb H') : Kept C.X0 H H' ∧ R K C M σ H' env := by
  have kx : Kept C.X0 H H' := k.anti fun a z => x0_tb (H' := C.H0) (M' := C.M0) (dr := C.dr) (hid := C.hid) z
  refine ⟨kx, r.step kx (fun d l c e => ?_) t⟩
  obtain ⟨ne, ⟨x, y, e1⟩, ⟨ns, e2⟩, ⟨ms, e3, z⟩⟩ := (r.drw d l c e).1
  have no : ∀ a o, H a = some o → (∀ ps, o ≠ .tbl ps) → ¬ Ctx.X0 ⟨H1, M1, none, [], C.tb⟩ a := fun a o q nt z => by
    rcases z with ⟨_, _, _, z, _⟩ | ⟨p, hp, rfl⟩
    · cases z
    · obtain ⟨ps, q1, _⟩ := r.tab p hp
      rw [q] at q1; exact nt ps (Option.some.inj q1)
  exact ⟨ne, ⟨x, y, k _ _ e1 (no _ _ e1 fun ps z => by cases z)⟩, ⟨ns, k _ _ e2 (no _ _ e2 fun ps z => by cases z)⟩, ⟨ms, k _ _ e3 (no _ _ e3 fun ps z => by cases z), z⟩⟩
theorem ExF.mk {K : PySem.W.Frag} {M M' : Mk} {H : Hp} (k : ∀ a xs, H a = some (.lst xs) → ¬ M a → ¬ M' a) {e : Exn} {d : Option Addr} (h : ExF K M H e d) : ExF K M' H e d := by
  rcases h with h | ⟨dd, vs, h1, h2, h3⟩
  · exact .inl h
  · exact .inr ⟨dd, vs, h1, h2, h3.mk k⟩
theorem tOf_call {ok : List (Addr × Str) → Prop} {K : PySem.W.Frag} {E : XK} {n : Nat} {spec : Spec} {ml : List Slot → W (List PyData)} (hf : f.sw = true) (hE : ∀ C, B.ok C → ErOk K B.er E C) (hok : ∀ C, B.ok C → ok C.tb) :
    ∀ σ H Q, tOf K B f (dCall n spec ml) σ H Q → tCall (spOfB K ok n spec) [] E (taOf K B f ml) σ H Q := fun σ H Q ⟨C, env, M, P, r, bo, hm, kk⟩ => by
  refine ⟨C, env, M, _, r, bo, hm, fun vs H1 ds k1 r1 dl ⟨hl, pp⟩ => ?_⟩
  show spOfB K ok n spec (vs ++ []) H1 Q E
  rw [List.append_nil]
  have m0 : ∀ a, C.M0 a → f.mk C M a := fun a h => by cases f <;> first | exact h | exact r1.m0 a h
  have mm : MOk (f.mk C M) H1 := (mk_sub (f := f) r1 .refl).2
  refine ⟨f.mk C M, none, C.tb, ds.map .d, P, B.er, by rw [dl.length, hl], ⟨.refl, fun a h => h, fun a h => .inl h, mm, fun d l c z => (nomatch z), by simp [dl.length], denL_slots dl, fun i j a h _ => (noL h).elim, fun p hp => (nomatch hp), r1.tab, fun p hp => m0 _ (r1.tbm p hp)⟩, hok C bo, pp, fun v H' d k2 dk de pd => ?_, fun e cls d H' he k2 dk ex => ?_⟩
  · obtain ⟨k3, r3⟩ := r1.call k2 dk.tb
    exact kk v H' d (k1.trans k3) r3 ((denF_mk hf).mpr de) pd
  · obtain ⟨k3, r3⟩ := r1.call k2 dk.tb
    refine hE C bo e cls d H' he r3.ext r3.drOk ⟨ex.1, ex.2.mk fun a xs _ h z => h (m0 a z)⟩
theorem pd_call {n k : Nat} {spec : Spec} {ml : List Slot → W (List PyData)} (cf : Cf X B N sc lv) (hf : f.sw = true) (c : Cal X.prog X.w X.K X.mg X.base x k n spec) (hk : k ≤ lv) (hg : Gl X x) (q : PL X B f (e :: es) ml) (hdb : (x == ("__debug__" : Str)) = false)
    (h1 : starEach (e :: es) X.env = (false, eval e X.env) :: starEach es X.env := by rfl) (h2 : (backTo pos (starEach es X.env)).any (·.1) = false := by rfl) :
    PD X B f (.Call (.Name x p) (e :: es) [] pos) (dCall n spec ml) := by
  obtain ⟨E, hp, hE, _⟩ := cf.pass
  exact pe_imp (pe_callG c (cf.room.mono hk) cf.gd hg hp q hdb h1 h2) (tOf_call hf hE fun _ _ => trivial)
/-- a call of what a local name holds, one of two defs -/
def dCallF (i n : Nat) (a1 a2 : Addr) (s1 s2 : Spec) (ml : List Slot → W (List PyData)) : List Slot → W PyData := fun env P E => ∃ b : Bool, env[i]? = some (.fn (if b = true then a1 else a2)) ∧ dCall n (if b = true then s1 else s2) ml env P E
theorem pd_callF {n k1 k2 i : Nat} {y1 y2 : Str} {a1 a2 : Addr} {s1 s2 : Spec} {ml : List Slot → W (List PyData)} (cf : Cf X B N sc lv) (hf : f.sw = true) (c1 : Cal X.prog X.w X.K X.mg X.base y1 k1 n s1) (c2 : Cal X.prog X.w X.K X.mg X.base y2 k2 n s2) (g1 : X.mg y1 = some (.ref a1)) (g2 : X.mg y2 = some (.ref a2))
    (hk1 : k1 ≤ lv) (hk2 : k2 ≤ lv) (hy : PE X (.Name x p) (tVar i)) (q : PL X B f (e :: es) ml)
    (h1 : starEach (e :: es) X.env = (false, eval e X.env) :: starEach es X.env := by rfl) (h2 : (backTo pos (starEach es X.env)).any (·.1) = false := by rfl) :
    PD X B f (.Call (.Name x p) (e :: es) [] pos) (dCallF i n a1 a2 s1 s2 ml) := by
  obtain ⟨E, hp, hE, _⟩ := cf.pass
  have go : ∀ {k : Nat} {y : Str} {a : Addr} {spec : Spec} {pins : List (Addr × Obj)} {s : Shared} {σ : L2.St} {H : Hp} {Q : VK}, Cal X.prog X.w X.K X.mg X.base y k n spec → X.mg y = some (.ref a) → k ≤ lv → L2.Inv X pins σ H s → σ[i]? = some (some (V.ref a)) → tOf X.K B f (dCall n spec ml) σ H Q →
      wpAny (model X.prog X.w) X.A (eval (.Call (.Name x p) (e :: es) [] pos) X.env) (EP X pins σ Q) X.xe s := fun {k y a spec pins s σ H Q} c g hk I hs t => by
    obtain ⟨f', fd, ps, F, gl, kp, bd⟩ := c
    rw [g] at gl; cases gl
    refine wpAny_Call_Name_kw (thn (hy.run pins s σ H (fun v H1 => v = .ref a ∧ H1 = H) I ⟨V.ref a, hs, rfl, rfl⟩) ?_)
    rintro u s1 ⟨v, H1, I1, rv, rfl, rfl⟩
    cases rv
    refine PySem.W.callWith_K (h₀ := X.base) I.ok.mod.kin kp (thn (q.run pos pins s1 σ _ _ I1 (tOf_call (ok := fun _ => True) hf hE (fun _ _ => trivial) σ _ Q t)) ?_) h1 h2
    rintro us s2 ⟨vs, H2, I2, rr, qq⟩
    have qq : spOf X.K n spec (vs ++ []) H2 Q E := qq
    rw [List.append_nil] at qq
    exact ⟨I2.kIn, run_fng F (cf.room.mono hk) cf.gd bd hp I2 rr qq⟩
  constructor
  rintro pins s σ H Q I ⟨C, env, M, P, r, bo, ⟨b, hb, hm⟩, kk⟩
  obtain ⟨o, e1, e2⟩ := r.at hb
  have e2 : o = some (V.ref _) := e2
  subst e2
  cases b with
  | true => exact go c1 g1 hk1 I e1 ⟨C, env, M, P, r, bo, hm, kk⟩
  | false => exact go c2 g2 hk2 I e1 ⟨C, env, M, P, r, bo, hm, kk⟩
/-- a call that hands the draws on -/
def dCallD (n : Nat) (i : Nat) (spec : Spec) (ml : List Slot → W (List PyData)) : List Slot → W PyData := fun env P E => env[i]? = some .dr ∧ ml env (fun ds => ds.length + 1 = n ∧ spec (.dr :: ds.map .d) P E) E
theorem pd_callD {n k i : Nat} {y : Str} {p2 : Pos} {spec : Spec} {ml : List Slot → W (List PyData)} (cf : Cf X B N sc lv) (c : Cal X.prog X.w X.K X.mg X.base x k n spec) (hk : k ≤ lv) (hg : Gl X x) (hy : PE X (.Name y p2) (tVar i)) (q : PL X B .s es ml) (hdb : (x == ("__debug__" : Str)) = false)
    (h1 : starEach (.Name y p2 :: es) X.env = (false, eval (.Name y p2) X.env) :: starEach es X.env := by rfl) (h2 : (backTo pos (starEach es X.env)).any (·.1) = false := by rfl) :
    PD X B .s (.Call (.Name x p) (.Name y p2 :: es) [] pos) (dCallD n i spec ml) := by
  obtain ⟨E, hp, hE, _⟩ := cf.pass
  refine pe_imp (pe_callG c (cf.room.mono hk) cf.gd hg hp (pa_cons hy q h1) hdb h1 h2) fun σ H Q ⟨C, env, M, P, r, bo, ⟨hd, hm⟩, kk⟩ => ?_
  obtain ⟨o, e1, d, l, c', hdr, e2⟩ := r.at hd
  subst e2
  refine ⟨V.ref d, e1, C, env, M, _, r, bo, hm, fun vs H1 ds k1 r1 dl ⟨hl, pp⟩ => ?_⟩
  show spOf X.K n spec ((V.ref d :: vs) ++ []) H1 Q E
  rw [List.append_nil]
  have hx : Ctx.X0 ⟨H1, M, C.dr, [], C.tb⟩ = C.X0 := rfl
  have no : ∀ (ds : List PyData) {σ : L2.St} {i : Nat} {a : Addr}, ¬ Owns σ (Slot.dr :: ds.map Slot.d) i a := fun ds {σ i a} ⟨xs, e, _⟩ => by
    cases i with
    | zero => simp at e
    | succ i =>
      rw [List.getElem?_cons_succ, List.getElem?_map] at e
      cases q : ds[i]? with
      | none => rw [q] at e; simp at e
      | some d => rw [q] at e; simp at e
  refine ⟨M, C.dr, C.tb, .dr :: ds.map .d, P, B.er, by simp [dl.length, hl], ⟨.refl, fun a h => h, fun a h => .inl h, r1.ok, fun d l c z => ?_, by simp [dl.length], fun j s o e1 e2 => ?_, fun i j a h _ => (no ds h).elim, fun p hp => (nomatch hp), r1.tab, fun p hp => r1.m0 _ (r1.tbm p hp)⟩, trivial, pp, fun v H' d k2 dk de pd => ?_, fun e cls d H' he k2 dk ex => ?_⟩
  · obtain ⟨g1, g2, g3, g4⟩ := r1.drw d l c z
    exact ⟨g1, r1.m0 _ g2, g3, r1.m0 _ g4⟩
  · cases j with
    | zero => simp at e1 e2; subst e1; subst e2; exact ⟨d, l, c', hdr, rfl⟩
    | succ j => exact denL_slots (C := ⟨H1, M, C.dr, [], C.tb⟩) dl j s o (by simpa using e1) (by simpa using e2)
  · exact kk v H' d (k1.trans k2) (r1.step k2 dk.dr dk.tb) de pd
  · exact hE C bo e cls d H' he (r1.ext.trans k2) dk ⟨ex.1, ex.2.mk fun a xs _ h z => h (r1.m0 a z)⟩
/-- only the draws are handed on -/
theorem pl_nil' : PL X B .s [] dNil := pl_nil
end
/-! names -/
def nmB (N : List Str) (sc : Scope) (i : Nat) (x : Str) : Bool := decide (N[i]? = some x) && (match sc.names.lookup x with
  | some .local => true
  | some .cell => true
  | some .free => true
  | _ => false) && decide ((x == ("__debug__" : Str)) = false) && decide ((x == ("__classdict__" : Str)) = false)
theorem nm {X : Cx} {B : Bd} {N : List Str} {sc : Scope} {lv : Nat} (c : Cf X B N sc lv) {x : Str} {p : Pos} (i : Nat) (h : nmB N sc i x = true) : PE X (.Name x p) (tVar i) := by
  unfold nmB at h
  simp only [Bool.and_eq_true, decide_eq_true_eq] at h
  obtain ⟨⟨⟨h1, h2⟩, h3⟩, h4⟩ := h
  refine pe_var (by rw [c.n]; exact h1) ?_ h3 h4
  unfold Vis
  rw [c.scope]
  split at h2 <;> first | exact .inl (by assumption) | exact .inr (.inl (by assumption)) | exact .inr (.inr (by assumption)) | cases h2
def stB (N : List Str) (sc : Scope) (i : Nat) (x : Str) : Bool := decide (N[i]? = some x) && (match sc.names.lookup x with
  | some .local => true
  | some .cell => true
  | _ => false)
theorem st_of {X : Cx} {B : Bd} {N : List Str} {sc : Scope} {lv : Nat} (c : Cf X B N sc lv) {x : Str} (i : Nat) (h : stB N sc i x = true) : X.N[i]? = some x ∧ Loc X.env.scope x := by
  unfold stB at h
  simp only [Bool.and_eq_true, decide_eq_true_eq] at h
  obtain ⟨h1, h2⟩ := h
  refine ⟨by rw [c.n]; exact h1, ?_⟩
  unfold L2.Loc
  rw [c.scope]
  split at h2 <;> first | exact .inl (by assumption) | exact .inr (by assumption) | cases h2
def locB (sc : Scope) (x : Str) : Bool := decide (sc.names.lookup x = some .local)
theorem loc_of {X : Cx} {B : Bd} {N : List Str} {sc : Scope} {lv : Nat} (c : Cf X B N sc lv) {x : Str} (h : locB sc x = true) : X.env.scope.names.lookup x = some .local := by
  rw [c.scope]
  exact of_decide_eq_true h
def glB (sc : Scope) (x : Str) : Bool := decide (sc.names.lookup x = some .globalImplicit)
theorem gl {X : Cx} {B : Bd} {N : List Str} {sc : Scope} {lv : Nat} (c : Cf X B N sc lv) {x : Str} (h : glB sc x = true) : Gl X x := by
  show X.env.scope.names.lookup x = some .globalImplicit
  rw [c.scope]
  exact of_decide_eq_true h
end MT
end

section
set_option maxRecDepth 100000
set_option maxHeartbeats 4000000
namespace MT
open PySem PySem.Spec PyProof.Rows L2
theorem tuple_mul1 (l : Addr) (items : Array Value) (n : Nat) (dd : Option Addr) (sl : Array (Option Value)) (u : Tok) :
    Meets (Builtin.«tuple.__mul__» ⟨[.ref l, .int 1 u], []⟩) (fun _ R s => s.heap.get? l = some { cls := .type "tuple", dict := dd, data := .seq items n, slots := sl } ∧
      R (.ok (.ret (Value.ref l))) s) :=
  .of_wp fun prog w A R s h => by
    obtain ⟨hp, g, d, tk, os⟩ := s
    obtain ⟨hl, h⟩ := h
    have f1 := AutoSeq1.idx_int
    have c1 : (items.isEmpty || (1 : Int) == 1) = true := by simp
    wp_walk using wpAny_loadPart' hl
    repeat (first
      | (refine wpAny_ite_false (by decide) ?_; wp_walk using wpAny_loadPart' hl)
      | (refine wpAny_ite_true (by simp) ?_; wp_walk using wpAny_loadPart' hl))
    exact ⟨_, rfl, h⟩
theorem tuple_mul0 (l : Addr) (items : Array Value) (n : Nat) (dd : Option Addr) (sl : Array (Option Value)) (x : Int) (u : Tok) (c0 : (decide (x < -(2 ^ 63)) || decide (x ≥ 2 ^ 63)) = false) (c1 : (items.isEmpty || x == 1) = false) (c2 : (decide (x ≤ 0) || items.isEmpty) = true) :
    Meets (Builtin.«tuple.__mul__» ⟨[.ref l, .int x u], []⟩) (fun _ R s => s.heap.get? l = some { cls := .type "tuple", dict := dd, data := .seq items n, slots := sl } ∧
      R (.ok (.ret (Value.ref s.heap.objs.size))) { s with heap := s.heap.push { cls := Value.type "tuple", data := Data.seq #[] }, toks := s.toks }) :=
  .of_wp fun prog w A R s h => by
    obtain ⟨hp, g, d, tk, os⟩ := s
    obtain ⟨hl, h⟩ := h
    have f1 := AutoSeq1.idx_int
    wp_walk using wpAny_loadPart' hl
    repeat (first
      | (refine wpAny_ite_false (decide_eq_false (by rw [c0]; exact Bool.false_ne_true)) ?_; wp_walk using wpAny_loadPart' hl)
      | (refine wpAny_ite_false (decide_eq_false (by rw [c1]; exact Bool.false_ne_true)) ?_; wp_walk using wpAny_loadPart' hl)
      | (refine wpAny_ite_true (decide_eq_true c2) ?_; wp_walk using wpAny_loadPart' hl))
    exact ⟨_, rfl, h⟩
section
variable {X : Cx}
/-- xs * 1, xs * 0 -/
def rRep1 (K : PySem.W.Frag) : R2 := fun x y H Q => ∃ l k xs, x = .ref l ∧ y = .int k ∧ SqT K H l xs ∧ xs ≠ [] ∧ -(2 ^ 63) ≤ k ∧ k ≤ 1 ∧ (k = 1 → Q (.ref l) H) ∧ (k ≤ 0 → NewT [] Q H)
theorem op_rep1 : OpR X (binaryOp .Mult) (rRep1 X.K) := by
  rintro pins s σ H x y v u Q I rx ry ⟨l, k, xs, rfl, rfl, hT, hne, h1, h2, q1, q0⟩
  cases rx
  obtain ⟨t, rfl⟩ := ry
  obtain ⟨its, r, ⟨⟨cls, dd, data, sl⟩, ho, hc, n, hd⟩, hs⟩ := I.tuple hT
  simp only at hc hd
  subst hc hd
  have hn : its ≠ [] := fun z => hne (r.nil_iff.mp z)
  have hi : its.toArray.isEmpty = false := by
    cases its with
    | nil => exact absurd rfl hn
    | cons _ _ => rfl
  refine wpAny_binaryOp_repeat_ref (T := "tuple") (U := "int") (by decide) ⟨_, ho, rfl⟩ (fun s' => typeIs_int s' k t) noFill_tuple_mul F.fills_int_mul F.slot_int_rmul repeat_tuple F.slot_int_index.lookup ?_
  refine call_meets F.slot_int_rmul (typeIs_int s k t) F.entry_int_rmul (F.args_int_rmul_2 _ _) (int_rmul_tuple k t l its.toArray n dd sl) ⟨ho, rfl, ⟨_, ho, rfl⟩, ?_⟩
  by_cases e : k = 1
  · subst e
    exact call_meets F.slot_tuple_mul ⟨_, ho, rfl⟩ F.entry_tuple_mul (F.args_tuple_mul_2 _ _) (tuple_mul1 l its.toArray n dd sl t) ⟨ho, .ref l, H, I, rfl, q1 rfl⟩
  · have c0 : (decide (k < -(2 ^ 63)) || decide (k ≥ 2 ^ 63)) = false := by
      rw [decide_eq_false (by omega), decide_eq_false (by omega)] <;> rfl
    have c1 : (its.toArray.isEmpty || k == 1) = false := by
      rw [hi, Bool.false_or, beq_eq_false_iff_ne]
      omega
    have c2 : (decide (k ≤ 0) || its.toArray.isEmpty) = true := by
      rw [decide_eq_true (by omega)]; rfl
    refine call_meets F.slot_tuple_mul ⟨_, ho, rfl⟩ F.entry_tuple_mul (F.args_tuple_mul_2 _ _) (tuple_mul0 l its.toArray n dd sl k t c0 c1 c2) ⟨ho, ?_⟩
    exact layT (us := []) I (by constructor) (Nat.zero_le _) (q0 (by omega)) s.toks
end
end MT
end

section
set_option maxRecDepth 100000
set_option maxHeartbeats 4000000
namespace MT
open PySem PySem.Spec PyProof.Rows L2
/-! blocks -/
def blkB (N : List Str) (sc scope : Scope) (own : List (Str × Nat)) : Bool :=
  decide (scope.kind = .function) && scope.names.all (fun y => decide (scope.names.lookup y.1 = some y.2)) && own.all (fun p => decide (N[p.2]? = some p.1)) &&
  scope.names.all (fun y => !decide (y.2 = .free) || decide (sc.names.lookup y.1 = some .cell) || decide (sc.names.lookup y.1 = some .free)) &&
  scope.names.all (fun y => !(decide (y.2 = .local) || decide (y.2 = .cell)) || (own.map (·.1)).contains y.1 || !N.contains y.1)
theorem blk_of {X : Cx} {B : Bd} {N : List Str} {sc : Scope} {lv : Nat} (c : Cf X B N sc lv) {scope : Scope} {own : List (Str × Nat)} (h : blkB N sc scope own = true) : BlkOk X.N X.env.scope scope own := by
  unfold blkB at h
  simp only [Bool.and_eq_true, List.all_eq_true, decide_eq_true_eq, Bool.or_eq_true, Bool.not_eq_true', decide_eq_false_iff_not] at h
  obtain ⟨⟨⟨⟨h1, h2⟩, h3⟩, h4⟩, h5⟩ := h
  rw [c.n, c.scope]
  refine ⟨h1, h2, h3, fun y hy e => ?_, fun y hy e => ?_⟩
  · rcases h4 y hy with (z | z) | z
    · exact absurd e z
    · exact .inl z
    · exact .inr z
  · rcases h5 y hy with (z | z) | z
    · exact absurd e (by simpa using z)
    · exact .inl (by simpa using z)
    · exact .inr (by simpa using z)
theorem Cf.uD {X : Cx} {B : Bd} {N : List Str} {sc : Scope} {lv : Nat} (c : Cf X B N sc lv) : X.A.units + 65 < cLine := by have := c.room.un; omega
theorem Cf.u4 {X : Cx} {B : Bd} {N : List Str} {sc : Scope} {lv : Nat} (c : Cf X B N sc lv) : X.A.units + 64 < cLine := by have := c.room.un; omega
section
variable {X : Cx} {B : Bd} {f g h : Fl} {e a b c : Expr} {m ma mb mc : List Slot → W PyData} {pos p : Pos} {x : Str} {N : List Str} {sc : Scope} {lv : Nat}
/-! times -/
def oMul : O2
  | .int i, .int j => fun P _ => CMul i j ∧ P (.int (i * j))
  | .tuple ds, .int n => fun P _ => ds ≠ [] ∧ -(2 ^ 63) ≤ n ∧ n ≤ 10000 ∧ ds.length ≤ 1000 ∧ P (.tuple (repD ds n.toNat))
  | .list ds, .int n => fun P _ => -(2 ^ 63) ≤ n ∧ n < 2 ^ 63 ∧ ds.length * n.toNat ≤ sizeLine ∧ P (.list (repD ds n.toNat))
  | _, _ => fun _ _ => False
theorem od_mul {K : PySem.W.Frag} : OpD K B .o .o .s oMul (fun x y H Q => rI CMul (fun i j => .int (i * j)) x y H Q ∨ rRepF K x y H Q ∨ rRep1 K x y H Q ∨ rRep x y H Q) := by
  intro C M env σ H v u d e P Q r dv du hm k
  unfold oMul at hm
  split at hm
  · rw [den_int dv, den_int du]
    exact .inl ⟨_, _, rfl, rfl, hm.1, mk_at r rfl hm.2 k⟩
  · rename_i ds n
    obtain ⟨a, xs, rfl, h1, h2, h3⟩ := den_tup dv
    obtain ⟨n1, n2, n3, n4, hm⟩ := hm
    have hl := h3.length
    have hne : xs ≠ [] := by
      rintro rfl
      exact n1 (List.eq_nil_of_length_eq_zero hl.symm)
    by_cases c : 2 ≤ n
    rotate_left
    · refine .inr (.inr (.inl ⟨a, _, xs, rfl, den_int du, h1, hne, n2, by omega, fun e1 => ?_, fun e0 => ?_⟩))
      · subst e1
        have e : repD ds (1 : Int).toNat = ds := by
          show (List.replicate 1 ds).flatten = ds
          simp
        refine k _ H _ .refl r ?_ (by rw [e] at hm; exact hm)
        exact dv
      · have e : repD ds n.toNat = [] := by
          rw [show n.toNat = 0 by omega]
          rfl
        rw [e] at hm
        exact mk_tup r (by simp only [DenL]) (Nat.zero_le _) hm k
    refine .inr (.inl ⟨a, _, xs, rfl, den_int du, h1, hne, c, n3, by rw [hl]; exact n4, mk_tup r (denL_rep h3 _) ?_ hm k⟩)
    rw [flat_len, hl, sizeLine_eq]
    exact Nat.le_trans (Nat.mul_le_mul n4 (by omega : _ ≤ 10000)) (by decide)
  · obtain ⟨a, xs, rfl, g1, g2, g3⟩ := den_lst dv
    obtain ⟨b1, b2, b3, hm⟩ := hm
    rw [← g3.length] at b3
    rw [den_int du]
    exact .inr (.inr (.inr ⟨a, _, xs, rfl, rfl, g1, b1, b2, b3, mk_lst r (denL_rep g3 _) (by rw [flat_len]; exact b3) hm k⟩))
  · exact hm.elim
theorem pd_mul (ha : PD X B .o a ma) (hb : PD X B .o b mb) : PD X B .s (.BinOp a .Mult b pos) (dBin oMul ma mb) := pd_bin (op_mul.or (op_repF.or (op_rep1.or op_rep))) od_mul ha hb
def oNeg : O1
  | .int i => fun P _ => P (.int (-i))
  | _ => fun _ _ => False
theorem ud_neg {K : PySem.W.Frag} : UnD K B .o .s oNeg (rU fun i => .int (-i)) := by
  intro C M env σ H v d P Q r dv hm k
  unfold oNeg at hm
  split at hm
  · rw [den_int dv]
    exact ⟨_, rfl, mk_at r rfl hm k⟩
  · exact hm.elim
theorem pd_neg (ha : PD X B .o a ma) : PD X B .s (.UnaryOp .USub a pos) (dUn oNeg ma) := pe_imp (pe_un un_neg ha) (tOf_un ud_neg)
/-! index, count of tuples -/
def rTIdx (K : PySem.W.Frag) : V → List V → Hp → VK → Prop := fun x xs H Q => ∃ a ys y j z, x = .ref a ∧ xs = [y] ∧ SqT K H a ys ∧ flatV y = true ∧ ys.all flatV = true ∧ ys[j]? = some z ∧ eqV z y = true ∧
  (∀ (m : Nat) (z' : V), m < j → ys[m]? = some z' → eqV z' y = false) ∧ Q (.int (j : Nat)) H
theorem mt_tIdx : MtR X "tuple.index" (rTIdx X.K) := by
  intro pins s σ H x xs v us Q I rx rxs h
  obtain ⟨a, ys, y, j, z, rfl, rfl, hs, fy, fys, hz, hzj, hno, q⟩ := h
  cases rx
  obtain ⟨uy, rfl, ry⟩ := vals1 rxs
  obtain ⟨its, rv, ⟨⟨cls, dd, data, sl⟩, ho, hc, n, hd⟩, hlen⟩ := I.tuple hs
  simp only at hc hd
  subst hc hd
  obtain ⟨w, hw, rw'⟩ := rv.get hz
  obtain ⟨hjl, hje⟩ := List.getElem?_eq_some_iff.mp hw
  have hvl := rv.length
  have eqAt' : ∀ (m : Nat) (hm : m < its.toArray.size) (z' : V) (hz' : ys[m]? = some z'), eqU y its.toArray[m] = eqV z' y := fun m hm z' hz' => by
    obtain ⟨u2, hu2, ru2⟩ := rv.get hz'
    obtain ⟨_, hme⟩ := List.getElem?_eq_some_iff.mp hu2
    have e1 : its.toArray[m] = u2 := by simpa using hme
    rw [e1, eqU_of ru2 (flat_at fys hz')]
  have hj : j < its.toArray.size := by simpa using hjl
  refine call_meets PySem.F.slot_tuple_index ⟨_, ho, rfl⟩ PySem.F.entry_tuple_index (PySem.F.args_tuple_index_2 _ _) (TI.tuple_indexAt a its.toArray n dd sl uy (eqU y) j hj ?_ ?_)
    ⟨ho, fun w hw => mem_eqAt ry fy rv fys w (by simpa using hw), .int (j : Nat), H, I.tok _, ⟨_, rfl⟩, q⟩
  · rw [eqAt' j hj z hz]; exact hzj
  · intro i hi hij
    have hi' : i < ys.length := by rw [hvl]; simpa using hi
    rw [eqAt' i hi _ (List.getElem?_eq_getElem hi')]
    exact hno i _ hij (List.getElem?_eq_getElem hi')
/-- the place of the first item that is equal, among flat ones -/
def idxD (d : PyData) : List PyData → Option Nat
  | [] => none
  | x :: r => if PyData.eqv x d = true then some 0 else (idxD d r).map (· + 1)
theorem idxD_spec {d : PyData} : ∀ {ds : List PyData} {j : Nat}, idxD d ds = some j → (∃ z, ds[j]? = some z ∧ PyData.eqv z d = true) ∧ ∀ m z', m < j → ds[m]? = some z' → PyData.eqv z' d = false
  | [], j, h => by simp [idxD] at h
  | x :: r, j, h => by
    unfold idxD at h
    by_cases e : PyData.eqv x d = true
    · rw [if_pos e] at h
      cases h
      exact ⟨⟨x, rfl, e⟩, fun m z' hm _ => absurd hm (Nat.not_lt_zero _)⟩
    · rw [if_neg e] at h
      obtain ⟨i, hi, rfl⟩ := Option.map_eq_some_iff.mp h
      obtain ⟨⟨z, h1, h2⟩, h3⟩ := idxD_spec hi
      refine ⟨⟨z, by simpa using h1, h2⟩, fun m z' hm hz => ?_⟩
      cases m with
      | zero => simp at hz; subst hz; simpa using e
      | succ m => exact h3 m z' (by omega) (by simpa using hz)
/-- a method of a tuple -/
def tyT (K : PySem.W.Frag) (x : V) (H : Hp) : Prop := ∃ a xs, x = .ref a ∧ TupD K H a xs
theorem ty_tup : TyOk X "tuple" (tyT X.K) := by
  rintro pins σ H s x v I r ⟨a, xs, rfl, h⟩
  cases r
  rcases h with ⟨o, h, od⟩ | ⟨o, its, n, h, hc, hd, _, _, od⟩
  · obtain ⟨g, z, us, rv, o', g', hc, _⟩ := I.hok a _ h
    rw [g] at g'; cases g'
    exact ⟨⟨o, g, hc⟩, fun b hb => by cases hb; exact ⟨o, g, od⟩⟩
  · have g := I.kIn a o h
    exact ⟨⟨o, g, hc⟩, fun b hb => by cases hb; exact ⟨o, g, od⟩⟩
def dTM (op : O2) (ma mb : List Slot → W PyData) : List Slot → W PyData := fun env P E => ma env (fun x => ∃ ds, x = .tuple ds ∧ mb env (fun y => op x y P E) E) E
theorem pd_tbm {id : String} {name : Str} {apos : Pos} {op : O2} {r : V → List V → Hp → VK → Prop} (slot : PySem.Slot "tuple" name id) (hty : typeOf (.builtin id) = pure (.type "method_descriptor")) (hm : MtR X id r) (ho : PD X B .o a ma) (hb : PD X B .o b mb)
    (hs : ∀ C M env σ H v u ds e P (Q : VK), R X.K C M σ H env → DenF X.K C M H .o (.tuple ds) v → DenF X.K C M H .o e u → op (.tuple ds) e P B.er → (∀ w H' x, Kept C.X0 H H' → R X.K C M σ H' env → DenF X.K C M H' .s x w → P x → Q w H') → r v [u] H Q)
    (hbase : attributeBase a name X.env (eval a X.env) = eval a X.env := by rfl)
    (hfew : ((backTo pos (starEach [b] X.env)).all (fun x => !x.1) && (backToKw pos (keywordEach [] X.env)).all (fun x => x.1.isSome) && decide ([b].length + ([] : List Keyword).length + (if ([] : List Keyword).isEmpty then 0 else 1) < 30)) = true := by rfl)
    (hline : (apos.endLine == pos.line) = true := by rfl) (hst : starEach [b] X.env = (false, eval b X.env) :: starEach [] X.env := by rfl) (hplain : (backTo pos (starEach ([] : List Expr) X.env)).any (·.1) = false := by rfl) :
    PD X B .s (.Call (.Attribute a name apos) [b] [] pos) (dTM op ma mb) :=
  pe_imp (pe_mG ty_tup PySem.F.plainAttrs_tuple slot hty hm ho (pa_cons hb pa_nil hst) hbase hfew hline hst hplain) fun σ H Q ⟨C, env, M, P, r0, bo, hm, k⟩ => ⟨C, env, M, _, r0, bo, hm, fun v H1 d k1 r1 de ⟨ds, ed, p1⟩ => by
    subst ed
    obtain ⟨a', xs, rfl, g1, g2, g3⟩ := den_tupD de
    refine ⟨⟨a', xs, rfl, g1⟩, C, env, M, _, r1, bo, p1, fun u H2 d2 k2 r2 de2 p2 => hs C M env σ H2 _ u ds d2 P Q r2 (de.step r1 k2) de2 p2 fun w H' x k3 r3 de3 p3 => k w H' x (k1.trans (k2.trans k3)) r3 de3 p3⟩⟩
def oTIdx : O2
  | .tuple ds, d => fun P _ => isFlat d = true ∧ ds.all isFlat = true ∧ ∃ j : Nat, idxD d ds = some j ∧ P (.int j)
  | _, _ => fun _ _ => False
theorem pd_tindex {apos : Pos} (ho : PD X B .o a ma) (hb : PD X B .o b mb)
    (hbase : attributeBase a "index" X.env (eval a X.env) = eval a X.env := by rfl)
    (hfew : ((backTo pos (starEach [b] X.env)).all (fun x => !x.1) && (backToKw pos (keywordEach [] X.env)).all (fun x => x.1.isSome) && decide ([b].length + ([] : List Keyword).length + (if ([] : List Keyword).isEmpty then 0 else 1) < 30)) = true := by rfl)
    (hline : (apos.endLine == pos.line) = true := by rfl) (hst : starEach [b] X.env = (false, eval b X.env) :: starEach [] X.env := by rfl) (hplain : (backTo pos (starEach ([] : List Expr) X.env)).any (·.1) = false := by rfl) :
    PD X B .s (.Call (.Attribute a "index" apos) [b] [] pos) (dTM oTIdx ma mb) := pd_tbm (r := rTIdx X.K) PySem.F.slot_tuple_index PySem.F.type_tuple_index mt_tIdx ho hb (fun C M env σ H v u ds e P Q r dv du ⟨fe, fd, j, hj, hp⟩ k => by
  obtain ⟨a', xs, rfl, g1, g2, g3⟩ := den_tup dv
  have du' := Den.oo du fe
  obtain ⟨⟨z, hz, he⟩, hno⟩ := idxD_spec hj
  obtain ⟨w, hw, dw⟩ := g3.get' hz
  have fz : isFlat z = true := List.all_eq_true.mp fd z (List.mem_of_getElem? hz)
  refine ⟨a', xs, u, j, w, rfl, rfl, g1, (den_flat du' fe).1, denL_flat g3 fd, hw, by rw [eqV_eqv dw du' fz fe]; exact he, fun m z' hm hz' => ?_, mk_at r rfl hp k⟩
  obtain ⟨d', hd', dd'⟩ := g3.get hz'
  rw [eqV_eqv dd' du' (List.all_eq_true.mp fd d' (List.mem_of_getElem? hd')) fe]
  exact hno m d' hm hd') hbase hfew hline hst hplain
def oTCnt : O2
  | .tuple ds, d => fun P _ => SeqAt.shaped (.tuple ds) = true ∧ SeqAt.shaped d = true ∧ PyData.plainAll ds = true ∧ d.plain = true ∧ P (.int ((ds.countP fun y => PyData.eqv y d : Nat) : Int))
  | _, _ => fun _ _ => False
def rTCnt (K : PySem.W.Frag) : V → List V → Hp → VK → Prop := fun x xs H Q => ∃ y d ds, xs = [y] ∧ Dp K H x (.tuple ds) ∧ Dp K H y d ∧ SeqAt.shaped (.tuple ds) = true ∧ SeqAt.shaped d = true ∧ PyData.plainAll ds = true ∧ d.plain = true ∧ Q (.int ((ds.countP fun y => PyData.eqv y d : Nat) : Int)) H
theorem mt_tCnt (hu : X.A.units + 66 < cLine) : MtR X "tuple.count" (rTCnt X.K) := by
  rintro pins s σ H x xs v us Q I rx rxs ⟨y, d, ds, rfl, hx, hy, s1, s2, p1, p2, q⟩
  obtain ⟨uy, rfl, ry⟩ := vals1 rxs
  cases hx with
  | tup hT hA =>
    cases rx
    obtain ⟨its, rv, pl, hz⟩ := I.tuple hT
    obtain ⟨as, rs⟩ := Dp.readsAll I ds _ its hA rv
    obtain ⟨bs, rb⟩ := Dp.reads I d y uy hy ry
    refine SeqAt.count_tuple_data (vs := its.toArray) pl rs rb p1 p2 ?_ ⟨.int _, H, I.tok _, ⟨_, rfl⟩, q⟩
    have := SeqAt.depth_of_shaped s2
    omega
theorem pd_tcount {apos : Pos} (hu : X.A.units + 66 < cLine) (ho : PD X B .o a ma) (hb : PD X B .o b mb)
    (hbase : attributeBase a "count" X.env (eval a X.env) = eval a X.env := by rfl)
    (hfew : ((backTo pos (starEach [b] X.env)).all (fun x => !x.1) && (backToKw pos (keywordEach [] X.env)).all (fun x => x.1.isSome) && decide ([b].length + ([] : List Keyword).length + (if ([] : List Keyword).isEmpty then 0 else 1) < 30)) = true := by rfl)
    (hline : (apos.endLine == pos.line) = true := by rfl) (hst : starEach [b] X.env = (false, eval b X.env) :: starEach [] X.env := by rfl) (hplain : (backTo pos (starEach ([] : List Expr) X.env)).any (·.1) = false := by rfl) :
    PD X B .s (.Call (.Attribute a "count" apos) [b] [] pos) (dTM oTCnt ma mb) := pd_tbm (r := rTCnt X.K) PySem.F.slot_tuple_count (by first | exact PySem.F.type_tuple_count | rfl) (mt_tCnt hu) ho hb (fun C M env σ H v u ds e P Q r dv du ⟨s1, s2, p1, p2, hp⟩ k =>
  ⟨u, e, ds, rfl, denF_dp dv, denF_dp du, s1, s2, p1, p2, mk_at r rfl hp k⟩) hbase hfew hline hst hplain
theorem Cf.u6 {X : Cx} {B : Bd} {N : List Str} {sc : Scope} {lv : Nat} (c : Cf X B N sc lv) : X.A.units + 66 < cLine := by have := c.room.un; omega
/-! repr -/
def oRepr : O1 := fun d P _ => d.showable = true ∧ d.hasDict = false ∧ d.depth ≤ 64 ∧ d.shown.length ≤ sizeLine ∧ P (.str d.shown)
theorem cr_reprD (hu : X.A.units + 66 < cLine) (hg : X.A.guards = some []) : CallR X (.builtin "repr") (fun xs H Q => ∃ x d, xs = [x] ∧ Dp X.K H x d ∧ d.showable = true ∧ d.hasDict = false ∧ d.depth ≤ 64 ∧ d.shown.length ≤ sizeLine ∧ Q (.str d.shown) H) := by
  rintro pins s σ H xs us Q I r ⟨x, d, rfl, hx, h1, h2, h3, h4, q⟩
  obtain ⟨u, rfl, ru⟩ := vals1 r
  have goRef : ∀ a, u = .ref a → wpAny (model X.prog X.w) X.A (call (.builtin "repr") [u]) (EP X pins σ Q) X.xe s := by
    rintro a rfl
    obtain ⟨as, rd⟩ := Dp.reads I d x _ hx ru
    refine repr_of_reads' rd h1 (fun z => by rw [h2] at z; cases z) hg (by omega) (fun _ _ z => z) (fun h' t tk hk => ?_) h4
    exact ⟨.str d.shown, H, I.kept (t' := tk) hk, ⟨t, rfl⟩, q⟩
  cases hx with
  | non => cases ru; exact PySem.P.repr_of_none ⟨.str "None", H, I.tok _, ⟨_, rfl⟩, q⟩
  | bl b => cases ru; exact PySem.P.repr_of_bool ⟨.str _, H, I.tok _, ⟨_, rfl⟩, q⟩
  | int i => obtain ⟨t, rfl⟩ := ru; exact PySem.P.repr_of_int (of_decide_eq_true h1) ⟨.str _, H, I.tok _, ⟨_, rfl⟩, q⟩
  | str y => obtain ⟨t, rfl⟩ := ru; exact PySem.P.repr_of_str ⟨.str _, H, I.tok _, ⟨_, rfl⟩, q⟩ h4
  | lst _ _ => exact goRef _ ru
  | tup _ _ => exact goRef _ ru
theorem boot_repr' : bootBuiltins "repr" = some (.builtin "repr") := by decide +kernel
theorem pd_repr (hu : X.A.units + 66 < cLine) (hgd : X.A.guards = some []) (hg : Gl X "repr") (hm : X.mg "repr" = none) (q : PD X B .o e m) (h1 : starEach [e] X.env = (false, eval e X.env) :: starEach [] X.env := by rfl) : PD X B .s (.Call (.Name "repr" p) [e] [] pos) (dUn oRepr m) :=
  pd_callB1 (cr_reprD hu hgd) (fun C M env σ H v d P Q r dv ⟨h1, h2, h3, h4, hp⟩ k => ⟨v, d, rfl, denF_dp dv, h1, h2, h3, h4, mk_at r rfl hp k⟩) hg hm boot_repr' q (by decide) (by decide) h1
/-! constants of the module -/
theorem pd_gint {i : Int} (hg : Gl X x) (h : ∃ t, X.mg x = some (.int i t)) (hd : (x == ("__debug__" : Str)) = false := by decide) : PD X B .s (.Name x pos) (dC (.int i)) := by
  obtain ⟨t, h⟩ := h
  exact pd_c (pe_glob (v := .int i) hg h ⟨t, rfl⟩ hd) rfl
end
end MT
end

section
set_option maxRecDepth 100000
set_option maxHeartbeats 4000000
namespace MT
open PySem PySem.Spec PyProof.Rows L2
/-- keys, each once -/
def keysU : List Int → List Int → List Int
  | acc, [] => acc
  | acc, k :: r => keysU (if k ∈ acc then acc else acc ++ [k]) r
theorem putK_keys {kvs : List (Key × V)} {acc : List Int} {k : Int} {v : V} (h : kvs.map (·.1) = acc.map Sum.inl) : (putK kvs (Sum.inl k) v).map (·.1) = (if k ∈ acc then acc else acc ++ [k]).map Sum.inl := by
  have hany : (kvs.any fun kv => decide (kv.1 = Sum.inl k)) = decide (k ∈ acc) := by
    rw [Bool.eq_iff_iff, List.any_eq_true, decide_eq_true_eq]
    constructor
    · rintro ⟨p, hp, e⟩
      have e := of_decide_eq_true e
      have : Sum.inl k ∈ acc.map (Sum.inl : Int → Key) := by rw [← h, ← e]; exact List.mem_map_of_mem hp
      obtain ⟨j, hj, e2⟩ := List.mem_map.mp this
      cases e2; exact hj
    · intro hk
      have : (Sum.inl k : Key) ∈ kvs.map (·.1) := by rw [h]; exact List.mem_map_of_mem hk
      obtain ⟨p, hp, e⟩ := List.mem_map.mp this
      exact ⟨p, hp, decide_eq_true e⟩
  unfold putK
  rw [hany]
  by_cases hk : k ∈ acc
  · rw [if_pos (decide_eq_true hk), if_pos hk, ← h, List.map_map]
    refine List.map_congr_left fun p hp => ?_
    show (if p.1 = Sum.inl k then (p.1, v) else p).1 = p.1
    split <;> rfl
  · rw [if_neg (by simpa using hk), if_neg hk, List.map_append, h, List.map_append]
    rfl
section
variable {X : Cx} {B : Bd} {f : Fl} {tg iter kx vx e : Expr} {pos p : Pos} {x : Str} {N : List Str} {sc : Scope} {lv n : Nat}
/-- {k: v for ..}, its keys ints: how many -/
def elK (kl vl : List Slot → W PyData) : List Slot → W PyData := fun env P E => kl env (fun d => (∃ k, d = .int k) ∧ vl env (fun _ => P d) E) E
def dLenDc (mi : List Slot → W (List PyData)) (t : TgD) (kl vl : List Slot → W PyData) (vs : List Nat) : List Slot → W PyData := fun env P E =>
  mi env (fun items => lcW t bYes (elK kl vl) (wipeE env vs) items (fun ds => ∃ ks, intsOf ds = some ks ∧ P (.int ((keysU [] ks).length : Nat))) (fun _ => False)) E
/-- what a walk hands out, put in a dict at D by int keys -/
theorem dc_it {J : It} {n : Nat} {G : Hp → Prop} {Y : Nat → Hp → V → Hp → Prop} (w : Walk J n G Y) {g : TG} {tt : TT} {tk tv : TE} {vs : List Nat} {σ : L2.St} {H1 : Hp} {D : Addr} {Qd : Hp → Prop} (Pv : Nat → Hp → Prop) (h0 : Pv 0 (upd H1 D (.dK []))) (hG : ∀ i H, i ≤ n → Pv i H → G H)
    (hs : ∀ i x H H', i < n → Pv i H → Y i H x H' → g x (wipe σ vs) H' fun σ2 H2 => wipe σ2 vs = wipe σ vs ∧ tt σ2 H2 fun b H3 =>
      if b = true then tk σ2 H3 fun y H4 => tv σ2 H4 fun z H5 => ∃ kvs k, y = kV k ∧ H5 D = some (.dK kvs) ∧ kvs.length < sizeLine ∧ Pv (i + 1) (upd H5 D (.dK (putK kvs k z))) else Pv (i + 1) H3) (hd : ∀ H, Pv n H → Qd H) :
    ∃ W : Nat → Nat → Hp → Prop, (∃ m, W 0 m (upd H1 D (.dK []))) ∧ ∀ i m H, W i m H →
      (J.stop i H ∧ Qd H) ∨ (J.go i H ∧ ∃ Nx : Hp → Prop, (∀ H', Nx H' → ∃ m', m' < m ∧ W (i + 1) m' H') ∧ ∀ x H', J.yld i H x H' → g x (wipe σ vs) H' fun σ2 H2 => wipe σ2 vs = wipe σ vs ∧ tt σ2 H2 fun b H3 =>
        if b = true then tk σ2 H3 fun y H4 => tv σ2 H4 fun z H5 => ∃ kvs k, y = kV k ∧ H5 D = some (.dK kvs) ∧ kvs.length < sizeLine ∧ Nx (upd H5 D (.dK (putK kvs k z))) else Nx H3) := by
  refine ⟨fun i m H => (m = n - i ∧ i ≤ n) ∧ Pv i H, ⟨n, ⟨by simp, Nat.zero_le _⟩, h0⟩, ?_⟩
  rintro i m H ⟨⟨rfl, hi⟩, pv⟩
  rcases Nat.lt_or_ge i n with hlt | hge
  · exact .inr ⟨w.goes i H hlt (hG i H hi pv), Pv (i + 1), fun H' q => ⟨n - (i + 1), by omega, ⟨rfl, hlt⟩, q⟩, fun x H' y => hs i x H H' hlt pv (w.yields i H x H' hlt (hG i H hi pv) y)⟩
  · have e : n = i := by omega
    subst e
    exact .inl ⟨w.stops H (hG _ H hi pv), hd H pv⟩
theorem intsOf_app : ∀ {ds : List PyData} {ks : List Int} {d : PyData} {k : Int}, intsOf ds = some ks → d = .int k → intsOf (ds ++ [d]) = some (ks ++ [k])
  | [], ks, d, k, h, e => by simp [intsOf] at h; subst h; subst e; rfl
  | .int b :: r, ks, d, k, h, e => by
    simp only [intsOf, Option.map_eq_some_iff] at h
    obtain ⟨cs, h, rfl⟩ := h
    simp only [List.cons_append, intsOf, intsOf_app h e]; rfl
  | .none :: _, _, _, _, h, _ => by simp [intsOf] at h
  | .bool _ :: _, _, _, _, h, _ => by simp [intsOf] at h
  | .str _ :: _, _, _, _, h, _ => by simp [intsOf] at h
  | .list _ :: _, _, _, _, h, _ => by simp [intsOf] at h
  | .tuple _ :: _, _, _, _, h, _ => by simp [intsOf] at h
  | .dict _ :: _, _, _, _, h, _ => by simp [intsOf] at h
theorem keysU_len : ∀ (ks acc : List Int), (keysU acc ks).length ≤ acc.length + ks.length
  | [], acc => by simp [keysU]
  | k :: r, acc => by
    have := keysU_len r (if k ∈ acc then acc else acc ++ [k])
    simp only [keysU, List.length_cons]
    by_cases h : k ∈ acc
    · rw [if_pos h] at this ⊢; omega
    · rw [if_neg h] at this ⊢; rw [List.length_append] at this; simp only [List.length_singleton] at this; omega
theorem keysU_app : ∀ (ks acc : List Int) (k : Int), keysU acc (ks ++ [k]) = (if k ∈ keysU acc ks then keysU acc ks else keysU acc ks ++ [k])
  | [], acc, k => rfl
  | j :: r, acc, k => by
    show keysU _ (r ++ [k]) = _
    rw [keysU_app r]
    rfl
theorem intsOf_len : ∀ {ds : List PyData} {ks : List Int}, intsOf ds = some ks → ks.length = ds.length
  | [], ks, h => by simp [intsOf] at h; subst h; rfl
  | .int b :: r, ks, h => by
    simp only [intsOf, Option.map_eq_some_iff] at h
    obtain ⟨cs, h, rfl⟩ := h
    simp [intsOf_len h]
  | .none :: _, _, h => by simp [intsOf] at h
  | .bool _ :: _, _, h => by simp [intsOf] at h
  | .str _ :: _, _, h => by simp [intsOf] at h
  | .list _ :: _, _, h => by simp [intsOf] at h
  | .tuple _ :: _, _, h => by simp [intsOf] at h
  | .dict _ :: _, _, h => by simp [intsOf] at h
theorem call_lenK : CallR X (.builtin "len") (fun xs H Q => ∃ a kvs, xs = [.ref a] ∧ H a = some (.dK kvs) ∧ Q (.int kvs.length) H) := by
  rintro pins s σ H xs us Q I r ⟨a, kvs, rfl, h, q⟩
  obtain ⟨u, rfl, ru⟩ := vals1 r
  cases ru
  exact d_len I (.inl h) fun t s' I' => ⟨.int kvs.length, H, I', ⟨t, rfl⟩, q⟩
theorem pd_lenDc {lo : Bool} {scope : Scope} {own : List (Str × Nat)} {mi : List Slot → W (List PyData)} {t : TgD} {ix : List Nat} {kl vl : List Slot → W PyData} {pos2 : Pos} (hf : f = .s ∨ f = .o) (hc : X.calm = true) (hN : X.N.Nodup) (hgl : Gl X "len") (hml : X.mg "len" = none)
    (hi : PIt X B f lo tg iter mi) (ok : BlkOk X.N X.env.scope scope own)
    (hg : ∀ (s : Shared) (H : Hp) (C : Addr) (cl : List (Str × Addr)) (fp : List Addr), PG (X.blk s H scope (PySem.compEnvC scope cl C X.env) fp) tg (tgOfR X.K lo t ix)) (hx : ∀ i ∈ ix, i ∈ own.map (·.2))
    (hk : ∀ (s : Shared) (H : Hp) (C : Addr) (cl : List (Str × Addr)) (fp : List Addr), PE (X.blk s H scope (PySem.compEnvC scope cl C X.env) fp) kx (tOf X.K B0 .s kl))
    (hv : ∀ (s : Shared) (H : Hp) (C : Addr) (cl : List (Str × Addr)) (fp : List Addr), PE (X.blk s H scope (PySem.compEnvC scope cl C X.env) fp) vx (tOf X.K B0 .s vl)) (hs : ∀ x, foldedSetIterable iter X.env x = pure x := by intro _; rfl)
    (h1 : starEach [.DictComp kx vx [⟨tg, iter, [], 0⟩] scope pos] X.env = (false, eval (.DictComp kx vx [⟨tg, iter, [], 0⟩] scope pos) X.env) :: starEach [] X.env := by rfl) (h2 : (backTo pos2 (starEach ([] : List Expr) X.env)).any (·.1) = false := by rfl) :
    PD X B .s (.Call (.Name "len" p) [.DictComp kx vx [⟨tg, iter, [], 0⟩] scope pos] [] pos2) (dLenDc mi t kl vl (own.map (·.2))) := by
  refine pe_imp (pe_callB call_lenK hgl hml PySem.boot_len (pa_cons (pe_dc hc hN hi ok hg (fun _ _ _ _ _ => pts_nil) hk hv hs) pa_nil h1) (by decide) (by decide) h1 h2) fun σ H Q ⟨C, env, M, P, r, bo, hm, k⟩ => ?_
  refine ⟨C, env, M, _, r, bo, hm, fun J H1 items srcs k1 r1 ik hsrc hz pw => fun D nD => ?_⟩
  let vs := own.map (·.2)
  have mw := r1.ok.addW nD
  have srcs' : ∀ p ∈ srcs, DenF X.K C (addM M D) H1 f p.1 p.2 := fun p hp => by
    have q := hsrc p hp
    have kk : ∀ a xs, H1 a = some (.lst xs) → ¬ M a → ¬ addM M D a := fun a xs e h1 h2 => h2.elim h1 fun z => by rw [z, nD] at e; cases e
    rcases hf with rfl | rfl
    · exact Den.mk kk _ _ q
    · obtain ⟨d, v⟩ := p
      cases d with
      | list ds =>
        obtain ⟨a, xs, e, q, n, l, g⟩ := q
        exact ⟨a, xs, e, q, n, l, g.mk kk⟩
      | dict x => simp [DenF, Den] at q
      | _ => exact Den.mk (M := M) kk _ v q
  have w : Walk J items.length (fun H => ∀ p ∈ srcs, DenF X.K C (addM M D) H f p.1 p.2) (fun i H x H' => (∀ p ∈ srcs, DenF X.K C (addM M D) H f p.1 p.2) ∧ J.yld i H x H') :=
    ⟨fun i H hi g => ik.go C _ H i g hi, fun H g => ik.stop C _ H g, fun i H x H' hi g y => ⟨g, y⟩⟩
  have rw0 := r1.wipe vs
  have no : ∀ i, ¬ Owns (L2.wipe σ vs) (wipeE env vs) i D := fun i h => by
    obtain ⟨_, _, ws, e⟩ := rw0.own h
    rw [nD] at e; cases e
  have nM0 : ¬ C.M0 D := fun z => r1.ok.free nD (r1.m0 D z)
  have nX0 : ¬ C.X0 D := fun z => nM0 (r1.x0m z)
  refine dc_it w (fun i H => Kept C.X0 H1 H ∧ R X.K C (addM M D) (L2.wipe σ vs) H (wipeE env vs) ∧ ∃ kvs done ks, H D = some (.dK kvs) ∧ intsOf done = some ks ∧ kvs.map (·.1) = (keysU [] ks).map Sum.inl ∧ done.length ≤ i ∧
    lcW t bYes (elK kl vl) (wipeE env vs) (items.drop i) (fun ds => ∃ ks, intsOf (done ++ ds) = some ks ∧ P (.int ((keysU [] ks).length : Nat))) (fun _ => False)) ?_ ?_ ?_ ?_
  · refine ⟨Kept.new nD, rw0.addMu nD trivial, [], [], [], upd_same, rfl, rfl, Nat.le_refl _, ?_⟩
    simpa using pw
  · rintro i H2 _ ⟨k2, r2, _⟩ p hp
    exact (srcs' p hp).stepW (fun a z => .inl (r1.m0 a (r1.x0m z))) mw k2 hf fun a z => r1.x0m z
  · rintro i x H2 H3 hlt ⟨k2, r2, kvs, done, ks, hD, hks, hkv, hlen, hw⟩ ⟨g, y⟩
    obtain ⟨k3, d, ed, dd⟩ := ik.yld C _ H2 i x H3 g r2.ok hlt y
    have edrop : items.drop i = d :: items.drop (i + 1) := by
      rw [List.drop_eq_getElem_cons hlt]
      rw [List.getElem?_eq_getElem hlt] at ed
      cases ed; rfl
    rw [edrop] at hw
    obtain ⟨env', e1, hw⟩ := hw
    have hw : elK kl vl env' _ _ := hw
    have r3 := r2.grow k3
    refine ⟨C, wipeE env vs, addM M D, d, env', r3, dd, e1, fun σ' r4 wp => ⟨?_, ?_⟩⟩
    · rw [wp vs hx, wipe_idem fun i hi => hi]
    · show tOf X.K B0 .s kl σ' H3 _
      refine ⟨C, env', addM M D, _, r4, trivial, hw, fun v H5 d5 k5 r6 de ⟨⟨kk, ek⟩, p6⟩ => ?_⟩
      subst ek
      have ev : v = .int kk := by
        have de : Den X.K (addM M D) H5 (.int kk) v := de
        simpa only [Den] using de
      refine ⟨C, env', addM M D, _, r6, trivial, p6, fun v2 H6 d6 k6 r7 de2 p7 => ?_⟩
      have k26 : Kept C.X0 H2 H6 := fun a o e n => k6 a o (k5 a o (k3 a o e) n) n
      have rout := r2.step k26 (fun d l c e => (r7.drw d l c e).1) r7.tab
      have hD6 := k26 D _ hD nX0
      have hl1 : kvs.length = (keysU [] ks).length := by have := congrArg List.length hkv; simpa using this
      have hl2 := keysU_len ks []
      have hl3 := intsOf_len hks
      simp only [List.length_nil, Nat.zero_add] at hl2
      refine ⟨kvs, .inl kk, ev, hD6, by rw [hl1]; omega, ?_, rout.mutU (.inr rfl) nM0 hD6 trivial trivial no (fun c q z => by unfold LamX.CodeO at z; cases z), putK kvs (.inl kk) v2, done ++ [.int kk], ks ++ [kk], upd_same, intsOf_app hks rfl, ?_, ?_, ?_⟩
      · intro c o e n
        have e2 := k26 c o (k2 c o e n) n
        rw [upd_ne (ne_of_none e nD)]
        exact e2
      · rw [keysU_app]; exact putK_keys hkv
      · rw [List.length_append]; simp only [List.length_singleton]; omega
      · have e : (fun ds => ∃ ks, intsOf (done ++ (PyData.int kk :: ds)) = some ks ∧ P (.int ((keysU [] ks).length : Nat))) = fun ds => ∃ ks, intsOf ((done ++ [PyData.int kk]) ++ ds) = some ks ∧ P (.int ((keysU [] ks).length : Nat)) := by
          funext ds; rw [List.append_assoc]; rfl
        rw [← e]; exact p7
  · rintro H2 ⟨k2, r2, kvs, done, ks, hD, hks, hkv, hlen, hw⟩
    rw [List.drop_length] at hw
    have rout : R X.K C M σ H2 env := r1.step k2 (fun d l c e => (r2.drw d l c e).1) r2.tab
    obtain ⟨ks', e, hp⟩ : ∃ ks, intsOf (done ++ []) = some ks ∧ P (.int ((keysU [] ks).length : Nat)) := hw
    rw [List.append_nil, hks] at e
    cases e
    refine ⟨D, kvs, rfl, hD, ?_⟩
    have hl1 : kvs.length = (keysU [] ks).length := by have := congrArg List.length hkv; simpa using this
    rw [hl1]
    exact k _ H2 (.int _) (k1.trans k2) rout (by simp [DenF, Den]) hp
/-! a local name that holds one of two defs -/
def dFn (c : List Slot → W Bool) (a b : Addr) : List Slot → W Slot := fun env P E => c env (fun z => P (.fn (if z = true then a else b))) E
theorem vl_fn {es : List Expr} {mr : List Slot → W (List Slot)} {c x1 x2 : Expr} {pc : List Slot → W Bool} {a1 a2 : Addr} (hc : PB X B c pc) (h1 : PE X x1 (tC (.ref a1))) (h2 : PE X x2 (tC (.ref a2))) (q : PA X es (tvOf X.K B mr)) (hs : starEach (.IfExp c x1 x2 pos :: es) X.env = (false, eval (.IfExp c x1 x2 pos) X.env) :: starEach es X.env := by rfl) :
    PA X (.IfExp c x1 x2 pos :: es) (tvOf X.K B (vCons (dFn pc a1 a2) mr)) :=
  pa_imp (pa_cons (pe_ifExp hc h1 h2) q hs) fun σ H Q ⟨C, env, M, P, r, bo, hm, k⟩ => ⟨C, env, M, _, r, bo, hm, fun H1 z k1 r1 p1 => by
    have go : tvOf X.K B mr σ H1 fun vs H' => Q (V.ref (if z = true then a1 else a2) :: vs) H' := ⟨C, env, M, _, r1, bo, p1, fun M' vs H2 ss g1 g2 k2 r2 nw ne p2 => by
      have fr : ∀ a, H1 a = none → ¬ C.X0 a → H a = none := fun a h n => by
        cases q : H a with
        | none => rfl
        | some u => rw [k1 a u q n] at h; cases h
      refine k M' _ H2 (.fn (if z = true then a1 else a2) :: ss) (fun a z => ?_) g2 (k1.trans k2) r2 ⟨by simp [nw.len], fun i s w e1 e2 => ?_, fun i xs a e1 e2 => ?_, fun i j xs ys a e1 e2 e3 e4 => ?_⟩ (fun i xs a e1 e2 => ?_) p2
      · rcases g1 a z with z | z
        · exact .inl z
        · by_cases hx : C.X0 a
          · exact .inl (r1.m0 a (r1.x0m hx))
          · exact .inr (fr a z hx)
      · cases i with
        | zero => simp at e1 e2; subst e1; subst e2; exact rfl
        | succ i => exact nw.ok i s w (by simpa using e1) (by simpa using e2)
      · cases i with
        | zero => simp at e1
        | succ i => exact nw.own i xs a (by simpa using e1) (by simpa using e2)
      · cases i with
        | zero => simp at e1
        | succ i => cases j with
          | zero => simp at e3
          | succ j => rw [nw.sep i j xs ys a (by simpa using e1) (by simpa using e2) (by simpa using e3) (by simpa using e4)]
      · cases i with
        | zero => simp at e1
        | succ i =>
          have h := ne i xs a (by simpa using e1) (by simpa using e2)
          obtain ⟨b, ws, eb, h1, h2, h3, _⟩ := nw.ok i _ _ (by simpa using e1) (by simpa using e2)
          cases eb
          exact fr a h fun z => h3 (r1.x0m z)⟩
    cases z with
    | true => exact iteT go
    | false => exact iteF go⟩
theorem CalS.at {P : Program} {w : World} {K : PySem.W.Frag} {mg : Str → Option Value} {base : Heap} {x : Str} {lv : Nat} {sp : Sp} (c : CalS P w K mg base x lv sp) : ∃ f, mg x = some (.ref f) := by
  obtain ⟨f, fd, ps, c⟩ := c
  exact ⟨f, c.gl⟩
end
end MT
end

section
set_option maxRecDepth 100000
set_option maxHeartbeats 4000000
namespace MT
open PySem PySem.Spec PyProof.Rows L2
/-- equations that only look at the scope of where we stand -/
theorem swp_of {X : Cx} {B : Bd} {N : List Str} {sc : Scope} {lv : Nat} (cf : Cf X B N sc lv) {ts : List Expr} {v : Expr} {r : Sem (Option (List Str))} (h : ∀ en : Env, en.scope = sc → swappedStores ts v en = r) : swappedStores ts v X.env = r := h _ cf.scope
theorem swi_of {X : Cx} {B : Bd} {N : List Str} {sc : Scope} {lv : Nat} (cf : Cf X B N sc lv) {e : Expr} {t : Option Expr} {l : Nat} {r : Sem Bool} (h : ∀ en : Env, en.scope = sc → swapsWith e t l en = r) : swapsWith e t l X.env = r := h _ cf.scope
theorem fnc_of {X : Cx} {s : Shared} {H : Hp} {scope : Scope} {env : Env} {fp : List Addr} {x : Str} (h : decide (scope.names.lookup x = some .cell) = true) : (X.blk s H scope env fp).fn x = true := beq_iff_eq.mpr (of_decide_eq_true h)
/-- == of texts -/
def oEqS : O2
  | .str a, .str b => fun P _ => P (.bool (decide (a = b)))
  | _, _ => fun _ _ => False
theorem od_eqS {K : PySem.W.Frag} {B : Bd} : OpD K B .o .o .s oEqS rEq := by
  intro C M env σ H v u d e P Q r dv du hm k
  unfold oEqS at hm
  split at hm
  · rename_i a b
    rw [den_str dv, den_str du]
    refine ⟨rfl, ?_⟩
    have e : decide (V.str a = V.str b) = decide (a = b) := by
      by_cases h : a = b
      · rw [decide_eq_true h, decide_eq_true (congrArg V.str h)]
      · rw [decide_eq_false h, decide_eq_false fun z => h (V.str.inj z)]
    rw [e]
    exact mk_at r rfl hm k
  · exact hm.elim
section
variable {X : Cx} {B : Bd} {f : Fl} {tg iter elt : Expr} {pos spos py : Pos} {y : Str}
theorem sd_setLc {i : Nat} {lo : Bool} {ifs : List Expr} {scope : Scope} {own : List (Str × Nat)} {mi : List Slot → W (List PyData)} {t : TgD} {ix : List Nat} {c : List Slot → W Bool} {el : List Slot → W PyData} (hy : X.N[i]? = some y) (hyl : X.env.scope.names.lookup y = some .local)
    (hsw : swapsWith (.ListComp elt [⟨tg, iter, ifs, 0⟩] scope pos) (some (.Name y py)) spos.line X.env = pure true) (hf : f = .s ∨ f = .o) (hc : X.calm = true) (hN : X.N.Nodup) (hi : PIt X B f lo tg iter mi) (ok : BlkOk X.N X.env.scope scope own)
    (hg : ∀ (s : Shared) (H : Hp) (C : Addr) (cl : List (Str × Addr)) (fp : List Addr), PG (X.blk s H scope (PySem.compEnvC scope cl C X.env) fp) tg (tgOfR X.K lo t ix)) (hx : ∀ i ∈ ix, i ∈ own.map (·.2))
    (ht : ∀ (s : Shared) (H : Hp) (C : Addr) (cl : List (Str × Addr)) (fp : List Addr), PTs (X.blk s H scope (PySem.compEnvC scope cl C X.env) fp) ifs (ttOf X.K B0 c))
    (he : ∀ (s : Shared) (H : Hp) (C : Addr) (cl : List (Str × Addr)) (fp : List Addr), PE (X.blk s H scope (PySem.compEnvC scope cl C X.env) fp) elt (tOf X.K B0 .s el)) (hs : ∀ x, foldedSetIterable iter X.env x = pure x := by intro _; rfl) :
    SD X B (.Assign [.Name y py] (.ListComp elt [⟨tg, iter, ifs, 0⟩] scope pos) spos) (dSet i (dLc mi t c el (own.map (·.2)))) :=
  ps_imp (ps_setLc hc hN hy hyl hsw hi ok hg ht he hs) (tAsg_set (lc_imp hf hx))
end
end MT
end

section
set_option maxRecDepth 100000
set_option maxHeartbeats 4000000
namespace MT
open PySem PySem.Spec PyProof.Rows L2
/-! the draws -/
theorem NoSl_str {x : Str} {j : Nat} {pos : Pos} : NoSl (.Constant (.str x) j pos) := fun _ _ => rfl
abbrev drKvs (l c : Addr) (r t : Int) : List (Key × V) := [(.inr "large", V.ref l), (.inr "cells", V.ref c), (.inr "rest", V.int r), (.inr lapKey, V.int t)]
theorem ne_lc : ¬ (.inr "large" : Key) = .inr "cells" := by decide +kernel
theorem ne_lr : ¬ (.inr "large" : Key) = .inr "rest" := by decide +kernel
theorem ne_cr : ¬ (.inr "cells" : Key) = .inr "rest" := by decide +kernel
theorem ne_lt : ¬ (.inr "large" : Key) = .inr lapKey := by decide +kernel
theorem ne_ct : ¬ (.inr "cells" : Key) = .inr lapKey := by decide +kernel
theorem ne_rt : ¬ (.inr "rest" : Key) = .inr lapKey := by decide +kernel
theorem dr_large {l c : Addr} {r t : Int} : valV (drKvs l c r t) (.inr "large") = some (V.ref l) := valV_pos rfl
theorem dr_cells {l c : Addr} {r t : Int} : valV (drKvs l c r t) (.inr "cells") = some (V.ref c) := (valV_neg ne_lc).trans (valV_pos rfl)
theorem dr_rest {l c : Addr} {r t : Int} : valV (drKvs l c r t) (.inr "rest") = some (V.int r) := (valV_neg ne_lr).trans ((valV_neg ne_cr).trans (valV_pos rfl))
theorem dr_lap {l c : Addr} {r t : Int} : valV (drKvs l c r t) (.inr lapKey) = some (V.int t) := (valV_neg ne_lt).trans ((valV_neg ne_ct).trans ((valV_neg ne_rt).trans (valV_pos rfl)))
theorem dr_putR {l c : Addr} {r t n : Int} : putK (drKvs l c r t) (.inr "rest") (V.int n) = drKvs l c n t := by
  have e3 : ¬ (.inr lapKey : Key) = .inr "rest" := fun z => ne_rt z.symm
  show putK [((.inr "large" : Key), V.ref l), (.inr "cells", V.ref c), (.inr "rest", V.int r), (.inr lapKey, V.int t)] (.inr "rest") (V.int n) = _
  unfold putK
  rw [if_pos (by simp)]
  simp only [List.map_cons, List.map_nil, if_neg ne_lr, if_neg ne_cr, if_neg e3, if_pos]
theorem dr_putT {l c : Addr} {r t n : Int} : putK (drKvs l c r t) (.inr lapKey) (V.int n) = drKvs l c r n := by
  show putK [((.inr "large" : Key), V.ref l), (.inr "cells", V.ref c), (.inr "rest", V.int r), (.inr lapKey, V.int t)] (.inr lapKey) (V.int n) = _
  unfold putK
  rw [if_pos (by simp)]
  simp only [List.map_cons, List.map_nil, if_neg ne_lt, if_neg ne_ct, if_neg ne_rt, if_pos]
theorem dget_of {H : Hp} {a : Addr} {kvs : List (Key × V)} {k : Str} {v : V} (e : H a = some (.dK kvs)) (h : valV kvs (.inr k) = some v) : DGet H a (V.str k) (some v) := by rw [← h]; exact DGet.k (k := .inr k) e
theorem dput_of {H : Hp} {a : Addr} {kvs kvs' : List (Key × V)} {k : Str} {v : V} (e : H a = some (.dK kvs)) (hl : kvs.length < sizeLine) (h : putK kvs (.inr k) v = kvs') : DPut H a (V.str k) v (upd H a (.dK kvs')) := by rw [← h]; exact DPut.k (k := .inr k) e hl
theorem four : ∀ {l c : Addr} {r t : Int}, (drKvs l c r t).length < sizeLine := by intro l c r t; show 4 < sizeLine; decide
theorem DrawAt.nl {H : Hp} {d l c : Addr} (D : DrawAt H d l c) : l ≠ d ∧ c ≠ d := by
  obtain ⟨ne, ⟨x, t, e⟩, ⟨ns, e1⟩, ⟨ms, e2, _⟩⟩ := D
  exact ⟨fun z => (by rw [z, e] at e1; cases e1), fun z => (by rw [z, e] at e2; cases e2)⟩
/-- what is neither a table nor a code object is written -/
def NoCode (H : Hp) (D : Addr) : Prop := ∃ ob, H D = some ob ∧ (∀ ps, ob ≠ .tbl ps) ∧ ∀ c q, ob ≠ LamX.CodeO c q
theorem DrawAt.dn {H : Hp} {d l c : Addr} (D : DrawAt H d l c) : NoCode H d := by
  obtain ⟨_, ⟨x, t, e⟩, _⟩ := D
  exact ⟨_, e, fun ps z => (by cases z), fun c q z => by unfold LamX.CodeO at z; cases z⟩
theorem DrawAt.ln {H : Hp} {d l c : Addr} (D : DrawAt H d l c) : NoCode H l := by
  obtain ⟨_, _, ⟨x, e⟩, _⟩ := D
  exact ⟨_, e, fun ps z => (by cases z), fun c q z => by unfold LamX.CodeO at z; cases z⟩
theorem tabs_mut {T : List (Addr × Str)} {H : Hp} {D : Addr} {ob' : HO} (t : LamX.Tabs T H) (n : NoCode H D) : LamX.Tabs T (upd H D ob') := fun p hp => by
  obtain ⟨ob, hD, n1, n2⟩ := n
  obtain ⟨ps, e1, e2, e3⟩ := t p hp
  refine ⟨ps, by rw [upd_ne fun z => n1 ps (Option.some.inj (by rw [← hD, ← z]; exact e1))]; exact e1, e2, fun pos cv hc => ?_⟩
  obtain ⟨c, q1, q2⟩ := e3 pos cv hc
  exact ⟨c, q1, by rw [upd_ne fun z => n2 c p.2 (Option.some.inj (by rw [← hD, ← z]; exact q2))]; exact q2⟩
section
variable {K : PySem.W.Frag} {C : Ctx} {M : Mk} {σ : L2.St} {H : Hp} {env : List Slot}
/-- the draws' dict is written -/
theorem R.drPut (r : R K C M σ H env) {d l c : Addr} (e : C.dr = some (d, l, c)) (n t : Int) : R K C M σ (upd H d (.dK (drKvs l c n t))) env := by
  refine r.step (Kept.mut (.inl ⟨d, l, c, e, .inl rfl⟩)) (fun d' l' c' e' => ?_) (tabs_mut r.tab (r.drw d l c e).1.dn)
  rw [e] at e'; cases e'
  obtain ⟨D, _⟩ := r.drw d l c e
  obtain ⟨n1, n2⟩ := D.nl
  obtain ⟨ne, _, ⟨ns, e1⟩, ⟨ms, e2, z⟩⟩ := D
  exact ⟨ne, ⟨n, t, upd_same⟩, ⟨ns, by rw [upd_ne n1]; exact e1⟩, ⟨ms, by rw [upd_ne n2]; exact e2, z⟩⟩
theorem R.drLarge (r : R K C M σ H env) {d l c : Addr} (e : C.dr = some (d, l, c)) (ns : List Int) : R K C M σ (upd H l (.lst (ns.map V.int))) env := by
  refine r.step (Kept.mut (.inl ⟨d, l, c, e, .inr rfl⟩)) (fun d' l' c' e' => ?_) (tabs_mut r.tab (r.drw d l c e).1.ln)
  rw [e] at e'; cases e'
  obtain ⟨D, _⟩ := r.drw d l c e
  obtain ⟨n1, n2⟩ := D.nl
  obtain ⟨ne, ⟨x, t, ed⟩, _, ⟨ms, e2, z⟩⟩ := D
  exact ⟨ne, ⟨x, t, by rw [upd_ne (Ne.symm n1)]; exact ed⟩, ⟨ns, upd_same⟩, ⟨ms, by rw [upd_ne (Ne.symm ne)]; exact e2, z⟩⟩
theorem R.dr (r : R K C M σ H env) {i : Nat} (h : env[i]? = some .dr) : ∃ d l c, C.dr = some (d, l, c) ∧ σ[i]? = some (some (V.ref d)) ∧ DrawAt H d l c := by
  obtain ⟨o, e1, d, l, c, hd, e2⟩ := r.at h
  subst e2
  exact ⟨d, l, c, hd, e1, (r.drw d l c hd).1⟩
end
section
variable {X : Cx} {B : Bd} {f : Fl} {e : Expr} {st : Stmt} {m ma : List Slot → W PyData} {i j : Nat} {k : Str}
def dDrI (i : Nat) : List Slot → W PyData := fun env P _ => env[i]? = some .dr ∧ ∀ n : Int, P (.int n)
theorem pd_drI (hk : k = "rest" ∨ k = lapKey) (p : PE X e (tDGet (tVar i) (tC (.str k)))) : PD X B .s e (dDrI i) := pe_imp p fun σ H Q ⟨C, env, M, P, r, bo, ⟨hd, hp⟩, kk⟩ => by
  obtain ⟨d, l, c, hdr, e1, D⟩ := r.dr hd
  obtain ⟨x, t, ed⟩ := D.dk
  rcases hk with rfl | rfl
  · exact ⟨V.ref d, e1, d, V.int x, rfl, dget_of ed dr_rest, kk _ H (.int x) .refl r (by simp [DenF, Den]) (hp x)⟩
  · exact ⟨V.ref d, e1, d, V.int t, rfl, dget_of ed dr_lap, kk _ H (.int t) .refl r (by simp [DenF, Den]) (hp t)⟩
def dDrC (i : Nat) : List Slot → W PyData := fun env P _ => env[i]? = some .dr ∧ ∀ ns : List Int, P (.list (ns.map PyData.int))
theorem pd_drC (p : PE X e (tDGet (tVar i) (tC (.str "cells")))) : PD X B .s e (dDrC i) := pe_imp p fun σ H Q ⟨C, env, M, P, r, bo, ⟨hd, hp⟩, kk⟩ => by
  obtain ⟨d, l, c, hdr, e1, D⟩ := r.dr hd
  obtain ⟨x, t, ed⟩ := D.dk
  obtain ⟨ns, ec, z⟩ := D.cl
  refine ⟨V.ref d, e1, d, V.ref c, rfl, dget_of ed dr_cells, kk _ H (.list (ns.map .int)) .refl r ?_ (hp ns)⟩
  show Den X.K M H _ _
  simp only [Den]
  exact ⟨c, _, rfl, ec, (r.drw d l c hdr).2.2.1, by rw [List.length_map]; exact z, denL_map (fun _ => by simp [Den]) ns⟩
/-- draw[k] = an int -/
def dDrPut (i : Nat) (m : List Slot → W PyData) : WS := fun E env => m env (fun d => (∃ n, d = .int n) ∧ env[i]? = some .dr ∧ E.nx env) E.er
theorem sd_drPut (hk : k = "rest" ∨ k = lapKey) (p : PS X st (sDPut (tVar i) (tC (.str k)) (tOf X.K B .s m))) : SD X B st (dDrPut i m) := ps_imp p fun D σ H ⟨C, env, M, nx, rt, bk, ct, r, bo, hf, k1, k2, k3, k4⟩ =>
  ⟨C, env, M, _, r, bo, hf, fun v H1 d kk r1 de ⟨⟨n, en⟩, hd, hx⟩ => by
    subst en
    have ev : v = .int n := by
      have de : Den X.K M H1 (.int n) v := de
      simpa only [Den] using de
    subst ev
    obtain ⟨d, l, c, hdr, e1, D'⟩ := r1.dr hd
    obtain ⟨x, t, ed⟩ := D'.dk
    rcases hk with rfl | rfl
    · exact ⟨V.ref d, e1, d, _, rfl, dput_of ed four dr_putR, k1 M σ _ env (r1.drPut hdr n t) hx⟩
    · exact ⟨V.ref d, e1, d, _, rfl, dput_of ed four dr_putT, k1 M σ _ env (r1.drPut hdr x n) hx⟩⟩
/-- draw[lap], name = an int, data -/
def dDrLap (i j : Nat) (m ma : List Slot → W PyData) : WS := fun E env => m env (fun d => ma env (fun d2 => (∃ n, d = .int n) ∧ env[i]? = some .dr ∧ E.nx (env.set j (.d d2))) E.er) E.er
theorem sd_drLap (p : PS X st (tAsg (tTup (tCons (tOf X.K B .s m) (tCons (tOf X.K B .s ma) tNil))) (gTup X.K 2 (gCons (gSub (tVar i) (tC (.str lapKey)) rSetD) (gCons (gName j) gNil))))) : SD X B st (dDrLap i j m ma) := ps_imp p fun D σ H ⟨C, env, M, nx, rt, bk, ct, r, bo, hf, k1, k2, k3, k4⟩ =>
  ⟨C, env, M, _, r, bo, hf, fun v H1 d kk r1 de p1 => ⟨C, env, M, _, r1, bo, p1, fun v2 H2 d2 kk2 r2 de2 ⟨⟨n, en⟩, hd, hx⟩ => by
    subst en
    have ev : v = .int n := by
      have de : Den X.K M H1 (.int n) v := de
      simpa only [Den] using de
    subst ev
    refine ⟨by show 2 ≤ sizeLine; decide, fun q nq => ⟨q, [V.int n, v2], rfl, .of upd_same, rfl, V.int n, [v2], rfl, ?_⟩⟩
    have r3 := r2.new (o := .tup [V.int n, v2]) nq
    obtain ⟨d, l, c, hdr, e1, D'⟩ := r3.dr hd
    obtain ⟨x, t, ed⟩ := D'.dk
    refine ⟨V.ref d, e1, d, _, rfl, dput_of ed four dr_putT, v2, [], rfl, ?_⟩
    have r4 := r3.drPut hdr x n
    have de3 : Den X.K M (upd (upd H2 q (.tup [V.int n, v2])) d (.dK (drKvs l c x n))) d2 v2 := by
      have q1 : Den X.K M (upd H2 q (.tup [V.int n, v2])) d2 v2 := Den.grow r2.ok (grow_new nq) de2
      exact q1.kept (Kept.mut (r3.m0 d (r3.x0m (.inl ⟨d, l, c, hdr, .inl rfl⟩)))) r3.ok.w
    exact ⟨rfl, k1 M _ _ _ (r4.set de3) hx⟩⟩⟩
/-- the great numbers are taken, as long as there is nothing left -/
def dDrain (i : Nat) : WS := fun E env => env[i]? = some .dr ∧ E.nx env
theorem eqv_int (a b : Int) : PyData.eqv (.int a) (.int b) = decide (a = b) := by
  simp only [PyData.eqv]
  rw [Bool.eq_iff_iff, beq_iff_eq, decide_eq_true_eq]
theorem sh_ints : ∀ ns : List Int, SeqAt.shaped (.list (ns.map PyData.int)) = true := fun ns => by
  have h1 : ∀ l : List Int, PyData.canLayAll0 (l.map PyData.int) = true := fun l => by
    induction l with
    | nil => simp [PyData.canLayAll0]
    | cons a l ih => simp [PyData.canLayAll0, PyData.canLay0, ih]
  have h2 : ∀ l : List Int, PyData.depthAll (l.map PyData.int) = 0 := fun l => by
    induction l with
    | nil => simp [PyData.depthAll]
    | cons a l ih => simp [PyData.depthAll, PyData.depth, ih]
  simp [SeqAt.shaped, PyData.canLay0, PyData.depth, h1, h2]
theorem sh_int (n : Int) : SeqAt.shaped (.int n) = true := by simp [SeqAt.shaped, PyData.canLay0, PyData.depth]
theorem sd_drain (p : PS X st (tWhile (tAnd (tTest (tOp (rEqD X.K) (tDGet (tVar i) (tC (.str "rest"))) (tC (.int 0)))) (tTest (tOp (rNeD X.K) (tDGet (tVar i) (tC (.str "large"))) (tLst tNil))))
    (sDPut (tVar i) (tC (.str "rest")) (tBM X.K "list" rPopAt (tDGet (tVar i) (tC (.str "large"))) (tCons (tC (.int 0)) tNil))))) : SD X B st (dDrain i) := ps_imp p fun D σ H ⟨C, env, M, nx, rt, bk, ct, r, bo, ⟨hd, hx⟩, k1, k2, k3, k4⟩ => by
  obtain ⟨d, l, c, hdr, e1, D0⟩ := r.dr hd
  obtain ⟨ns0, el0⟩ := D0.lg
  refine ⟨fun m σ' H' => σ' = σ ∧ R X.K C M σ H' env ∧ ∃ ns : List Int, H' l = some (.lst (ns.map V.int)) ∧ ns.length = m, ⟨_, rfl, r, ns0, el0, rfl⟩, ?_⟩
  rintro m σ2 H1 ⟨rfl, r1, ns, hl, hm⟩
  have D1 := (r1.drw d l c hdr).1
  obtain ⟨x, t, ed⟩ := D1.dk
  have gR : DGet H1 d (V.str "rest") (some (V.int x)) := dget_of ed dr_rest
  have gL : ∀ {H2 : Hp}, H2 d = some (.dK (drKvs l c x t)) → DGet H2 d (V.str "large") (some (V.ref l)) := fun {H2} e => dget_of e dr_large
  refine ⟨V.ref d, e1, d, V.int x, rfl, gR, .int x, .int 0, .int x, .int 0, sh_int _, sh_int _, _, rfl, ?_⟩
  rw [eqv_int]
  by_cases hx0 : x = 0
  · rw [decide_eq_true hx0]
    show if true = true then _ else _
    rw [if_pos rfl]
    refine ⟨V.ref d, e1, d, V.ref l, rfl, gL ed, by show 0 ≤ sizeLine; decide, fun q nq => ?_⟩
    have r2 := r1.new (o := .lst []) nq
    have hl2 : upd H1 q (.lst []) l = some (.lst (ns.map V.int)) := grow_new nq _ _ hl
    refine ⟨.list (ns.map .int), .list [], .lst (.of hl2) (DenL.dp (M := fun _ => False) _ _ (denL_map (fun _ => by simp [Den]) ns)), .lst (.of upd_same) .nil, sh_ints ns, by decide +kernel, _, rfl, ?_⟩
    cases ns with
    | nil =>
      have e : (!PyData.eqv (.list ([].map PyData.int)) (.list [])) = false := by decide +kernel
      rw [e]
      show if false = true then _ else _
      rw [if_neg Bool.false_ne_true]
      exact k1 M σ2 _ env r2 hx
    | cons a ns =>
      have e : (!PyData.eqv (.list ((a :: ns).map PyData.int)) (.list [])) = true := by simp [PyData.eqv, PyData.eqvAll]
      rw [e]
      show if true = true then _ else _
      rw [if_pos rfl]
      refine ⟨fun σ' H' => σ' = σ2 ∧ R X.K C M σ2 H' env ∧ ∃ ms : List Int, H' l = some (.lst (ms.map V.int)) ∧ ms.length = ns.length, fun σ' H' ⟨q1, q2, ms, q3, q4⟩ => ⟨ns.length, by rw [← hm]; exact Nat.lt_succ_self _, q1, q2, ms, q3, q4⟩, ?_⟩
      have D2 := (r2.drw d l c hdr).1
      have ed2 : upd H1 q (.lst []) d = some (.dK (drKvs l c x t)) := grow_new nq _ _ ed
      refine ⟨V.ref d, e1, d, V.ref l, rfl, gL ed2, .inl ⟨rfl, _, .of hl2⟩, l, _, 0, 0, V.int a, rfl, rfl, hl2, by decide, by decide, ?_, rfl, ?_⟩
      · simp [seqIndex?]
      · have r3 := r2.drLarge hdr ns
        have e2 : ((a :: ns).map V.int).eraseIdx 0 = ns.map V.int := rfl
        rw [e2]
        obtain ⟨x3, t3, ed3⟩ := (r3.drw d l c hdr).1.dk
        refine ⟨V.ref d, e1, d, _, rfl, dput_of ed3 four dr_putR, rfl, ?_, ns, ?_, rfl⟩
        · exact r3.drPut hdr a t3
        · rw [upd_ne D0.nl.1]; exact upd_same
  · rw [decide_eq_false hx0]
    show if false = true then _ else _
    rw [if_neg Bool.false_ne_true]
    show if false = true then _ else _
    rw [if_neg Bool.false_ne_true]
    exact k1 M σ2 H1 env r1 hx
end
end MT
end

section
set_option maxRecDepth 100000
set_option maxHeartbeats 4000000
namespace MT
open PySem PySem.Spec PyProof.Rows L2
/-! the script, the draws' beginning, the law -/
def scD (N : Nat) (j : Nat) (x : PyData) : List Slot := (List.replicate N Slot.un).set j (.d x)
theorem R.scratch {K : PySem.W.Frag} {σ : L2.St} {H : Hp} {j : Nat} {x : PyData} {v : V} (hv : σ[j]? = some (some v)) (hd : ∀ H', Den K (fun _ => False) H' x v) : R K ⟨H, fun _ => False, none, [], []⟩ (fun _ => False) σ H (scD σ.length j x) where
  ext := .refl
  m0 := fun a h => h
  mn := fun a h => .inl h
  ok := fun a h => h.elim
  drw := fun d l c e => nomatch e
  len := by simp [scD]
  hid := fun p hp => nomatch hp
  tab := fun p hp => nomatch hp
  tbm := fun p hp => nomatch hp
  slot := fun i s o e1 e2 => by
    unfold scD at e1
    by_cases h : i = j
    · subst h
      have hi : i < σ.length := (List.getElem?_eq_some_iff.mp hv).1
      rw [List.getElem?_set_self (by simpa using hi)] at e1
      rw [hv] at e2
      cases e1; cases e2
      exact ⟨v, rfl, hd H⟩
    · rw [List.getElem?_set_ne (Ne.symm h), List.getElem?_replicate] at e1
      split at e1
      · cases e1; trivial
      · cases e1
  sep := fun i k a ⟨xs, e1, _⟩ _ => by
    unfold scD at e1
    by_cases h : i = j
    · subst h
      have hi : i < σ.length := (List.getElem?_eq_some_iff.mp hv).1
      rw [List.getElem?_set_self (by simpa using hi)] at e1
      cases e1
    · rw [List.getElem?_set_ne (Ne.symm h), List.getElem?_replicate] at e1
      split at e1 <;> cases e1
theorem R.nothing {K : PySem.W.Frag} {σ : L2.St} {H : Hp} {n : Nat} (hl : n = σ.length) : R K ⟨H, fun _ => False, none, [], []⟩ (fun _ => False) σ H (List.replicate n Slot.un) where
  ext := .refl
  m0 := fun a h => h
  mn := fun a h => .inl h
  ok := fun a h => h.elim
  drw := fun d l c e => nomatch e
  len := by simp [hl]
  hid := fun p hp => nomatch hp
  tab := fun p hp => nomatch hp
  tbm := fun p hp => nomatch hp
  slot := fun i s o e1 e2 => by
    rw [List.getElem?_replicate] at e1
    split at e1
    · cases e1; trivial
    · cases e1
  sep := fun i k a ⟨xs, e1, _⟩ _ => by
    rw [List.getElem?_replicate] at e1
    split at e1 <;> cases e1
theorem wipe_one {σ : L2.St} {j : Nat} : L2.wipe σ [j] = σ.set j none := rfl
/-- ints told of each number of the script -/
theorem sc_lc {K : PySem.W.Frag} {σ : L2.St} {H : Hp} {Q : VK} {i j : Nat} {a : Addr} {ns : List Int} {c : List Slot → W Bool} {el : List Slot → W PyData} (hi : σ[i]? = some (some (V.ref a))) (hj : j < σ.length) (hz : ns.length ≤ 1000) (hs : ∀ H', (∀ b o, H b = some o → H' b = some o) → SqL K H' a (ns.map V.int))
    (hc : ∀ (n : Int) P, (∀ b, P b) → c (scD σ.length j (.int n)) P (fun _ => False)) (hel : ∀ (n : Int) P, (∀ k : Int, P (.int k)) → el (scD σ.length j (.int n)) P (fun _ => False))
    (k : ∀ D (ms : List Int) H', H D = none → (∀ b o, H b = some o → H' b = some o) → H' D = some (.lst (ms.map V.int)) → ms.length ≤ ns.length → Q (.ref D) H') :
    tLc (iList K (tVar i)) (tgOfR K false (tg1 j) [j]) (ttOf K B0 c) (tOf K B0 .s el) [j] σ H Q := by
  refine ⟨V.ref a, hi, a, rfl, ⟨_, hs H fun _ _ z => z⟩, fun D nD => ?_⟩
  refine lc_list (xs := ns.map V.int) (fun i H' => (∀ b o, H b = some o → H' b = some o) ∧ ∃ ms : List Int, H' D = some (.lst (ms.map V.int)) ∧ ms.length ≤ i) ⟨fun b o e => grow_new nD b o e, [], upd_same, Nat.le_refl _⟩ (fun i H' _ ⟨h, _⟩ => hs H' h) ?_ ?_
  · rintro n x H1 hx ⟨hk, ms, hD, hl⟩
    obtain ⟨z, hz1, rfl⟩ : ∃ z, ns[n]? = some z ∧ x = V.int z := by
      rw [List.getElem?_map] at hx
      cases e : ns[n]? with
      | none => rw [e] at hx; cases hx
      | some z => rw [e] at hx; exact ⟨z, rfl, by simpa using hx.symm⟩
    have hn : n < ns.length := (List.getElem?_eq_some_iff.mp hz1).1
    have hsc : (σ.set j none).length = σ.length := List.length_set
    -- the state with the item
    have hv : ((σ.set j none).set j (some (V.int z)))[j]? = some (some (V.int z)) := by rw [List.getElem?_set_self (by rw [hsc]; exact hj)]
    have dz : ∀ H', Den K (fun _ => False) H' (.int z) (V.int z) := fun H' => by simp [Den]
    have hlen : ((σ.set j none).set j (some (V.int z))).length = σ.length := by simp
    -- the target, from a state of nothing
    have r0 : R K ⟨H1, fun _ => False, none, [], []⟩ (fun _ => False) (L2.wipe σ [j]) H1 (List.replicate σ.length Slot.un) := R.nothing (by rw [wipe_one]; simp)
    refine ⟨_, _, _, .int z, _, r0, .inl (dz H1), rfl, fun σ' r4 wp => ⟨?_, ?_⟩⟩
    · rw [wp [j] (by simp), wipe_idem fun i hi => hi]
    · have e0 : (List.replicate σ.length Slot.un).set j (.d (.int z)) = scD σ.length j (.int z) := rfl
      rw [e0] at r4
      refine ⟨_, _, _, fun _ => True, r4, trivial, hc z _ fun _ => trivial, fun H4 b k4 r5 _ => ?_⟩
      have kk : ∀ b o, H1 b = some o → H4 b = some o := fun b o e => k4 b o e x0_none
      cases b with
      | false => exact iteF ⟨fun b o e => kk b o (hk b o e), ms, kk _ _ hD, Nat.le_succ_of_le hl⟩
      | true =>
        refine iteT ⟨_, _, _, fun d => ∃ k : Int, d = .int k, r5, trivial, hel z _ fun k => ⟨k, rfl⟩, fun v H5 d5 k5 r6 de ⟨m, em⟩ => ?_⟩
        subst em
        have ev : v = .int m := by
          have de : Den K (fun _ => False) H5 (.int m) v := de
          simpa only [Den] using de
        subst ev
        have kk5 : ∀ b o, H1 b = some o → H5 b = some o := fun b o e => k5 b o (kk b o e) x0_none
        refine ⟨ms.map V.int, kk5 _ _ hD, by rw [List.length_map, sizeLine_eq]; omega, fun b o e => ?_, ms ++ [m], ?_, by rw [List.length_append]; simp only [List.length_singleton]; omega⟩
        · rw [upd_ne (ne_of_none e nD)]; exact kk5 b o (hk b o e)
        · rw [upd_same, List.map_append]; rfl
  · rintro H2 ⟨hk, ms, hD, hl⟩
    rw [List.length_map] at hl
    exact k D ms H2 nD hk hD hl
/-- what makes the draws -/
def spBegun (K : PySem.W.Frag) : Sp := fun vs H Q E => ∃ (a : Addr) (ns : List Int), vs = [V.ref a] ∧ (∀ H', (∀ b o, H b = some o → H' b = some o) → SqL K H' a (ns.map V.int)) ∧ ns.length ≤ 1000 ∧
  ∀ d l c H', (∀ b o, H b = some o → H' b = some o) → H d = none → H l = none → H c = none → DrawAt H' d l c → Q (.ref d) H'
theorem putK_new {kvs : List (Key × V)} {k : Key} {v : V} (h : ∀ p ∈ kvs, ¬ p.1 = k) : putK kvs k v = kvs ++ [(k, v)] := by
  unfold putK
  rw [if_neg]
  intro z
  obtain ⟨p, hp, e⟩ := List.any_eq_true.mp z
  exact h p hp (of_decide_eq_true e)
theorem dr_merge {l D : Addr} : mergeK [] [((.inr "large" : Key), V.ref l), (.inr "cells", V.ref D), (.inr "rest", V.int 0), (.inr lapKey, V.int 0)] = drKvs l D 0 0 := by
  show putK (κ := Key) (putK (κ := Key) (putK (κ := Key) (putK (κ := Key) [] (.inr "large") (V.ref l)) (.inr "cells") (V.ref D)) (.inr "rest") (V.int 0)) (.inr lapKey) (V.int 0) = _
  rw [putK_new (kvs := []) (fun p hp => nomatch hp)]
  rw [putK_new (k := .inr "cells") (fun p hp => by
    rcases List.mem_cons.mp hp with rfl | hp
    · exact ne_lc
    · exact nomatch hp)]
  rw [putK_new (k := .inr "rest") (fun p hp => by
    rcases List.mem_cons.mp hp with rfl | hp
    · exact ne_lr
    · rcases List.mem_cons.mp hp with rfl | hp
      · exact ne_cr
      · exact nomatch hp)]
  rw [putK_new (k := .inr lapKey) (fun p hp => by
    rcases List.mem_cons.mp hp with rfl | hp
    · exact ne_lt
    · rcases List.mem_cons.mp hp with rfl | hp
      · exact ne_ct
      · rcases List.mem_cons.mp hp with rfl | hp
        · exact ne_rt
        · exact nomatch hp)]
  rfl
/-- {..} of a list in slot 1, a list told of the script, two noughts -/
theorem begun_ret {K : PySem.W.Frag} {σ : L2.St} {H H0 : Hp} {Q : VK} {i j : Nat} {a l : Addr} {ns ms : List Int} {c : List Slot → W Bool} {el : List Slot → W PyData} (hi : σ[i]? = some (some (V.ref a))) (h1 : σ[1]? = some (some (V.ref l))) (hj : j < σ.length) (hz : ns.length ≤ 1000) (hs : ∀ H', (∀ b o, H0 b = some o → H' b = some o) → SqL K H' a (ns.map V.int))
    (hk : ∀ b o, H0 b = some o → H b = some o) (nl : H0 l = none) (hl : H l = some (.lst (ms.map V.int)))
    (hc : ∀ (n : Int) P, (∀ b, P b) → c (scD σ.length j (.int n)) P (fun _ => False)) (hel : ∀ (n : Int) P, (∀ k : Int, P (.int k)) → el (scD σ.length j (.int n)) P (fun _ => False))
    (k : ∀ d l c H', (∀ b o, H0 b = some o → H' b = some o) → H0 d = none → H0 l = none → H0 c = none → DrawAt H' d l c → Q (.ref d) H') :
    tDisp [(tC (.str "large"), tVar 1), (tC (.str "cells"), tLc (iList K (tVar i)) (tgOfR K false (tg1 j) [j]) (ttOf K B0 c) (tOf K B0 .s el) [j]), (tC (.str "rest"), tC (.int 0)), (tC (.str lapKey), tC (.int 0))] σ H Q := by
  intro p np
  refine ⟨V.ref l, h1, ?_⟩
  simp only [tPairs, tC]
  refine sc_lc (H := upd H p (.dK [])) hi hj hz (fun H' h => hs H' fun b o e => h b o (grow_new np b o (hk b o e))) hc hel fun D cs H2 nD h2 hD hcl => ?_
  have nDH : H D = none := by
    by_cases e : D = p
    · subst e; exact np
    · rw [upd_ne e] at nD; exact nD
  have nDp : D ≠ p := fun e => by rw [e, upd_same] at nD; cases nD
  have up : ∀ b, H b = none → H0 b = none := fun b h => by
    cases q : H0 b with
    | none => rfl
    | some o => rw [hk b o q] at h; cases h
  refine ⟨h2 p _ upd_same, [(.inr "large", V.ref l), (.inr "cells", V.ref D), (.inr "rest", V.int 0), (.inr lapKey, V.int 0)], rfl, by show 4 ≤ 15; decide, ?_⟩
  rw [dr_merge]
  have elp : l ≠ p := fun e => by rw [e, np] at hl; cases hl
  have elD : l ≠ D := fun e => by rw [e, nDH] at hl; cases hl
  have h3 : ∀ b o, b ≠ p → H b = some o → upd H2 p (.dK (drKvs l D 0 0)) b = some o := fun b o n e => by
    rw [upd_ne n]; exact h2 b o (by rw [upd_ne n]; exact e)
  refine k p l D _ (fun b o e => h3 b o (fun z => by rw [z, up p np] at e; cases e) (hk b o e)) (up p np) nl (up D nDH) ⟨elD, ⟨0, 0, upd_same⟩, ⟨ms, h3 l _ elp hl⟩, ⟨cs, by rw [upd_ne nDp]; exact hD, by rw [sizeLine_eq]; omega⟩⟩
/-- the law: the draws made, then its body by data -/
def dSc (i : Nat) : List Slot → W PyData := fun env P _ => ∃ ns, env[i]? = some (.sc ns) ∧ P (.int (ns.length : Nat))
theorem pd_lenSc {X : Cx} {B : Bd} {i : Nat} {e : Expr} {p pos : Pos} (hg : Gl X "len") (hm : X.mg "len" = none) (q : PE X e (tVar i)) (h1 : starEach [e] X.env = (false, eval e X.env) :: starEach [] X.env := by rfl) (h2 : (backTo pos (starEach ([] : List Expr) X.env)).any (·.1) = false := by rfl) : PD X B .s (.Call (.Name "len" p) [e] [] pos) (dSc i) :=
  pe_imp (pe_callB call_len hg hm PySem.boot_len (pa_cons q pa_nil h1) (by decide) (by decide) h1 h2) fun σ H Q ⟨C, env, M, P, r, bo, ⟨ns, hs, hp⟩, k⟩ => by
    obtain ⟨o, e1, a, e2, hq⟩ := r.at hs
    subst e2
    refine ⟨V.ref a, e1, V.ref a, _, rfl, .inl ⟨_, hq.sq, rfl⟩, ?_⟩
    rw [List.length_map]
    exact k _ H (.int _) .refl r (by simp [DenF, Den]) hp
/-- inside the law: nothing is raised, the tables stand -/
abbrev BT (T : List (Addr × Str)) : Bd := ⟨fun _ => False, fun C => C.tb = T, fun _ _ h => h⟩
def t_law (K : PySem.W.Frag) (T : List (Addr × Str)) (fb : WS) (i : Nat) : TS := fun D σ H => ∃ (a : Addr) (ns : List Int), σ[0]? = some (some (V.ref a)) ∧ LamX.Tabs T H ∧ (∀ H', (∀ b o, H b = some o → H' b = some o) → SqS K H' a (ns.map V.int)) ∧ ns.length ≤ 1000 ∧ i < σ.length ∧ i ≠ 0 ∧
  fb ⟨fun _ => False, fun _ d => d = .bool true, fun _ => False, fun _ => False, fun _ => False⟩ (((List.replicate σ.length Slot.un).set 0 (.sc ns)).set i .dr) ∧ (∀ v H', v = .bl true → D.rt v H')
theorem law_start {X : Cx} {st : Stmt} {rest : List Stmt} {fb : WS} {i : Nat} {E : XK} (p0 : PS X st (tAsg (tCall (spBegun X.K) [] E (tCons (tVar 0) tNil)) (gName i))) {T : List (Addr × Str)} (q : SDs X (BT T) rest fb) : PSs X (st :: rest) (t_law X.K T fb i) := by
  refine pss_imp (pss_cons p0 q) fun D σ H ⟨a, ns, e0, hT, hS, hz, hi, hi0, hf, hQ⟩ => ?_
  refine ⟨V.ref a, e0, ?_⟩
  simp only [tNil, List.append_nil]
  refine ⟨a, ns, rfl, fun H' k => (hS H' k).sq, hz, fun d l c H' kk nd nl nc Dw => ?_⟩
  have ne := Dw.nl
  have tT := hT.ext kk
  have r : R X.K ⟨H', fun b => (b = d ∨ b = l) ∨ ∃ p ∈ T, b = p.1, some (d, l, c), [], T⟩ (fun b => (b = d ∨ b = l) ∨ ∃ p ∈ T, b = p.1) (σ.set i (some (V.ref d))) H' (((List.replicate σ.length Slot.un).set 0 (.sc ns)).set i .dr) := {
    ext := .refl
    m0 := fun a h => h
    mn := fun a h => .inl h
    ok := fun b h => by
      obtain ⟨x, t, e⟩ := Dw.dk
      obtain ⟨ms, e1⟩ := Dw.lg
      rcases h with (rfl | rfl) | ⟨p, hp, rfl⟩
      · exact ⟨_, e, trivial⟩
      · exact ⟨_, e1, trivial⟩
      · obtain ⟨ps, e2, _⟩ := tT p hp
        exact ⟨_, e2, trivial⟩
    tab := tT
    tbm := fun p hp => .inr ⟨p, hp, rfl⟩
    drw := fun d' l' c' e => by
      cases e
      refine ⟨Dw, .inl (.inr rfl), fun z => ?_, .inl (.inl rfl)⟩
      rcases z with (z | z) | ⟨p, hp, rfl⟩
      · exact ne.2 z
      · exact Dw.ne z.symm
      · obtain ⟨ps, e2, _⟩ := tT p hp
        obtain ⟨ms, e3, _⟩ := Dw.cl
        rw [e2] at e3; cases e3
    len := by simp
    hid := fun p hp => nomatch hp
    slot := fun j s o e1 e2 => by
      by_cases h : j = i
      · subst h
        rw [List.getElem?_set_self (by simpa using hi)] at e1
        rw [List.getElem?_set_self hi] at e2
        cases e1; cases e2
        exact ⟨d, l, c, rfl, rfl⟩
      · rw [List.getElem?_set_ne (Ne.symm h)] at e1 e2
        by_cases h0 : j = 0
        · subst h0
          rw [List.getElem?_set_self (by simp; omega)] at e1
          rw [e0] at e2
          cases e1; cases e2
          exact ⟨a, rfl, hS H' kk⟩
        · rw [List.getElem?_set_ne (Ne.symm h0), List.getElem?_replicate] at e1
          split at e1
          · cases e1; trivial
          · cases e1
    sep := fun j k b ⟨xs, e1, _⟩ _ => by
      by_cases h : j = i
      · subst h
        rw [List.getElem?_set_self (by simpa using hi)] at e1
        cases e1
      · rw [List.getElem?_set_ne (Ne.symm h)] at e1
        by_cases h0 : j = 0
        · subst h0
          rw [List.getElem?_set_self (by simp; omega)] at e1
          cases e1
        · rw [List.getElem?_set_ne (Ne.symm h0), List.getElem?_replicate] at e1
          split at e1 <;> cases e1 }
  refine ⟨_, _, _, _, _, _, _, r, rfl, hf, fun _ _ _ _ _ z => z.elim, fun M' σ' v H2 env' x r' de e => ?_, fun _ _ _ _ _ z => z.elim, fun _ _ _ _ _ z => z.elim⟩
  have e : x = .bool true := e
  subst e
  exact hQ v H2 (by simpa only [Den] using de)
/-- at most the script and tables are tracked -/
def OnlyT (H : Hp) : Prop := ∀ b, H b = none ∨ (∃ o xs, H b = some (.frz o (.lst xs))) ∨ ∃ ps, H b = some (.tbl ps)
/-- the promise of the law -/
def spLaw (K : PySem.W.Frag) (T : List (Addr × Str)) : Sp := fun vs H Q _ => ∃ (a : Addr) (ns : List Int), vs = [V.ref a] ∧ OnlyT H ∧ LamX.Tabs T H ∧ SqL K H a (ns.map V.int) ∧ ns.length ≤ 63 ∧ ∀ v H', v = V.bl true → Q v H'
theorem law_of {T : List (Addr × Str)} {P : Program} {w : World} {K : PySem.W.Frag} {mg : Str → Option Value} {base : Heap} {k i : Nat} {f : Addr} {x qual : Str} {pr : Arguments} {st : Stmt} {rest : List Stmt} {sc : Scope} {dvs : List V} {kws : List (Str × V)} {fd : FuncData} {N : List Str} {p : Str} {fb : WS} (F : FunD K x qual pr (st :: rest) sc dvs kws f fd) (S : FnScope N [p] sc)
    (hi : i < N.length) (hi0 : i ≠ 0)
    (der0 : ∀ (X : Cx), X.prog = P → X.w = w → X.K = K → X.mg = mg → X.base = base → (∀ y, X.fn y = true) → Cf X (BT T) N sc k → ∃ E, PS X st (tAsg (tCall (spBegun X.K) [] E (tCons (tVar 0) tNil)) (gName i)))
    (der : ∀ (X : Cx), X.prog = P → X.w = w → X.K = K → X.mg = mg → X.base = base → (∀ y, X.fn y = true) → Cf X (BT T) N sc k → X.env.qual = qual ++ ".<locals>." → X.env.code = fd.code → SDs X (BT T) rest fb)
    (true_ : ∀ ns : List Int, ns.length ≤ 63 → fb ⟨fun _ => False, fun _ d => d = .bool true, fun _ => False, fun _ => False, fun _ => False⟩ (((List.replicate N.length Slot.un).set 0 (.sc ns)).set i .dr)) :
    FnG P w K mg base (k + 1) f fd 1 [p] (spLaw K T) := by
  refine fng_of F S (fun vs H Q E h => ?_) (fun cdv A outer s H vs Q E hcd hr hg h => ?_)
  · obtain ⟨a, ns, rfl, _⟩ := h; rfl
  · obtain ⟨a, ns, rfl, hO, hT, hS, hz, hQ⟩ := h
    have cf : Cf (cxOf (L2.CX P w) P w K mg base N qual sc f cdv A outer s H E) (BT T) N sc k := ⟨rfl, rfl, S.nd, rfl, hr, hg, passes_of rfl, E, passes_call (takes_of rfl rfl rfl rfl) fun _ _ _ _ h => h, fun _ _ _ _ _ _ z => z.elim, takes_of rfl rfl rfl rfl⟩
    obtain ⟨E0, p0⟩ := der0 _ rfl rfl rfl rfl rfl (fun _ => rfl) cf
    have hlen : (L2.start N [V.ref a]).length = N.length := by unfold L2.start; simp; omega
    refine ⟨_, law_start p0 (der _ rfl rfl rfl rfl rfl (fun _ => rfl) cf rfl hcd.symm), a, ns, ?_, hT, fun H' kk => ?_, by omega, by rw [hlen]; exact hi, hi0, by rw [hlen]; exact true_ ns hz, hQ⟩
    · unfold L2.start; rfl
    · rcases hS with (h | ⟨o, h⟩) | h
      · rcases hO a with z | ⟨o, xs, z⟩ | ⟨ps, z⟩ <;> (rw [h] at z; cases z)
      · exact .inl ⟨o, kk _ _ h⟩
      · exact .inr h
end MT
end

section
set_option maxRecDepth 100000
set_option maxHeartbeats 4000000
namespace MT
open PySem PySem.Spec PyProof.Rows L2
/-! the end: the law's def, called on the script -/
section
variable {P : Program} {w : World} {K : PySem.W.Frag} {mg mb : Str → Option Value} {k : Nat} {fa a : Addr} {fd : FuncData} {x : Str} {s₁ : Shared} {vs : List Value} {ns : List Int}
abbrev scriptO (vs : List Value) : Obj := { cls := .type "list", data := .seq vs.toArray }
abbrev emptyT : Obj := { cls := .none, data := .fields #[] }
/-- .. where at most the script and the tables are tracked -/
theorem law_from {cs : List (Addr × Addr)} {T : List (Addr × Str)} (kin : K.In s₁.heap) (g1 : s₁.heap.Ns mainGlobals mg) (g2 : s₁.heap.Ns builtinsNs mb) (g3 : ∀ y : Str, y ≠ "__name__" → mb y = bootBuiltins y) (g4 : s₁.heap.NoLimit) (g5 : s₁.gens = #[])
    (hT : ∀ p ∈ cs, s₁.heap.get? p.2 = some emptyT) (hC : ∀ p ∈ cs, PySem.W.CodeHd s₁.heap p.1 p.2) (hbm : ∃ (bm : Addr) (ob : Obj), mg "__builtins__" = some (.ref bm) ∧ bm ≠ builtinsNs ∧ s₁.heap.get? bm = some ob ∧ ob.cls = .type "module" ∧ ob.dict = some builtinsNs ∧ ob.data = .plain)
    (ha : s₁.heap.get? a = some (scriptO vs)) (len : ns.length ≤ 63) (hr : Room k callerA) (F : ∀ base : Heap, K.In base → base.Ns mainGlobals mg → (∀ p ∈ cs, LamX.TabB base mg p.1 p.2) → FnG P w K mg base k fa fd 1 [x] (spLaw K T)) (bnd : ∀ (s : Shared) (u : Value), BindsTo s fd ⟨[u], []⟩ [(x, u)])
    {H : Hp} (sq : SqL K H a (ns.map V.int)) (ok : HOk P w H s₁.heap) (al : ∀ b, H b ≠ none → (b = a ∧ ∃ o xs, H b = some (.frz o (.lst xs))) ∨ (H b = some (.tbl #[]) ∧ ∃ p ∈ cs, b = p.2)) (kn : ∀ b, H b ≠ none → K.lookup b = none) (tb : LamX.Tabs T H) :
    codeAny (model P w) callerA (.call (.ref fa) ⟨[.ref a], []⟩) (fun r s' => r = .ok (.ret (.bool true)) ∧ OldK s₁.heap s'.heap ∧ s'.os = s₁.os ∧ AllBare s'.gens) s₁ := by
  have on : OnlyT H := fun b => by
    cases q : H b with
    | none => exact .inl rfl
    | some u =>
      rcases al b (by rw [q]; simp) with ⟨_, o, xs, z⟩ | ⟨z, _⟩
      · exact .inr (.inl ⟨o, xs, q.symm.trans z⟩)
      · exact .inr (.inr ⟨_, q.symm.trans z⟩)
  -- what stands elsewhere than the script and the tables is not tracked
  have free : ∀ {b : Addr} {o : Obj}, s₁.heap.get? b = some o → o.data ≠ Data.seq vs.toArray → o.data ≠ Data.fields #[] → H b = none := fun {b o} e n1 n2 => by
    cases q : H b with
    | none => rfl
    | some u =>
      exfalso
      rcases al b (by rw [q]; simp) with ⟨z, _⟩ | ⟨_, p, hp, z⟩
      · rw [z, ha] at e; cases e; exact n1 rfl
      · rw [z, hT p hp] at e; cases e; exact n2 rfl
  have hid : ∀ {b : Addr} {o : Obj}, s₁.heap.get? b = some o → o.data ≠ Data.seq vs.toArray → o.data ≠ Data.fields #[] → (hidT s₁.heap H).get? b = some o := fun e n1 n2 => hidT_get e (free e n1 n2)
  have nsd : ∀ {b : Addr} {m : Str → Option Value}, s₁.heap.Ns b m → (hidT s₁.heap H).Ns b m := by
    rintro b m ⟨o, es, ep, e, d, rest⟩
    exact ⟨o, es, ep, hid e (by rw [d]; exact fun z => nomatch z) (by rw [d]; exact fun z => nomatch z), d, rest⟩
  have kb : K.In (hidT s₁.heap H) := fun b o e => by
    refine hidT_get (kin b o e) ?_
    cases q : H b with
    | none => rfl
    | some u => rw [kn b (by rw [q]; simp)] at e; cases e
  have md : Mod K mg (hidT s₁.heap H) := by
    obtain ⟨mc, h1, h2⟩ := g4
    exact ⟨kb, nsd g1, ⟨mb, nsd g2, g3⟩, ⟨mc, nsd h1, h2⟩⟩
  have TB : ∀ p ∈ cs, LamX.TabB (hidT s₁.heap H) mg p.1 p.2 := fun p hp => by
    refine ⟨?_, ?_, fun z => ?_⟩
    · obtain ⟨o, us, f1, f2, f3, f4, f5, f6, f7, e, r1, r2, r3, rest⟩ := hC p hp
      refine ⟨o, us, f1, f2, f3, f4, f5, f6, f7, hid e (by rw [r2]; exact fun z => nomatch z) (fun z => ?_), r1, r2, r3, rest⟩
      rw [r2] at z
      cases z
      simp at r3
    · obtain ⟨bm, ob, b1, b2, b3, b4, b5, b6⟩ := hbm
      refine ⟨bm, ob, b1, b2, fun z => ?_, fun z => ?_, hid b3 (by rw [b6]; exact fun z => nomatch z) (by rw [b6]; exact fun z => nomatch z), b4, b5, b6⟩
      · obtain ⟨o, es, ep, e, hd, _⟩ := g1
        rw [z, e] at b3; cases b3
        rw [b6] at hd; cases hd
      · rw [z, hT p hp] at b3; cases b3; cases b6
    · obtain ⟨o, es, ep, e, hd, _⟩ := g1
      rw [z, hT p hp] at e
      cases e; cases hd
  have noB : ∀ b : Addr, b ∈ ([] : List Addr) → False := fun b h => by cases h
  have e0 : Env0 P w K mg (hidT s₁.heap H) callerA [] s₁ H := ⟨rfl, md, fun b o e => of_hidT e, Nat.le_of_eq (hidT_size _ _), trivial, fun b h => (noB b h).elim, ok, .of_eq g5⟩
  have go := (F _ kb (nsd g1) TB).run callerA [] s₁ H ⟨[.ref a], []⟩ [.ref a] [.ref a] (fun v _ => v = V.bl true) (fun _ _ _ => False) hr rfl e0 (bnd s₁ (.ref a)) (.cons rfl .nil) ⟨a, ns, rfl, on, tb, sq, len, fun _ _ h => h⟩
  refine codeAny_mono go fun r s' h => ?_
  cases r with
  | error e =>
    obtain ⟨_, _, _, _, _, _, _, _, _, _, _, _, z⟩ := h
    exact z.elim
  | ok fl =>
    cases fl with
    | ret u =>
      obtain ⟨v, H', os, bare, un, ok', rv, e⟩ := h
      have e : v = V.bl true := e
      subst e
      have eu : u = Value.bool true := rv
      subst eu
      have fate : ∀ b o, s₁.heap.get? b = some o → s'.heap.get? b = some o ∨ ∃ p ∈ cs, b = p.2 ∧ o = emptyT ∧ ∃ more : Array Value, s'.heap.get? b = some { cls := .none, data := .fields more } := fun b o g => by
        cases q : H b with
        | none => exact .inl (un.keep b o g q (fun z => noB b z) (by simp))
        | some u =>
          rcases al b (by rw [q]; simp) with ⟨_, ob, xs, z⟩ | ⟨z, p, hp, ep⟩
          · obtain ⟨i1, _⟩ := ok b _ z
            obtain ⟨i2, _⟩ := ok' b _ (un.frzs b ob _ z)
            rw [g] at i1
            cases i1
            exact .inl i2
          · obtain ⟨more, z2⟩ := un.tbls b #[] z
            refine .inr ⟨p, hp, ep, ?_, _, ok' b _ z2⟩
            rw [ep, hT p hp] at g
            exact (Option.some.inj g).symm
      refine ⟨rfl, ⟨fun b o g => ?_, fun b o g => ?_⟩, os, bare⟩
      · rcases fate b o g with h | ⟨p, hp, ep, eo, more, h⟩
        · exact .inl h
        · subst ep eo
          exact .inr (.inl ⟨((hC p hp).tab (hT p hp)).isCodeTable, rfl, #[], more, rfl, by rw [Array.empty_append]; exact h⟩)
      · rcases fate b o g with h | ⟨p, hp, ep, eo, more, h⟩
        · exact ⟨o, h⟩
        · exact ⟨_, h⟩
    | next => exact h.elim
    | brk => exact h.elim
    | cont => exact h.elim
theorem law_callG {cs : List (Addr × Addr)} {T : List (Addr × Str)} (hTc : ∀ p ∈ T, ∃ q ∈ cs, p.1 = q.2) (kin : K.In s₁.heap) (g1 : s₁.heap.Ns mainGlobals mg) (g2 : s₁.heap.Ns builtinsNs mb) (g3 : ∀ y : Str, y ≠ "__name__" → mb y = bootBuiltins y) (g4 : s₁.heap.NoLimit) (g5 : s₁.gens = #[])
    (hT : ∀ p ∈ cs, s₁.heap.get? p.2 = some emptyT) (nT : ∀ p ∈ cs, K.lookup p.2 = none) (hC : ∀ p ∈ cs, PySem.W.CodeHd s₁.heap p.1 p.2) (hbm : ∃ (bm : Addr) (ob : Obj), mg "__builtins__" = some (.ref bm) ∧ bm ≠ builtinsNs ∧ s₁.heap.get? bm = some ob ∧ ob.cls = .type "module" ∧ ob.dict = some builtinsNs ∧ ob.data = .plain)
    (ha : s₁.heap.get? a = some (scriptO vs)) (iv : IntsAre vs ns) (len : ns.length ≤ 63) (hr : Room k callerA) (F : ∀ base : Heap, K.In base → base.Ns mainGlobals mg → (∀ p ∈ cs, LamX.TabB base mg p.1 p.2) → FnG P w K mg base k fa fd 1 [x] (spLaw K T)) (bnd : ∀ (s : Shared) (u : Value), BindsTo s fd ⟨[u], []⟩ [(x, u)]) :
    codeAny (model P w) callerA (.call (.ref fa) ⟨[.ref a], []⟩) (fun r s' => r = .ok (.ret (.bool true)) ∧ OldK s₁.heap s'.heap ∧ s'.os = s₁.os ∧ AllBare s'.gens) s₁ := by
  have rv := vals_ints iv
  have z63 : ns.length ≤ sizeLine := by rw [sizeLine_eq]; omega
  have aT : ∀ q ∈ cs, a ≠ q.2 := fun q hq z => by
    have := hT q hq
    rw [← z, ha] at this
    cases this
  let tbs : Hp := fun b => if b ∈ cs.map (·.2) then some (.tbl #[]) else none
  have tbY : ∀ {b}, b ∈ cs.map (·.2) → tbs b = some (.tbl #[]) := fun h => if_pos h
  have tbN : ∀ {b}, b ∉ cs.map (·.2) → tbs b = none := fun h => if_neg h
  have mem : ∀ {b}, b ∈ cs.map (·.2) → ∃ p ∈ cs, b = p.2 := fun h => by
    obtain ⟨p, hp, e⟩ := List.mem_map.mp h
    exact ⟨p, hp, e.symm⟩
  have aN : a ∉ cs.map (·.2) := fun z => by
    obtain ⟨p, hp, e⟩ := mem z
    exact aT p hp e
  have tabs : ∀ {H : Hp}, (∀ b, b ∈ cs.map (·.2) → H b = some (.tbl #[])) → LamX.Tabs T H := fun {H} h p hp => by
    obtain ⟨q, hq, e⟩ := hTc p hp
    exact LamX.TabS.nil (h p.1 (List.mem_map.mpr ⟨q, hq, e.symm⟩))
  cases q : K.lookup a with
  | none =>
    let H : Hp := fun b => if b = a then some (.frz (scriptO vs) (.lst (ns.map V.int))) else tbs b
    have hA : H a = some (.frz (scriptO vs) (.lst (ns.map V.int))) := if_pos rfl
    have hN : ∀ {b : Addr}, ¬ b = a → H b = tbs b := fun {b} n => if_neg n
    refine law_from (cs := cs) (H := H) kin g1 g2 g3 g4 g5 hT hC hbm ha len hr F bnd (.inl (.inr ⟨_, hA⟩)) (fun b u e => ?_) (fun b n => ?_) (fun b n => ?_) (tabs fun b hb => ?_)
    · rcases Decidable.em (b = a) with rfl | n
      · rw [hA] at e
        cases e
        exact ⟨ha, by rw [List.length_map]; exact z63, vs, _, rv, ha⟩
      · rw [hN n] at e
        rcases Decidable.em (b ∈ cs.map (·.2)) with m | m
        · rw [tbY m] at e; cases e
          obtain ⟨p, hp, rfl⟩ := mem m
          exact hT p hp
        · rw [tbN m] at e; cases e
    · rcases Decidable.em (b = a) with rfl | z
      · exact .inl ⟨rfl, _, _, hA⟩
      · rw [hN z] at n ⊢
        rcases Decidable.em (b ∈ cs.map (·.2)) with m | m
        · exact .inr ⟨tbY m, mem m⟩
        · exact absurd (tbN m) n
    · rcases Decidable.em (b = a) with rfl | z
      · exact q
      · rw [hN z] at n
        rcases Decidable.em (b ∈ cs.map (·.2)) with m | m
        · obtain ⟨p, hp, rfl⟩ := mem m
          exact nT p hp
        · exact absurd (tbN m) n
    · rw [hN fun z => aN (z ▸ hb)]; exact tbY hb
  | some o =>
    have e := kin a o q
    rw [ha] at e
    cases e
    refine law_from (cs := cs) (H := tbs) kin g1 g2 g3 g4 g5 hT hC hbm ha len hr F bnd (.inr ⟨_, vs.toArray, _, q, rfl, rfl, rfl, by rw [List.size_toArray, iv.length]; exact z63, by simpa using rv⟩) (fun b u e => ?_) (fun b n => ?_) (fun b n => ?_) (tabs fun b hb => tbY hb)
    · rcases Decidable.em (b ∈ cs.map (·.2)) with m | m
      · rw [tbY m] at e; cases e
        obtain ⟨p, hp, rfl⟩ := mem m
        exact hT p hp
      · rw [tbN m] at e; cases e
    · rcases Decidable.em (b ∈ cs.map (·.2)) with m | m
      · exact .inr ⟨tbY m, mem m⟩
      · exact absurd (tbN m) n
    · rcases Decidable.em (b ∈ cs.map (·.2)) with m | m
      · obtain ⟨p, hp, rfl⟩ := mem m
        exact nT p hp
      · exact absurd (tbN m) n
end
/-- the walk of a law whose head is told by facts -/
theorem walk_ofG {l : PySem.W.OpenLaw} {k : Nat} {q : Program} {loose : List Str} {XP : (Str → Option Value) → Heap → Prop} {YP : World → Heap → Prop} {d : DefRec} {x : Str} (hn : l.most = some 63) (hd : d.params.defaults = []) (hr : Room k callerA)
    (F : ∀ (w : World) (mg : Str → Option Value) (fa : Addr) (h : Heap), YP w h → h.Ns mainGlobals mg → mg d.name = some (.ref fa) →
      ∃ (K : PySem.W.Frag) (fd : FuncData) (cs : List (Addr × Addr)) (T : List (Addr × Str)), K.In h ∧ (∀ (s : Shared) (u : Value), BindsTo s fd ⟨[u], []⟩ [(x, u)]) ∧ (∀ p ∈ T, ∃ q ∈ cs, p.1 = q.2) ∧ (∀ p ∈ cs, h.get? p.2 = some emptyT) ∧ (∀ p ∈ cs, K.lookup p.2 = none) ∧ (∀ p ∈ cs, PySem.W.CodeHd h p.1 p.2) ∧
        ∀ base : Heap, K.In base → base.Ns mainGlobals mg → (∀ p ∈ cs, LamX.TabB base mg p.1 p.2) → FnG l.prog w K mg base k fa fd 1 [x] (spLaw K T)) :
    PySem.W.WalkO q loose XP YP l.row.toRowW d [] (fun f vs => PySem.call f vs) := by
  apply Att.attach_call hn hd
  intro w s₀ s₁ mg mb fa o pm cd doc a vs ns G Y ho hd' hcd hmg hobj hints hlen hg
  obtain ⟨K, fd, cs, T, kin, bnd, h1, h2, h3, h4, hF⟩ := F w mg fa _ Y G.T.g hmg
  exact law_callG h1 kin G.T.g G.T.b G.T.builtins G.T.nolimit hg h2 h3 h4 G.T.bmain hobj hints hlen hr hF bnd
end MT
end

section
set_option maxRecDepth 100000
set_option maxHeartbeats 4000000
namespace MT
open PySem PySem.Spec PyProof.Rows L2
/-! plain data: loops, comprehensions -/
theorem forW_inv {t : TgD} {body : WS} {E : DE} : ∀ {items : List PyData} {env : List Slot} (I : Nat → List Slot → Prop), I 0 env → (∀ i x env (nx : List Slot → Prop), items[i]? = some x → I i env → (∀ env', I (i + 1) env' → nx env') → ∃ env', t x env = some env' ∧ body ⟨nx, E.rt, E.nx, nx, E.er⟩ env') →
    (∀ env, I items.length env → E.nx env) → forW t body items E env
  | [], env, I, h0, hs, hd => hd env h0
  | x :: r, env, I, h0, hs, hd => hs 0 x env _ rfl h0 fun env' h => forW_inv (items := r) (fun i => I (i + 1)) h (fun i y env nx e => hs (i + 1) y env nx (by simpa using e)) (fun env h => hd env h)
theorem lcW_all {t : TgD} {c : List Slot → W Bool} {el : List Slot → W PyData} {env : List Slot} {E : Exn → Prop} (sel : PyData → Bool) (g : PyData → PyData) : ∀ (items : List PyData), (∀ x ∈ items, ∃ env', t x env = some env' ∧ (∀ P, P (sel x) → c env' P E) ∧ (sel x = true → ∀ P, P (g x) → el env' P E)) →
    ∀ P, P ((items.filter sel).map g) → lcW t c el env items P E
  | [], _, P, hp => hp
  | x :: r, h, P, hp => by
    obtain ⟨env', e1, e2, e3⟩ := h x List.mem_cons_self
    refine ⟨env', e1, e2 _ ?_⟩
    have hr := fun y hy => h y (List.mem_cons_of_mem _ hy)
    by_cases s : sel x = true
    · rw [if_pos s]
      refine e3 s _ (lcW_all sel g r hr _ ?_)
      rw [List.filter_cons_of_pos s] at hp
      exact hp
    · rw [if_neg s]
      rw [List.filter_cons_of_neg s] at hp
      exact lcW_all sel g r hr _ hp
/-- without a test -/
theorem lcW_map {t : TgD} {el : List Slot → W PyData} {env : List Slot} {E : Exn → Prop} (g : PyData → PyData) : ∀ (items : List PyData), (∀ x ∈ items, ∃ env', t x env = some env' ∧ ∀ P, P (g x) → el env' P E) → ∀ P, P (items.map g) → lcW t bYes el env items P E
  | [], _, P, hp => hp
  | x :: r, h, P, hp => by
    obtain ⟨env', e1, e2⟩ := h x List.mem_cons_self
    exact ⟨env', e1, e2 _ (lcW_map g r (fun y hy => h y (List.mem_cons_of_mem _ hy)) _ hp)⟩
theorem keysU_nd : ∀ (l acc : List Int), (acc ++ l).Nodup → keysU acc l = acc ++ l
  | [], acc, _ => by simp [keysU]
  | k :: l, acc, h => by
    have hk : k ∉ acc := fun z => by
      rw [List.nodup_append] at h
      exact h.2.2 k z k List.mem_cons_self rfl
    unfold keysU
    rw [if_neg hk, keysU_nd l (acc ++ [k]) (by rw [List.append_assoc]; exact h), List.append_assoc]
    rfl
theorem intsOf_map : ∀ l : List Int, intsOf (l.map PyData.int) = some l
  | [] => rfl
  | a :: l => by simp only [List.map_cons, intsOf, intsOf_map l]; rfl
/-- what may be drawn on the way -/
theorem lcW_any {t : TgD} {el : List Slot → W PyData} {env : List Slot} {E : Exn → Prop} (Q : PyData → Prop) : ∀ (items : List PyData), (∀ x ∈ items, ∃ env', t x env = some env' ∧ ∀ P, (∀ y, Q y → P y) → el env' P E) →
    ∀ P, (∀ ys : List PyData, ys.length = items.length → (∀ y ∈ ys, Q y) → P ys) → lcW t bYes el env items P E
  | [], _, P, hp => hp [] rfl (fun _ h => nomatch h)
  | x :: r, h, P, hp => by
    obtain ⟨env', e1, e2⟩ := h x List.mem_cons_self
    refine ⟨env', e1, ?_⟩
    show el env' _ E
    refine e2 _ fun y hy => lcW_any Q r (fun z hz => h z (List.mem_cons_of_mem _ hz)) _ fun ys hl hys => hp _ (by simp [hl]) fun z hz => ?_
    rcases List.mem_cons.mp hz with rfl | hz
    · exact hy
    · exact hys z hz
end MT
end

section
set_option maxRecDepth 100000
set_option maxHeartbeats 4000000
namespace MT
open PySem PySem.Spec PyProof.Rows L2
/-! an error that is caught and kept -/
section
variable {X : Cx} {pins : List (Addr × Obj)} {σ : L2.St} {H : Hp} {s : Shared}
/-- an error's object, new since the def was entered, is tracked from now on -/
theorem inv_track {a : Addr} {oe : Obj} {vs : Array Value} {cls : Value} {d : Option Addr} (I : Inv X pins σ H s) (ha : s.heap.get? a = some oe) (hz : Zc cls d oe) (hd : oe.data = .fields vs) (na : H a = none)
    (n0 : X.s_0.heap.get? a = none) (nL : a ≠ X.env.locals) (nP : ∀ p ∈ X.pn ++ pins, p.1 ≠ a) : Inv X pins σ (upd H a (ExT cls d a)) s := by
  have ok' : ObjOk X.prog X.w (upd H a (ExT cls d a)) s.heap a (ExT cls d a) := ⟨⟨oe, vs, ha, hz, hd⟩, ⟨oe, ha⟩, fun h1 h2 q k => by
    obtain ⟨o, v, q1, q2⟩ := q
    exact ⟨o, v, k o q1, q2⟩⟩
  have other : ∀ {b : Addr} {u : HO}, H b = some u → upd H a (ExT cls d a) b = some u := fun {b u} e => by rw [upd_ne (ne_of_none e na)]; exact e
  refine ⟨I.ok, I.os, I.bare, ⟨I.base.keep, I.base.slot, fun b o e n hx => ?_, I.base.there, fun b xs e => other (I.base.tups b xs e), fun b o u e => other (I.base.frzs b o u e), fun b ps e => ?_⟩, I.loc, I.cell, ?_, fun x c e => ?_, fun p hp => ?_, HOk.laidN I.hok (fun _ _ e => e) na ok', I.len⟩
  · have nb : b ≠ a := fun z => by rw [z, n0] at e; cases e
    rw [upd_ne nb]; exact I.base.free b o e n hx
  · obtain ⟨m, q⟩ := I.base.tbls b ps e
    exact ⟨m, other q⟩
  · rw [upd_ne (Ne.symm nL)]; exact I.free
  · have nc : c ≠ a := fun z => by
      obtain ⟨v, o, q1, q2⟩ := I.cell x c e
      rw [z, ha] at q1; cases q1
      rw [hd] at q2; cases q2
    rw [upd_ne nc]; exact I.freeC x c e
  · obtain ⟨q1, q2, q3⟩ := I.pin p hp
    exact ⟨q1, by rw [upd_ne (nP p hp)]; exact q2, q3⟩
end
/-- the wish of what is raised: it is caught by c, its object comes to the slot j (i: the clause's own name, which goes) -/
def wKeep (K : PySem.W.Frag) (c : Value) (j : Nat) (D : Ends) : WX := fun cls d σ H =>
  PySem.W.exmOne K cls c = some true ∧ ∀ a σ2, H a = none → σ2[j]? = some (some (V.ref a)) → D.nx σ2 (upd H a (ExT cls d a))
section
variable {X : Cx} {x n m : Str} {c : Value} {i j : Nat} {body : List Stmt} {p1 p2 p3 p4 p5 p6 : Pos} {tb : WX → TS}
/-- try: body / except x as n: m = n -/
theorem ps_keep (hs : X.stack = X.env :: X.outer) (hf : X.env.frame = some X.env.locals) (hex : X.ex = []) (hN : X.N.Nodup) (hi : X.N[i]? = some n) (hj : X.N[j]? = some m) (hij : i ≠ j) (hln : X.env.kindOf n = some .local) (hlm : X.env.kindOf m = some .local) (hc : Names X x c) (hdn : (n == ("__debug__" : Str)) = false) (hcn : (n == ("__classdict__" : Str)) = false)
    (hb : ∀ (W : WX) (pn : List (Addr × Obj)) (xe : Value → Shared → Prop), Takes (X.tr pn xe) W → PassesOwn (model X.prog X.w) X.A X.env xe → PSs (X.tr pn xe) body (tb W)) :
    PS X (.Try body [.ExceptHandler (some (.Name x p1)) (some n) [.Assign [.Name m p2] (.Name n p3) p4] p5] [] [] p6) (fun D σ H => tb (wKeep X.K c j D) D σ H) := by
  refine ⟨fun pins s σ H D I hyp => ?_⟩
  have okX := I.ok
  have frames : X.A.frames = some (X.env :: X.outer) := okX.frames.trans (congrArg some hs)
  let hl := [ExceptHandler.ExceptHandler (some (.Name x p1)) (some n) [.Assign [.Name m p2] (.Name n p3) p4] p5]
  refine wpAny_Try_except (wpAny_mono ((hb (wKeep X.K c j D) (X.pn ++ pins) (fun e t => wpAny (model X.prog X.w) X.A (noteFrame e X.env) (fun _ t2 => wpAny (model X.prog X.w) X.A (setFlight e none) (fun _ t3 =>
    wpAny (model X.prog X.w) X.A (handleBy e X.env hl) (SP X pins D) X.xe t3) X.xe t2) X.xe t) (fun u t xx => ?_) PassesOwn.looking).run [] s σ H D (I.toTry _) hyp) (fun fl t hfl => ?_) (fun e t z => z))
  · obtain ⟨a, B, sI, _, σ1, H1, cls, d, rfl, J0, nb, up, sky, na, os, bare, caught, next⟩ := xx
    have J : Inv X pins σ1 H1 sI := J0.ofTry okX
    show wpAny (model X.prog X.w) X.A (noteFrame (.ref a) X.env) _ _ _
    refine Sky.land Zc.steady frames hf (by rw [← hs]; exact sky) fun h2 fly2 up2 => ?_
    have J2 : Inv X pins σ1 H1 { t with heap := h2 } := J.landed nb fly2.1 (up.trans up2) os bare
    obtain ⟨oe, fv, at2, zc2, dt2⟩ := fly2.there
    have notFrame : a ∉ frs X.stack := fun z => by
      rw [hs] at z
      obtain ⟨_, o, e, bad⟩ := fly2.2.2.1.mem z
      rw [at2] at e; cases e
      exact bad _ dt2
    have nL : a ≠ X.env.locals := fun z => notFrame (by rw [hs]; exact List.mem_filterMap.mpr ⟨X.env, List.mem_cons_self, by rw [hf, z]⟩)
    have nF : a ∉ X.fs := fun z => by
      obtain ⟨e, he, q⟩ := List.mem_filterMap.mp z
      exact notFrame (by rw [hs]; exact List.mem_filterMap.mpr ⟨e, List.mem_cons_of_mem _ he, q⟩)
    have newB : B.get? a = none := fly2.2.1
    have newI : sI.heap.get? a = none := by
      cases q : sI.heap.get? a with
      | none => rfl
      | some o => rw [nb a o q notFrame] at newB; cases newB
    have new0 : X.s_0.heap.get? a = none := by
      cases q : X.s_0.heap.get? a with
      | none => rfl
      | some o =>
        obtain ⟨o2, q2⟩ := J.base.there a o q (by rw [hex]; exact fun z => nomatch z)
        rw [newI] at q2; cases q2
    have newP : ∀ p ∈ X.pn ++ pins, p.1 ≠ a := fun p hp z => by
      have := (J.pin p hp).1
      rw [z, newI] at this; cases this
    have S2 := J2.suite at2 dt2 na nL nF
    refine wpAny_handleBy_cons (codeAny_handlers_test ?_) (by intro q; cases q)
    have ty : PySem.W.Looks (model X.prog X.w) h2 (typeOf (.ref a)) cls := fun A Q E t2 k q => wpAny_typeOf_ref (k _ _ at2) (by rw [zc2.1]; exact q)
    have match_ := PySem.W.exm_one (M := model X.prog X.w) J2.kIn ty caught
    have named : ∀ {Q : Value → Shared → Prop} {E : Value → Shared → Prop}, Q c { t with heap := h2 } → wpAny (model X.prog X.w) (X.A.mark (some (.ref a))) (eval (.Name x p1) X.env) Q E { t with heap := h2 } := fun {Q E} q => by
      obtain ⟨g1, g2, g3 | ⟨g3, g4, g5⟩⟩ := hc
      · exact ld_glob S2 g1 g3 q g2
      · exact ld_blt S2 g1 g3 g4 q g5 g2
    refine named (match_.here (codeAny_handlers_suite_as (HandSPX.lands_againZ fly2 fun h3 fly3 up3 => ?_)))
    have J3 : Inv X pins σ1 H1 { t with heap := h3 } := J.landed nb fly3.1 ((up.trans up2).trans up3) os bare
    obtain ⟨oe3, fv3, at3, zc3, dt3⟩ := fly3.there
    have S3 := J3.suite at3 dt3 na nL nF
    refine store_ok (X := X.suite a ((a, oe3) :: (X.pn ++ pins))) (v := .ref a) S3 hN hi (.inl hln) rfl (fun t4 S4 => ?_) (.inr hln)
    have hjl : j < σ1.length := by rw [J3.len]; exact (List.getElem?_eq_some_iff.mp hj).1
    have hlen : i < σ1.length := by rw [J3.len]; exact (List.getElem?_eq_some_iff.mp hi).1
    have asg : PSs (X.suite a ((a, oe3) :: (X.pn ++ pins))) [.Assign [.Name m p2] (.Name n p3) p4] (tAsg (tVar i) (gName j)) := pss_one (ps_set (X := X.suite a ((a, oe3) :: (X.pn ++ pins))) hN hj (.inl hlm) (pe_var hi (.inl hln) hdn hcn) (by rfl) (.inr hlm))
    refine wpAny_mono (asg.run [] t4 _ H1 { nx := fun σ' H' => σ' = (σ1.set i (some (V.ref a))).set j (some (V.ref a)) ∧ H' = H1, rt := fun _ _ => False } S4 ⟨V.ref a, by rw [List.getElem?_set_self hlen], rfl, rfl⟩) (fun f t6 end6 => ?_) (fun _ _ z => False.elim z)
    cases f with
    | next =>
      obtain ⟨σ6, H6, S6, e1, e2⟩ := end6
      rw [e1, e2] at S6
      have J6 := S6.unsuite okX
      obtain ⟨at6, _⟩ := S6.pin (a, oe3) (List.mem_append_left _ List.mem_cons_self)
      have T6 := inv_track J6 at6 zc3 dt3 na new0 nL newP
      exact gone_ok T6 hN hi hln fun t7 J7 => ⟨_, _, J7, next a _ na (by rw [List.getElem?_set_ne hij, List.getElem?_set_self (by rw [List.length_set]; exact hjl)])⟩
    | brk =>
      obtain ⟨_, _, _, z⟩ := end6
      exact z.elim
    | cont =>
      obtain ⟨_, _, _, z⟩ := end6
      exact z.elim
    | ret u =>
      obtain ⟨_, _, _, _, _, z⟩ := end6
      exact z.elim
  · cases fl with
    | next =>
      obtain ⟨σ1, H1, J1, q⟩ := hfl
      exact wpAny_execs_nil ⟨σ1, H1, J1.ofTry okX, q⟩
    | brk =>
      obtain ⟨σ1, H1, J1, q⟩ := hfl
      exact ⟨σ1, H1, J1.ofTry okX, q⟩
    | cont =>
      obtain ⟨σ1, H1, J1, q⟩ := hfl
      exact ⟨σ1, H1, J1.ofTry okX, q⟩
    | ret u =>
      obtain ⟨v, σ1, H1, J1, r, q⟩ := hfl
      exact ⟨v, σ1, H1, J1.ofTry okX, r, q⟩
end
end MT
end

section
set_option maxRecDepth 100000
set_option maxHeartbeats 4000000
namespace MT
open PySem PySem.Spec PyProof.Rows L2 LamX
/-! a lambda handed to the def that calls it and keeps the error -/
abbrev LName (X : Cx) : Str := X.env.qual ++ "<lambda>"
/-- the lambda's object -/
abbrev lamO (X : Cx) (params : Arguments) (body : Expr) (scope : Scope) (pm : Value) (cc : Addr) (ct : Value) : Obj := PySem.W.kla_obj "<lambda>" (LName X) params body scope (cloFrom X.env.cells scope.names []) pm cc ct
/-- but for one table all stays -/
def ButT (P : Addr) (H H' : Hp) : Prop := ∀ b o, b ≠ P → H b = some o → H' b = some o
section
variable {X : Cx} {pins : List (Addr × Obj)} {σ : L2.St} {H : Hp} {s : Shared}
/-- the lambda's object is made: its code is found in the table, or put there -/
theorem lam_new {T : List (Addr × Str)} {c P : Addr} {params : Arguments} {body : Expr} {scope : Scope} {pos : Pos} {E : Value → Shared → Prop} {Q : Value → Shared → Prop} (I : L2.Inv X pins σ H s) (TB : TabB X.base X.mg c P) (hcode : X.env.code = .ref c)
    (hmT : (P, LName X) ∈ T) (hu : ∀ p ∈ T, p.1 = P → p.2 = LName X) (tabs : Tabs T H) (hdef : defaultsOf params X.env = ([], [])) (hfree : ∀ y ∈ scope.names, y.2 = .free → ∃ c, X.env.cells.lookup y.1 = some c)
    (next : ∀ (f cc : Addr) (pm ct : Value) (H1 : Hp) (s1 : Shared), L2.Inv X pins σ H1 s1 → ButT P H H1 → Tabs T H1 → s1.heap.get? f = some (lamO X params body scope pm cc ct) → H1 f = none → f ∉ frs X.stack → H1 cc = some (CodeO cc (LName X)) → Q (.ref f) s1) :
    wpAny (model X.prog X.w) X.A (eval (.Lambda params body scope pos) X.env) Q E s := by
  obtain ⟨ps, inH, triples, codes⟩ := tabs _ hmT
  have inHeap : s.heap.get? P = some { cls := .none, data := .fields ps } := I.hok P _ inH
  have builtins := TB.bm.keeps I.bk
  have offStack : ∀ f, s.heap.objs.size ≤ f → f ∉ frs X.stack := fun f hf z => by
    rcases List.mem_cons.mp (I.stkSub _ z) with e | e
    · have := I.lt
      rw [← e] at this
      exact absurd this (Nat.not_lt.mpr hf)
    · exact I.nofs hf e
  refine PySem.W.kla_eval hdef ?_
  cases found : codeAmong pos ps.toList with
  | some cv =>
    obtain ⟨cc, rfl, isC⟩ := codes pos cv found
    refine PySem.W.kla_makeFunctionHit (mg := X.mg) (c := c) (P := P) (ps := ps) (closure_ok hfree) I.ok.glob (I.mod.glob.keeps I.bk) hcode (TB.code.keeps I.bk) inHeap triples found builtins fun ct h1 tk keeps big => ?_
    exact next h1.objs.size cc ((X.mg "__name__").getD .none) ct H _ (I.kept fun b o e => Heap.get?_push_of_some _ (keeps b o e)) (fun b o _ e => e) tabs (Heap.get?_push_size _ rfl) (I.hok.fresh big) (offStack _ big) isC
  | none =>
    refine PySem.W.kla_makeFunction (mg := X.mg) (c := c) (P := P) (ps := ps) (closure_ok hfree) I.ok.glob (I.mod.glob.keeps I.bk) hcode (TB.code.keeps I.bk) inHeap triples found TB.gP builtins fun cc ct h1 tk keeps ge lt isRec inTable => ?_
    obtain ⟨_, oc, vs, tt, ec, c1, c2, c3⟩ := isRec
    cases ec
    have ccNew : H cc = none := I.hok.fresh ge
    have bigger : s.heap.objs.size ≤ h1.objs.size := Nat.le_trans ge (Nat.le_of_lt lt)
    have P_cc : P ≠ cc := ne_of_none inH ccNew
    have J := inv_table (t' := tk) (more := #[rawInt pos.line, rawInt pos.col, .ref cc]) (h' := h1.push (lamO X params body scope ((X.mg "__name__").getD .none) cc ct)) (q := LName X) I inH
      (fun b o nb e => Heap.get?_push_of_some _ (keeps b o nb e)) (Heap.get?_push_of_some _ inTable) ge ⟨oc, vs, tt, Heap.get?_push_of_some _ c1, c2, c3⟩
    have but : ButT P H (upd (upd H P (.tbl (ps ++ #[rawInt pos.line, rawInt pos.col, .ref cc]))) cc (CodeO cc (LName X))) := fun b o nb e => by rw [upd_ne (ne_of_none e ccNew), upd_ne nb]; exact e
    have asList : (ps ++ #[rawInt pos.line, rawInt pos.col, .ref cc]).toList = ps.toList ++ [rawInt pos.line, rawInt pos.col, .ref cc] := by simp
    have codeNP : ∀ {d : Addr} {q : Str}, H d = some (CodeO d q) → d ≠ P := fun {d q} e z => by
      rw [z, inH] at e
      exact codeO_ne ps (Option.some.inj e).symm
    refine next h1.objs.size cc ((X.mg "__name__").getD .none) ct _ _ J but (fun p hp => ?_) (Heap.get?_push_size _ rfl) ?_ (offStack _ bigger) upd_same
    · by_cases eP : p.1 = P
      · rw [hu p hp eP, eP]
        refine ⟨_, by rw [upd_ne P_cc, upd_same], by rw [asList]; exact PySem.TriplesOk_snoc _ _ _ _ triples, fun p2 cv hcv => ?_⟩
        rw [asList] at hcv
        rcases among_app _ triples hcv with z | z
        · obtain ⟨d, rfl, isD⟩ := codes p2 cv z
          exact ⟨d, rfl, but _ _ (codeNP isD) isD⟩
        · exact ⟨cc, z, upd_same⟩
      · obtain ⟨qs, a1, a2, a3⟩ := tabs p hp
        refine ⟨qs, but _ _ eP a1, a2, fun p2 cv hcv => ?_⟩
        obtain ⟨d, e1, isD⟩ := a3 p2 cv hcv
        exact ⟨d, e1, but _ _ (codeNP isD) isD⟩
    · rw [upd_ne (Nat.ne_of_gt lt), upd_ne (Nat.ne_of_gt (Nat.lt_of_lt_of_le (Heap.lt_size inHeap) bigger))]
      exact I.hok.fresh bigger
end
section
variable {X : Cx} {pins : List (Addr × Obj)} {σ : L2.St} {H : Hp} {s : Shared}
/-- work(), inside the def at g that was entered at s -/
theorem pe_work {CXg : CXT} {Eg : XK} {Ng : List Str} {qg : Str} {sg : Scope} {g f cc : Addr} {cdg pm ct : Value} {params : Arguments} {body : Expr} {scope : Scope} {k i : Nat} {a : Str} {pn : List (Addr × Obj)} {xe : Value → Shared → Prop} {W : WX} {E : XK} {tb : TE} {p1 p2 : Pos}
    (I : L2.Inv X pins σ H s) (L : LamS X.env.scope scope) (hgd : X.A.guards = some []) (hf : s.heap.get? f = some (lamO X params body scope pm cc ct)) (hfn : H f = none) (hfr : f ∉ frs X.stack)
    (hbind : bindArgs (PySem.W.kla_fn "<lambda>" (LName X) params body scope (cloFrom X.env.cells scope.names []) pm (.ref cc) ct) ⟨[], []⟩ = pure [])
    (tk : Takes ((cxOf CXg X.prog X.w X.K X.mg X.base Ng qg sg g cdg X.A X.stack s H Eg).tr pn xe) W) (hW : ∀ cls d σ' H', E cls d H' → W cls d σ' H') (hr : Room (k + 1) (X.A.deeper (envOfC qg sg s.heap.objs.size g cdg)))
    (hbody : ∀ (A : Around) (outer : List Env) (s : Shared) (H : Hp), A.guards = some [] → Room k (A.deeper (lamEnv X scope s.heap.objs.size f cc)) → PE (lamCx X A outer s H E scope f cc) body tb)
    (hN : Ng[i]? = some a) (hv : Vis sg a) (hd : (a == ("__debug__" : Str)) = false) (hcd : (a == ("__classdict__" : Str)) = false) :
    PE ((cxOf CXg X.prog X.w X.K X.mg X.base Ng qg sg g cdg X.A X.stack s H Eg).tr pn xe) (.Call (.Name a p1) [] [] p2)
      (fun τ HZ Q => τ[i]? = some (some (V.ref f)) ∧ HZ cc = some (CodeO cc (LName X)) ∧ tb σ HZ Q) := by
  constructor
  rintro pinsZ sZ τ HZ Q IZ ⟨at_i, isC, want⟩
  have nameRead := (pe_var (pos := p1) (i := i) hN hv hd hcd).run pinsZ sZ τ HZ (fun v G => v = .ref f ∧ G = HZ) IZ ⟨.ref f, at_i, rfl, rfl⟩
  refine wpAny_Call_Name_kw (thn nameRead ?_)
  rintro u t ⟨v, G, J, rel, rfl, rfl⟩
  obtain rfl : u = Value.ref f := rel
  have still : t.heap.get? f = some (lamO X params body scope pm cc ct) := J.base.keep f _ hf hfn hfr fun z => nomatch (show f ∈ ([] : List Addr) from z)
  refine PySem.W.callWith_F0 ⟨_, _, _, _, still⟩ ?_
  obtain ⟨⟨co, cf, ctk, c1, c2, c3⟩, _, _⟩ := J.hok cc _ isC
  have passes : Passes (L2.CX X.prog X.w) ((cxOf CXg X.prog X.w X.K X.mg X.base Ng qg sg g cdg X.A X.stack s H Eg).tr pn xe) E := passes_call tk hW
  have run : codeAny (model X.prog X.w) (X.A.deeper (envOfC qg sg s.heap.objs.size g cdg)) (.call (.ref f) ⟨[], []⟩) (CR (L2.CX X.prog X.w) (envOfC qg sg s.heap.objs.size g cdg :: X.stack) X.prog X.w G t Q E) t := by
    refine PySem.W.kla_callFunE hr.depth still rfl L.co L.gen rfl ⟨cc, co, cf, ctk, rfl, c1, c2, c3⟩ ?_
    rw [hbind]
    refine wpAny_pure (wpAny_newFunctionEnv (fun y hy => (L.own y hy).2) (fun y hy => absurd hy (by simp)) (fun hp hns hsb => ⟨J.nolimit.fresh _ hsb, ?_⟩) L.kind)
    have kept : ∀ b o, t.heap.get? b = some o → hp.get? b = some o := fun b o e => hsb.extBut b o (Nat.ne_of_lt (Heap.lt_size e)) (Heap.get?_push_of_some _ e)
    have start : L2.Inv (lamCx X (X.A.deeper (envOfC qg sg s.heap.objs.size g cdg)) (envOfC qg sg s.heap.objs.size g cdg :: X.stack) t G E scope f cc) [] σ G { t with heap := hp, toks := t.toks + ([] : List (Str × Value)).length } :=
      lam_start2 I L J.env0 hr.hd J.base hns kept
    refine PySem.W.kla_codeExpr (wpAny_mono ((hbody (X.A.deeper (envOfC qg sg s.heap.objs.size g cdg)) _ t G hgd (hr.deeper _)).run [] _ _ G Q start want) (fun v t2 hv2 => ?_) fun e t2 z => z)
    obtain ⟨v', G', J', rel', q'⟩ := hv2
    exact ⟨v', G', J'.os, J'.bare, J'.base, J'.hok, rel', q'⟩
  refine wpAny_call (codeAny_mono run fun r t2 z => ?_)
  match r, z with
  | .error e, z => exact passes pinsZ τ G t e t2 J z
  | .ok (.ret u), z => exact J.after z
end
/-- what the lambda must give: T the tables, CS the class that is caught -/
def tCaught (K : PySem.W.Frag) (T : List (Addr × Str)) (P CS : Addr) (t : XK → TE) : TE := fun σ H Q => Tabs T H ∧ ∀ H1, ButT P H H1 → Tabs T H1 →
  t (fun cls d H' => PySem.W.exmOne K cls (.ref CS) = some true ∧ ∀ a, H' a = none → Q (.ref a) (upd H' a (ExT cls d a))) σ H1 (fun _ H' => Q .non H')
/-- the def's body: m = None; try: a() / except e as n: m = n; return m -/
abbrev caughtBody (a m n e : Str) (p0 p1 p2 p3 p4 p5 p6 p7 p8 p9 p10 p11 p12 p13 p14 : Pos) (j0 : Nat) : List Stmt := [.Assign [.Name m p0] (.Constant .none j0 p1) p2,
  .Try [.Expr (.Call (.Name a p3) [] [] p4) p5] [.ExceptHandler (some (.Name e p6)) (some n) [.Assign [.Name m p7] (.Name n p8) p9] p10] [] [] p11, .Return (some (.Name m p12)) p13]
section
variable {X : Cx}
theorem pe_caught {T : List (Addr × Str)} {x a m n e : Str} {g CS c P : Addr} {k : Nat} {pg : Arguments} {sg : Scope} {fd : FuncData} {params : Arguments} {body : Expr} {scope : Scope} {t : XK → TE} {p lpos pos p0 p1 p2 p3 p4 p5 p6 p7 p8 p9 p10 p11 p12 p13 p14 : Pos} {j0 : Nat}
    (F : FunD X.K x x pg (caughtBody a m n e p0 p1 p2 p3 p4 p5 p6 p7 p8 p9 p10 p11 p12 p13 p14 j0) sg [] [] g fd) (hg : Gl X x) (hm : X.mg x = some (.ref g)) (hb : L2.Binds X.K fd [a] []) (S : FnScope [a, m, n] [a] sg)
    (la : sg.names.lookup a = some .local) (lm : sg.names.lookup m = some .local) (ln : sg.names.lookup n = some .local) (le : sg.names.lookup e = some .globalImplicit) (hme : X.mg e = some (.ref CS))
    (TB : TabB X.base X.mg c P) (hcode : X.env.code = .ref c) (hmT : (P, LName X) ∈ T) (hu : ∀ p ∈ T, p.1 = P → p.2 = LName X) (hr : Room (k + 2) X.A) (hgd : X.A.guards = some []) (L : LamS X.env.scope scope) (hdef : defaultsOf params X.env = ([], []))
    (hbind : ∀ (q : Str) (cl : List (Str × Addr)) (pm cv ctv : Value), bindArgs (PySem.W.kla_fn "<lambda>" q params body scope cl pm cv ctv) ⟨[], []⟩ = pure [])
    (hbody : ∀ (A : Around) (outer : List Env) (s : Shared) (H : Hp) (E : XK) (f cc : Addr), A.guards = some [] → Room k (A.deeper (lamEnv X scope s.heap.objs.size f cc)) → PE (lamCx X A outer s H E scope f cc) body (t E))
    (d1 : (a == ("__debug__" : Str)) = false) (d2 : (a == ("__classdict__" : Str)) = false) (d3 : (n == ("__debug__" : Str)) = false) (d4 : (n == ("__classdict__" : Str)) = false) (d5 : (m == ("__debug__" : Str)) = false) (d6 : (m == ("__classdict__" : Str)) = false) (d7 : (e == ("__debug__" : Str)) = false) (hdb : (x == ("__debug__" : Str)) = false) :
    PE X (.Call (.Name x p) [.Lambda params body scope lpos] [] pos) (tCaught X.K T P CS t) := by
  constructor
  rintro pins s σ H Q I ⟨tabs, want⟩
  obtain ⟨oc, od, dV, kV, doc, pm0, an, cdv, ct, osl, rfl, lk, hcg, _, _⟩ := F.ex
  refine wpAny_Call_Name_kw (ld_glob I hg hm ?_ hdb)
  refine PySem.W.callWith_K (h₀ := X.base) I.ok.mod.kin F.kp ?_ (by rfl) (by rfl)
  show wpAny _ _ (spliced ((false, eval (.Lambda params body scope lpos) X.env) :: backTo pos (starEach [] X.env))) _ _ s
  refine Calls.spliced_cons (lam_new I TB hcode hmT hu tabs hdef (L.has I.ok) fun f cc pm2 ct2 H1 s1 I1 ext tabs1 hf hfn hfr isC => ?_)
  refine Calls.spliced_nil ⟨I1.kIn, ?_⟩
  have inside : codeAny (model X.prog X.w) X.A (.call (.ref g) ⟨[.ref f], []⟩) (CR C8.CX0 X.stack X.prog X.w H1 s1 Q C8.E0) s1 := by
    refine run_ofS (N := [a, m, n]) (ps := [a]) (us := [.ref f]) (vs := [.ref f]) lk hcg S hr I1.env0 (hb s1 [.ref f] I1.kIn rfl) (.cons rfl .nil) rfl fun hr1 => ?_
    let Ech : XK := fun cls d H' => PySem.W.exmOne X.K cls (.ref CS) = some true ∧ ∀ a, H' a = none → Q (.ref a) (upd H' a (ExT cls d a))
    refine ⟨_, pss_cons (ps_set (i := 1) S.nd rfl (.inl lm) pe_non (by rfl) (.inr lm)) (pss_cons (ps_keep (i := 2) (j := 1) (c := .ref CS)
        (tb := fun W D τ HZ => ∃ E : XK, (∀ cls d σ' H', E cls d H' → W cls d σ' H') ∧ τ[0]? = some (some (V.ref f)) ∧ HZ cc = some (CodeO cc (LName X)) ∧ t E σ HZ fun _ H' => D.nx τ H')
        rfl rfl rfl S.nd rfl rfl (by decide) ln lm ⟨le, d7, .inl hme⟩ d3 d4 (fun W pn xe tk ps => ?_)) (pss_one (ps_ret (pe_var (i := 1) rfl (.inl lm) d5 d6)))), ?_⟩
    · constructor
      rintro pinsZ sZ τ HZ D IZ ⟨E, hW, q1, q2, q3⟩
      exact (pss_one (ps_expr (pe_work (i := 0) I1 L hgd hf hfn hfr (hbind _ _ _ _ _) tk hW hr1 (fun A outer s H g1 g2 => hbody A outer s H E f cc g1 g2) rfl (.inl la) d1 d2))).run pinsZ sZ τ HZ D IZ ⟨q1, q2, q3⟩
    · refine ⟨Ech, fun cls d σ' H' z => ⟨z.1, fun b σ2 hb2 at1 => ⟨V.ref b, at1, z.2 b hb2⟩⟩, rfl, isC, ?_⟩
      have q := want H1 ext tabs1
      show t Ech σ H1 _
      have e : (fun (_ : V) (H' : Hp) => Q .non H') = fun _ H' => tRet (tVar 1) { nx := fun _ H' => Q .non H', rt := Q } ((L2.start [a, m, n] [V.ref f]).set 1 (some .non)) H' := by
        funext v H'
        refine propext ⟨fun z => ⟨.non, rfl, z⟩, fun ⟨v, e1, e2⟩ => ?_⟩
        cases e1
        exact e2
      rw [e] at q
      exact q
  refine wpAny_call (codeAny_mono inside fun r t2 z => ?_)
  match r, z with
  | .error e, z => exact (show False from z).elim
  | .ok (.ret u), z => exact I1.after z
end
end MT
end

section
set_option maxRecDepth 100000
set_option maxHeartbeats 4000000
namespace MT
open PySem PySem.Spec PyProof.Rows L2 LamX
/-! errors as values, by what is told of them -/
/-- what is asked of an error's class -/
structure ErrC (K : PySem.W.Frag) (C : Addr) : Prop where
  hcl : (PySem.W.clsIn K C).isSome = true
  hga : PySem.W.findIn K (.ref C) "__getattribute__" = some (some (.builtin "BaseException.__getattribute__"))
  hgt : PySem.W.findIn K (.ref C) "__getattr__" = some none
  hsub : PySem.W.subIn K (.ref C) (.type "BaseException") = some true
  hd : PySem.W.hasDictIn K C = true
  ha : PySem.W.findIn K (.ref C) "__class__" = some (some (.builtin "object.__class__"))
  hn : PySem.W.specialIn K (.builtin "object.__class__") "__get__" = some (some (.builtin "getset_descriptor.__get__"))
  ht : PySem.W.takesIn K (.builtin "object.__class__") = some true
  hm : PySem.W.mroIn K C (.type "object") = some true
  ex : PySem.W.exmOne K (.ref C) (.ref (He.ga K "MeetError")) = some true
  nn : PySem.W.kitOne K (.type "NoneType") (.ref C) = some false
def errCB (K : PySem.W.Frag) (C : Addr) : Bool := (PySem.W.clsIn K C).isSome && (He.eqO (PySem.W.findIn K (.ref C) "__getattribute__") (some (some (.builtin "BaseException.__getattribute__"))) && (He.eqO (PySem.W.findIn K (.ref C) "__getattr__") (some none) &&
  (decide (PySem.W.subIn K (.ref C) (.type "BaseException") = some true) && (PySem.W.hasDictIn K C && (He.eqO (PySem.W.findIn K (.ref C) "__class__") (some (some (.builtin "object.__class__"))) && (He.eqO (PySem.W.specialIn K (.builtin "object.__class__") "__get__") (some (some (.builtin "getset_descriptor.__get__"))) &&
  (decide (PySem.W.takesIn K (.builtin "object.__class__") = some true) && (decide (PySem.W.mroIn K C (.type "object") = some true) && (decide (PySem.W.exmOne K (.ref C) (.ref (He.ga K "MeetError")) = some true) && decide (PySem.W.kitOne K (.type "NoneType") (.ref C) = some false))))))))))
theorem errCB_ok {K : PySem.W.Frag} {C : Addr} (h : errCB K C = true) : ErrC K C := by
  unfold errCB at h
  simp only [Bool.and_eq_true, decide_eq_true_eq] at h
  obtain ⟨h1, h2, h3, h4, h5, h6, h7, h8, h9, h10, h11⟩ := h
  exact ⟨h1, He.eqO_ok h2, He.eqO_ok h3, h4, h5, He.eqO_ok h6, He.eqO_ok h7, h8, h9, h10, h11⟩
/-- the errors' classes of a law, told by their names -/
def errB (L : List Str) (K : PySem.W.Frag) : Bool := L.all fun D => errCB K (He.ga K D) && L.all fun E => decide (PySem.W.kitOne K (.ref (He.ga K D)) (.ref (He.ga K E)) = some (decide (D = E)))
structure ErrF (L : List Str) (K : PySem.W.Frag) : Prop where
  c : ∀ D ∈ L, ErrC K (He.ga K D)
  k : ∀ D ∈ L, ∀ E ∈ L, PySem.W.kitOne K (.ref (He.ga K D)) (.ref (He.ga K E)) = some (decide (D = E))
theorem errB_ok {L : List Str} {K : PySem.W.Frag} (h : errB L K = true) : ErrF L K := by
  unfold errB at h
  refine ⟨fun D hD => ?_, fun D hD E hE => ?_⟩
  · exact errCB_ok (He.ba (List.all_eq_true.mp h D hD)).1
  · exact of_decide_eq_true (List.all_eq_true.mp (He.ba (List.all_eq_true.mp h D hD)).2 E hE)
/-- an expression that gives None or an error -/
def txOf (K : PySem.W.Frag) (B : Bd) (m : List Slot → W (Option Exn)) : TE := fun σ H Q => ∃ C env M P, R K C M σ H env ∧ B.ok C ∧ m env P B.er ∧
  ∀ v H' o, Kept C.X0 H H' → R K C M σ H' env → SlotOk K C M H' (some v) (.ex o) → P o → Q v H'
abbrev PX (X : Cx) (B : Bd) (e : Expr) (m : List Slot → W (Option Exn)) : Prop := PE X e (txOf X.K B m)
section
variable {X : Cx} {B : Bd} {e : Expr} {st : Stmt} {m : List Slot → W (Option Exn)} {pos p : Pos}
def dXNm (i : Nat) : List Slot → W (Option Exn) := fun env P _ => match env[i]? with
  | some (.ex o) => P o
  | _ => False
theorem px_nm {i : Nat} (q : PE X e (tVar i)) : PX X B e (dXNm i) := pe_imp q fun σ H Q ⟨C, env, M, P, r, bo, hm, k⟩ => by
  unfold dXNm at hm
  split at hm
  · rename_i o hx
    obtain ⟨w, e1, so⟩ := r.at hx
    have e2 : ∃ v, w = some v := by
      cases o with
      | none => exact ⟨_, so⟩
      | some x => obtain ⟨a, e, _⟩ := so; exact ⟨_, e⟩
    obtain ⟨v, rfl⟩ := e2
    exact ⟨v, e1, k v H o .refl r so hm⟩
  · exact hm.elim
/-- name = such an expression -/
def dSetX (i : Nat) (m : List Slot → W (Option Exn)) : WS := fun E env => m env (fun o => E.nx (env.set i (.ex o))) E.er
theorem sd_setX {i : Nat} {x : Str} {pos' : Pos} (hN : X.N.Nodup) (hi : X.N[i]? = some x) (hx : Loc X.env.scope x) (q : PX X B e m) (hf : X.fn x = true ∨ X.env.scope.names.lookup x = some .local) (hs : swapsWith e (some (.Name x pos')) pos.line X.env = pure false := by rfl) : SD X B (.Assign [.Name x pos'] e pos) (dSetX i m) :=
  ps_imp (ps_set hN hi hx q hs hf) fun D σ H ⟨C, env, M, nx, rt, bk, ct, r, bo, hf, k1, k2, k3, k4⟩ =>
    ⟨C, env, M, _, r, bo, hf, fun v H' o kk r' so q => k1 M _ H' _ (r'.setS so fun xs a z => nomatch z) q⟩
theorem errInst {K : PySem.W.Frag} {C : Ctx} {M : Mk} {H : Hp} {P : Program} {w : World} {h : Heap} {x : Exn} {a : Addr} (ok : HOk P w H h) (q : ExAt K M H x a) : ∃ (oe : Obj) (od : Option Obj), PySem.W.InstAt h a oe (He.ga K x.cls) od := by
  obtain ⟨d, e1, _, e3⟩ := q
  obtain ⟨⟨oe, vs, g1, g2, g3⟩, _, _⟩ := ok a _ e1
  have no : PySem.W.notCls oe = true := by unfold PySem.W.notCls; rw [g3]
  rcases e3 with ⟨_, rfl⟩ | ⟨dd, ws, rfl, e4, _⟩
  · exact ⟨oe, none, g1, g2.1, no, by rw [g2.2]; trivial⟩
  · obtain ⟨mA, hns, _⟩ := (show ObjOk P w H h dd (.xd _) from ok dd _ e4)
    obtain ⟨od, ho, _⟩ := lookIn_ns hns
    exact ⟨oe, some od, g1, g2.1, no, by rw [g2.2]; exact ho⟩
/-- isinstance(.., D) -/
def isx (D : Str) : Option Exn → Bool
  | none => false
  | some e => decide (e.cls = D)
def dIsx (L : List Str) (D : Str) (m : List Slot → W (Option Exn)) : List Slot → W PyData := fun env P E => m env (fun o => (∀ e, o = some e → e.cls ∈ L) ∧ P (.bool (isx D o))) E
def rIsx (K : PySem.W.Frag) (M : Mk) (L : List Str) (D : Str) : List V → Hp → VK → Prop := fun xs H Q => ∃ v o C, xs = [v, V.ref (He.ga K D)] ∧ SlotOk K C M H (some v) (.ex o) ∧ (∀ e, o = some e → e.cls ∈ L) ∧ Q (.bl (isx D o)) H
theorem call_isx {M : Mk} {L : List Str} {D : Str} (ef : ErrF L X.K) (hD : D ∈ L) : CallR X (.builtin "isinstance") (rIsx X.K M L D) := by
  rintro pins s σ H xs us Q I r ⟨v, o, C, rfl, so, hL, q⟩
  obtain ⟨u1, u2, rfl, r1, r2⟩ := vals2 r
  cases (show u2 = Value.ref (He.ga X.K D) from r2)
  cases o with
  | none =>
    obtain rfl : v = V.non := Option.some.inj so
    cases (show u1 = Value.none from r1)
    exact PySem.W.kia_one PySem.W.kitx_none I.kIn True.intro (ef.c D hD).nn (fun z => nomatch z) fun tk => ⟨.bl false, H, I.tok tk, rfl, q⟩
  | some x =>
    obtain ⟨a, ev, at_⟩ := so
    obtain rfl : v = V.ref a := Option.some.inj ev
    cases (show u1 = Value.ref a from r1)
    obtain ⟨oe, od, J⟩ := errInst (C := C) I.hok at_
    have T := ef.c _ (hL x rfl)
    exact PySem.W.kia_one (PySem.W.kitx_exc T.hcl T.hga T.hgt T.hsub T.ha T.hn T.ht T.hm) I.kIn J (ef.k _ (hL x rfl) D hD) (fun z => nomatch z) fun tk => ⟨.bl (isx D (some x)), H, I.tok tk, rfl, q⟩
theorem pd_isx {L : List Str} {D : Str} {p2 : Pos} (ef : ErrF L X.K) (hD : D ∈ L) (hg : Gl X "isinstance") (hm : X.mg "isinstance" = none) (hgD : Gl X D) (hmD : X.mg D = some (.ref (He.ga X.K D))) (q : PX X B e m) (hdD : (D == ("__debug__" : Str)) = false := by decide +kernel)
    (h1 : starEach [e, .Name D p2] X.env = (false, eval e X.env) :: starEach [.Name D p2] X.env := by rfl) (h3 : starEach [.Name D p2] X.env = (false, eval (.Name D p2) X.env) :: starEach [] X.env := by rfl) (h2 : (backTo pos (starEach [.Name D p2] X.env)).any (·.1) = false := by rfl) :
    PD X B .s (.Call (.Name "isinstance" p) [e, .Name D p2] [] pos) (dIsx L D m) := by
  constructor
  rintro pins s σ H Q I ⟨C, env, M, P, r, bo, hmm, k⟩
  refine (pe_callB (call_isx (M := M) ef hD) hg hm (by decide +kernel) (pa_cons q (pa_cons (pe_glob (v := V.ref (He.ga X.K D)) hgD hmD rfl hdD) pa_nil h3) h1) (by decide) (by decide) h1 h2).run pins s σ H Q I ?_
  exact ⟨C, env, M, _, r, bo, hmm, fun v H1 o k1 r1 so ⟨hL, pp⟩ => ⟨v, o, C, rfl, so, hL, k _ H1 (.bool (isx D o)) k1 r1 (Den.atom rfl) pp⟩⟩
/-- .. is None -/
def dXN (m : List Slot → W (Option Exn)) : List Slot → W PyData := fun env P E => m env (fun o => P (.bool o.isNone)) E
/-- its field -/
def fieldOf (f : Str) : List (Str × PyData) → Option PyData
  | [] => none
  | (g, d) :: r => if f = g then some d else fieldOf f r
def dXat (L : List Str) (f : Str) (m : List Slot → W (Option Exn)) : List Slot → W PyData := fun env P E => m env (fun o => ∃ x d, o = some x ∧ x.cls ∈ L ∧ fieldOf f x.fs = some d ∧ P d) E
theorem zip_field {K : PySem.W.Frag} {M : Mk} {H : Hp} {f : Str} : ∀ {fs : List (Str × PyData)} {vs : List V} {d : PyData}, DenL K M H (fs.map (·.2)) vs → fieldOf f fs = some d → ∃ v, ((fs.map (·.1)).zip vs).lookup f = some v ∧ Den K M H d v
  | [], _, _, _, h => by cases h
  | (g, x) :: r, vs, d, h, hf => by
    simp only [List.map_cons, DenL] at h
    obtain ⟨v, ws, rfl, h1, h2⟩ := h
    unfold fieldOf at hf
    simp only [List.map_cons, List.zip_cons_cons]
    by_cases e : f = g
    · rw [if_pos e] at hf; cases hf
      subst e
      exact ⟨v, by simp [List.lookup], h1⟩
    · rw [if_neg e] at hf
      obtain ⟨u, q1, q2⟩ := zip_field h2 hf
      refine ⟨u, ?_, q2⟩
      have : (f == g) = false := by simpa using e
      simp only [List.lookup, this]; exact q1
theorem pd_xat {L : List Str} {f : Str} (ef : ErrF L X.K) (hno : ∀ D ∈ L, PySem.W.findIn X.K (.ref (He.ga X.K D)) f = some none) (q : PX X B e m) (hb : attributeBase e f X.env (eval e X.env) = eval e X.env := by rfl) : PD X B .s (.Attribute e f pos) (dXat L f m) := by
  constructor
  rintro pins s σ H Q I ⟨C, env, M, P, r, bo, hm, k⟩
  refine attr_of hb (thn (q.run pins s σ H (fun v H1 => ∃ x d, Kept C.X0 H H1 ∧ R X.K C M σ H1 env ∧ SlotOk X.K C M H1 (some v) (.ex (some x)) ∧ x.cls ∈ L ∧ fieldOf f x.fs = some d ∧ P d) I ⟨C, env, M, _, r, bo, hm, fun v H1 o k1 r1 so ⟨x, d, e1, e2, e3, e4⟩ => by subst e1; exact ⟨x, d, k1, r1, so, e2, e3, e4⟩⟩) ?_)
  rintro u s1 ⟨v, H1, I1, rv, x, d, k1, r1, ⟨a, ev, at_⟩, hL, hf, pp⟩
  obtain rfl : v = V.ref a := Option.some.inj ev
  cases (show u = Value.ref a from rv)
  have T := ef.c _ hL
  obtain ⟨dd, g1, g2, g3⟩ := at_
  rcases g3 with ⟨g3, _⟩ | ⟨dd', ws, rfl, g4, g5⟩
  · rw [g3] at hf; cases hf
  obtain ⟨w, hl, hw⟩ := zip_field g5 hf
  obtain ⟨⟨oe, vs, b1, b2, b3⟩, _, _⟩ := I1.hok a _ g1
  obtain ⟨mA, hns, hr⟩ := (show ObjOk X.prog X.w H1 s1.heap dd' (.xd _) from I1.hok dd' _ g4)
  obtain ⟨od, ho, hlk⟩ := lookIn_ns hns
  obtain ⟨u, hu, ru⟩ := RelO.some_of (v := w) (o := mA f) (by rw [← hl]; exact hr f)
  have J : PySem.W.InstAt s1.heap a oe (He.ga X.K x.cls) (some od) := ⟨b1, b2.1, by unfold PySem.W.notCls; rw [b3], by rw [b2.2]; exact ho⟩
  exact HandSPX.exc_get I1.kIn J T.hga T.hgt T.hsub (PySem.W.findObj_own T.hd (hno _ hL) rfl (by rw [hlk, hu])) (handed_of ru) ⟨w, H1, I1.tok _, ru, k w H1 d k1 r1 hw pp⟩
/-! a lambda, called for its error -/
/-- what the lambda sees of the maker's slots: own lists are lists -/
def lamSlot : Slot → Slot
  | .l xs => .d (.list xs)
  | s => s
theorem R.lam {K : PySem.W.Frag} {C : Ctx} {M : Mk} {σ : L2.St} {H : Hp} {env : List Slot} (r : R K C M σ H env) : R K ⟨H, C.X0, C.dr, [], C.tb⟩ C.X0 σ H (env.map lamSlot) where
  ext := .refl
  m0 := fun a h => h
  mn := fun a h => .inl h
  ok := fun a h => r.ok a (r.m0 a (r.x0m h))
  drw := fun d l c e => by
    obtain ⟨g1, g2, g3, g4⟩ := r.drw d l c e
    exact ⟨g1, .inl ⟨d, l, c, e, .inr rfl⟩, fun z => g3 (r.m0 _ (r.x0m z)), .inl ⟨d, l, c, e, .inl rfl⟩⟩
  len := by rw [List.length_map]; exact r.len
  slot := fun i s o e1 e2 => by
    have sub : ∀ a, C.X0 a → M a := fun a h => r.m0 a (r.x0m h)
    rw [List.getElem?_map] at e1
    cases q : env[i]? with
    | none => rw [q] at e1; cases e1
    | some t =>
      rw [q] at e1
      have e1 : lamSlot t = s := Option.some.inj e1
      subst e1
      have so := r.slot i t o q e2
      cases t with
      | un => trivial
      | d x => obtain ⟨v, e, h⟩ := so; exact ⟨v, e, h.mk fun a _ _ n z => n (sub a z)⟩
      | l xs =>
        obtain ⟨a, vs, e, h1, h2, h3, h4, h5⟩ := so
        refine ⟨_, e, ?_⟩
        simp only [Den]
        exact ⟨a, vs, rfl, h1, fun z => h3 (r.x0m z), h4, h5.mk fun a _ _ n z => n (sub a z)⟩
      | dr => exact so
      | sc ns => exact so
      | fn a => exact so
      | ex x =>
        cases x with
        | none => exact so
        | some x => obtain ⟨a, e, h⟩ := so; exact ⟨a, e, h.mk fun a _ n z => n (sub a z)⟩
  sep := fun i j a ⟨xs, e1, _⟩ _ => by
    rw [List.getElem?_map] at e1
    cases q : env[i]? with
    | none => rw [q] at e1; cases e1
    | some t =>
      rw [q] at e1
      have e1 : lamSlot t = .l xs := Option.some.inj e1
      cases t <;> cases e1
  hid := fun p hp => nomatch hp
  tab := r.tab
  tbm := fun p hp => .inr ⟨p, hp, rfl⟩
def atomic (e : Exn) : Prop := ∀ f ∈ e.fs, (atomV f.2).isSome = true
theorem denL_atoms {K : PySem.W.Frag} {M M' : Mk} {H : Hp} : ∀ {fs : List (Str × PyData)} {vs : List V}, (∀ f ∈ fs, (atomV f.2).isSome = true) → DenL K M H (fs.map (·.2)) vs → DenL K M' H (fs.map (·.2)) vs
  | [], vs, _, h => by simpa only [List.map_nil, DenL] using h
  | (g, d) :: r, vs, hf, h => by
    simp only [List.map_cons, DenL] at h ⊢
    obtain ⟨v, ws, e, h1, h2⟩ := h
    refine ⟨v, ws, e, ?_, denL_atoms (fun f hf' => hf f (List.mem_cons_of_mem _ hf')) h2⟩
    have := hf (g, d) List.mem_cons_self
    cases d <;> simp [atomV] at this <;> simpa only [Den] using h1
/-- None, or the error that the lambda's body raises -/
def dCaught (L : List Str) (md : List Slot → W PyData) : List Slot → W (Option Exn) := fun env P _ => md (env.map lamSlot) (fun _ => P none) (fun e => e.cls ∈ L ∧ atomic e ∧ P (some e))
/-- what is asked of where a lambda is made -/
structure Lf (X : Cx) (B : Bd) (T : List (Addr × Str)) (c P : Addr) : Prop where
  TB : TabB X.base X.mg c P
  code : X.env.code = .ref c
  mem : (P, LName X) ∈ T
  one : ∀ p ∈ T, p.1 = P → p.2 = LName X
  tb : ∀ C, B.ok C → C.tb = T
theorem ButT.kept {K : PySem.W.Frag} {C : Ctx} {M : Mk} {σ : L2.St} {H H' : Hp} {env : List Slot} {P : Addr} {q : Str} (r : R K C M σ H env) (hP : (P, q) ∈ C.tb) (b : ButT P H H') (t : Tabs C.tb H') : Kept C.X0 H H' ∧ R K C M σ H' env := by
  have k : Kept C.X0 H H' := fun a o e n => b a o (fun z => n (.inr ⟨(P, q), hP, z⟩)) e
  refine ⟨k, r.step k (fun d l c e => ?_) t⟩
  obtain ⟨ps, hps, _⟩ := r.tab _ hP
  have ne : ∀ a o, H a = some o → (∀ qs, o ≠ .tbl qs) → a ≠ P := fun a o e n z => by
    rw [z, hps] at e
    exact n ps (Option.some.inj e).symm
  obtain ⟨n1, ⟨x, y, e1⟩, ⟨ns, e2⟩, ⟨ms, e3, z⟩⟩ := (r.drw d l c e).1
  exact ⟨n1, ⟨x, y, b _ _ (ne _ _ e1 fun qs z => by cases z) e1⟩, ⟨ns, b _ _ (ne _ _ e2 fun qs z => by cases z) e2⟩, ⟨ms, b _ _ (ne _ _ e3 fun qs z => by cases z) e3, z⟩⟩
theorem Cf.lam {T : List (Addr × Str)} {N : List Str} {sc scope : Scope} {lv k : Nat} (c : Cf X B N sc lv) {A : Around} {outer : List Env} {s : Shared} {H : Hp} {E : XK} {er : Exn → Prop} {f cc : Addr} (g : A.guards = some []) (hr : Room k (A.deeper (lamEnv X scope s.heap.objs.size f cc))) :
    Cf (lamCx X A outer s H E scope f cc) (bdOf X.K (· = T) er E) N scope k := by
  have tk := takes_of (X := lamCx X A outer s H E scope f cc) (E := E) rfl rfl rfl rfl
  exact ⟨c.n, rfl, c.nd, rfl, hr, g, passes_of rfl, E, passes_call tk fun _ _ _ _ h => h, fun C ok => ok.2, tk⟩
theorem px_caught {T : List (Addr × Str)} {L : List Str} {x a m n : Str} {g c P : Addr} {k lv : Nat} {N : List Str} {sc : Scope} {pg : Arguments} {sg : Scope} {fd : FuncData} {params : Arguments} {body : Expr} {scope : Scope} {md : List Slot → W PyData} {lpos p0 p1 p2 p3 p4 p5 p6 p7 p8 p9 p10 p11 p12 p13 p14 : Pos} {j0 : Nat}
    (cf : Cf X B N sc lv) (lf : Lf X B T c P) (ef : ErrF L X.K) (hk : k + 2 ≤ lv) (F : FunD X.K x x pg (caughtBody a m n "MeetError" p0 p1 p2 p3 p4 p5 p6 p7 p8 p9 p10 p11 p12 p13 p14 j0) sg [] [] g fd) (hg : Gl X x) (hm : X.mg x = some (.ref g)) (hb : L2.Binds X.K fd [a] []) (S : FnScope [a, m, n] [a] sg)
    (la : sg.names.lookup a = some .local) (lm : sg.names.lookup m = some .local) (ln : sg.names.lookup n = some .local) (le : sg.names.lookup ("MeetError" : Str) = some .globalImplicit) (hme : X.mg "MeetError" = some (.ref (He.ga X.K "MeetError"))) (Ls : lamSB sc scope = true)
    (hdef : defaultsOf params X.env = ([], [])) (hbind : ∀ (q : Str) (cl : List (Str × Addr)) (pm cv ctv : Value), bindArgs (PySem.W.kla_fn "<lambda>" q params body scope cl pm cv ctv) ⟨[], []⟩ = pure [])
    (der : ∀ (A : Around) (outer : List Env) (s : Shared) (H : Hp) (E : XK) (er : Exn → Prop) (f cc : Addr), Cf (lamCx X A outer s H E scope f cc) (bdOf X.K (· = T) er E) N scope k → PD (lamCx X A outer s H E scope f cc) (bdOf X.K (· = T) er E) .s body md)
    (dd : [a, n, m, x].all (fun y => !(y == ("__debug__" : Str)) && !(y == ("__classdict__" : Str))) = true) : PX X B (.Call (.Name x p) [.Lambda params body scope lpos] [] pos) (dCaught L md) := by
  simp only [List.all_cons, List.all_nil, Bool.and_eq_true, Bool.not_eq_true', Bool.and_true] at dd
  obtain ⟨⟨d1, d2⟩, ⟨d3, d4⟩, ⟨d5, d6⟩, ⟨d7, _⟩⟩ := dd
  have Lm : LamS X.env.scope scope := lamS_by (by rw [cf.scope]; exact Ls)
  refine pe_imp (pe_caught (t := fun E σ H Q => ∃ er, tOf X.K (bdOf X.K (· = T) er E) .s md σ H Q) F hg hm hb S la lm ln le hme lf.TB lf.code lf.mem lf.one (cf.room.mono hk) cf.gd Lm hdef hbind (fun A outer s H E f cc gd hr => ?_) d1 d2 d3 d4 d5 d6 (by decide +kernel) d7) ?_
  · constructor
    rintro pins s' σ H' Q I ⟨er, h⟩
    exact (der A outer s H E er f cc (cf.lam gd hr)).run pins s' σ H' Q I h
  · rintro σ H Q ⟨C, env, M, Pp, r, bo, hm, kk⟩
    have hT := lf.tb C bo
    refine ⟨by rw [← hT]; exact r.tab, fun H1 but tabs1 => ?_⟩
    obtain ⟨k0, r1⟩ := but.kept r (by rw [hT]; exact lf.mem) (by rw [hT]; exact tabs1)
    refine ⟨fun e => e.cls ∈ L ∧ atomic e ∧ Pp (some e), ⟨H1, C.X0, C.dr, [], C.tb⟩, _, _, fun _ => Pp none, r1.lam, ⟨hT, fun e cls d H' he k2 dk ex => ?_⟩, hm, fun v H' d k2 r2 _ pn => ?_⟩
    · obtain ⟨hL, hat, hp⟩ := he
      obtain ⟨ec, ef'⟩ := ex
      subst ec
      refine ⟨(ef.c _ hL).ex, fun a na => ?_⟩
      have k2 : Kept C.X0 H1 H' := k2
      have r3 := r1.step k2 dk.dr dk.tb
      refine kk (V.ref a) _ (some e) (k0.trans (k2.trans (Kept.new na))) (r3.new na) ⟨a, rfl, d, upd_same, r3.ok.free na, ?_⟩ hp
      rcases ef' with z | ⟨dd, vs, h1, h2, h3⟩
      · exact .inl z
      · exact .inr ⟨dd, vs, h1, grow_new na _ _ h2, (denL_atoms hat h3).grow r3.ok (grow_new na)⟩
    · have k2 : Kept C.X0 H1 H' := k2
      exact kk V.non H' none (k0.trans k2) (r1.step k2 (fun d l c e => (r2.drw d l c e).1) r2.tab) rfl pn
end
end MT
end

section
set_option maxRecDepth 100000
set_option maxHeartbeats 4000000
namespace MT
open PySem PySem.Spec PyProof.Rows L2 PySem.W
/-! an error's class whose __init__ says super().__init__(text), then self.f = x -/
abbrev initBody (msg f x : Str) (p0 p1 p2 p3 p4 p5 p6 p7 p8 p9 : Pos) (j : Nat) : List Stmt := [.Expr (.Call (.Attribute (.Call (.Name "super" p0) [] [] p1) "__init__" p2) [.Constant (.str msg) j p3] [] p4) p5, .Assign [.Attribute (.Name "self" p6) f p7] (.Name x p8) p9]
/-- what the written part says of such a class -/
structure SupC (K : PySem.W.Frag) (C fI : Addr) (qual : Str) (pars : Arguments) (body : List Stmt) (scope : Scope) (file : Str) : Prop where
  cls : ∃ nm q N bs bm sn sub ab col dd k0 k1 k2 k3 k5, K.lookup C = some (excClassObj nm q C N bs bm true sn sub ab col dd k0 k1 k2 k3 k5 "ValueError.__new__") ∧ PySem.HandSPX.refsVE bm = true
  sa : PySem.W.findIn K (.ref C) "__setattr__" = some (some (.builtin "object.__setattr__"))
  exC : PySem.W.subIn K (.ref C) (.type "BaseException") = some true
  veC : PySem.W.subIn K (.ref C) (.type "ValueError") = some true
  meC : PySem.W.mroIn K C (.ref C) = some true
  tyC : PySem.W.typeIn K (.ref C) = some (.type "type")
  kC : PySem.W.keepIn K (.ref C) = true
  ini : PySem.W.findIn K (.ref C) "__init__" = some (some (.ref fI))
  tyI : PySem.W.typeIn K (.ref fI) = some (.type "function")
  fn : ∃ oc od kV doc pm an ct osl cc cda, K.lookup fI = some ⟨oc, od, .func (PySem.W.fnX "__init__" qual pars body scope [("__class__", cc)] .none kV doc pm an (.ref cda) ct), osl⟩ ∧ PySem.W.codeIn K (.ref cda) qual = true ∧
    (∃ cl cld csl, K.lookup cc = some ⟨cl, cld, .cell (some (.ref C)), csl⟩) ∧ ∃ ccl cdd vs ccs tf, K.lookup cda = some ⟨ccl, cdd, .fields vs, ccs⟩ ∧ vs[2]? = some (.str file tf)
  sup : PySem.W.ks_superIn K C C "__init__" = some (some (.builtin "ValueError.__init__"))
  third : PySem.W.nsIn K cStatics "thirdparty.any" = some none
section
variable {P : Program} {w : World} {K : PySem.W.Frag} {mg : Str → Option Value} {base : Heap} {A : Around} {C fI e : Addr} {qual file msg f x : Str} {pars : Arguments} {scope : Scope} {p0 p1 p2 p3 p4 p5 p6 p7 p8 p9 : Pos} {j : Nat} {R : Result → Shared → Prop} {s : Shared} {t0 : Addr} {v : Value}
/-- the call of the bound ValueError.__init__ -/
theorem call_mwV {nm q : Str} {N : Addr} {bs bm : List Value} {sn : List Str} {sub : List Value} {ab : Bool} {col : Option Bool} {dd : Option Addr} {k0 k1 k2 k3 k5 : Option Value} {u : Addr} {rest : List Value} {E : Value → Shared → Prop} {Q : Value → Shared → Prop}
    (hC : s.heap.get? C = some (excClassObj nm q C N bs bm true sn sub ab col dd k0 k1 k2 k3 k5 "ValueError.__new__")) (he : s.heap.get? e = some (PySem.HandSPX.excO C t0)) (hu : s.heap.get? u = some (PySem.W.kxs_mw "ValueError.__init__" e)) (hz : rest.length ≤ sizeLine)
    (next : ∀ h' t1, (∀ b o, b ≠ e → s.heap.get? b = some o → h'.get? b = some o) → h'.get? e = some (PySem.HandSPX.excO C t1) → Q .none { s with heap := h' }) : wpAny (model P w) A (call (.ref u) rest) Q E s := by
  obtain ⟨hh, g, d, tk, os⟩ := s
  refine wpAny_call (codeAny_of_tree ?_)
  show wpAny _ A.in1 (callAny (.ref u) ⟨rest, []⟩) _ _ _
  simp only [callAny]
  refine wpAny_bind (wpAny_load hu ?_)
  simp only [PySem.W.kxs_mw, show (Value.type "method-wrapper" == Value.type "method" || Value.type "method-wrapper" == Value.type "builtin_function_or_method" || Value.type "method-wrapper" == Value.type "method-wrapper") = true by decide, if_true]
  refine PySem.W.KFB.if_so (by decide) ?_
  refine wpAny_bind (PySem.W.check_bound_init F.excBase_ValueError.toExcCallFacts hC he rfl ?_)
  refine wpAny_bind (wpAny_pure (wpAny_pure ?_))
  refine ⟨plainId_quiet F.excBase_ValueError.init.plain _, codeAny_builtin F.excBase_ValueError.initEntry ?_⟩
  refine PySem.W.exc_init_tree (cls := .ref C) (t0 := t0) (dv := none) (c2 := .none) (c3 := .none) (b4 := .bool false) he hz fun h' keeps at_e at_t => ?_
  exact next h' hh.objs.size keeps at_e
theorem init_run (T : SupC K C fI qual pars (initBody msg f x p0 p1 p2 p3 p4 p5 p6 p7 p8 p9 j) scope file) (md : Mod K mg base) (k : ∀ b o, base.get? b = some o → s.heap.get? b = some o) (room : A.depth < recursionLimit) (he : s.heap.get? e = some (PySem.HandSPX.excO C t0)) (new : base.get? e = none)
    (hm : mg "super" = none) (hfile : P.main.file = file) (htop : (P.main.scope.names.lookup ("super" : Str)).isSome = false) (hno : PySem.W.findIn K (.ref C) f = some none)
    (hpar : (pars.posonlyargs ++ pars.args).head?.map (·.arg) = some "self") (hbind : ∀ (q : Str) (bd : List Stmt) (cl : List (Str × Addr)) (kV doc pm : Value) (an : Option Addr) (cd ct u v : Value), bindArgs (PySem.W.fnX "__init__" q pars bd scope cl .none kV doc pm an cd ct) ⟨[u, v], []⟩ = pure [(("self" : Str), u), (x, v)])
    (sk : scope.kind = .function) (sco : scope.isCoroutine = false) (sge : scope.isGenerator = false) (scell : ∀ y ∈ scope.names, y.2 ≠ .cell) (ss : scope.names.lookup ("self" : Str) = some .local) (sx : scope.names.lookup x = some .local) (su : scope.names.lookup ("super" : Str) = some .globalImplicit) (sc : scope.names.lookup ("__class__" : Str) = some .free)
    (q1 : ∀ en : Env, en.scope = scope → ∃ pl, eval (.Call (.Attribute (.Call (.Name "super" p0) [] [] p1) "__init__" p2) [.Constant (.str msg) j p3] [] p4) en = (do
      let ov ← attributeBase (.Call (.Name "super" p0) [] [] p1) "__init__" en (eval (.Call (.Name "super" p0) [] [] p1) en)
      standAt p2.atName
      let (f, first) ← holding [ov] (getMethod ov "__init__" pl)
      callWith p4 f first (backTo p4 (starEach [.Constant (.str msg) j p3] en)) []))
    (q2 : ∀ en : Env, en.scope = scope → interactive en = false) (q3 : ∀ en : Env, en.scope = scope → swapsWith (.Call (.Attribute (.Call (.Name "super" p0) [] [] p1) "__init__" p2) [.Constant (.str msg) j p3] [] p4) none p5.line en = pure false) (q4 : ∀ en : Env, en.scope = scope → swapsWith (.Name x p8) (some (.Attribute (.Name "self" p6) f p7)) p9.line en = pure false)
    (hxs : x ≠ "self") (dx : (x == ("__debug__" : Str)) = false)
    (next : ∀ h' tk dx t1, (∀ b o, b ≠ e → s.heap.get? b = some o → h'.get? b = some o) → s.heap.objs.size ≤ dx → dx ≠ e → h'.get? e = some { cls := .ref C, dict := some dx, data := .fields #[.ref t1, .none, .none, .none, .bool false, .none] } → h'.Ns1 dx (fun y => if y = f then some v else none) → R (.ok (.ret .none)) { s with heap := h', toks := tk }) :
    codeAny (model P w) A (.call (.ref fI) ⟨[.ref e, v], []⟩) R s := by
  obtain ⟨nm, q, N, bs, bm, sn, sub, ab, col, dd, k0, k1, k2, k3, k5, hC, hbm⟩ := T.cls
  obtain ⟨oc, od, kV, doc, pm, an, ct, osl, cc, cda, hF, hcode, ⟨cl, cld, csl, hcc⟩, ccl, cdd, vs, ccs, tf, hcda, hvs⟩ := T.fn
  have KX : K.In s.heap := md.kin.keeps k
  refine ks_codeAny_call_defAt (fd := PySem.W.fnX "__init__" qual pars (initBody msg f x p0 p1 p2 p3 p4 p5 p6 p7 p8 p9 j) scope [("__class__", cc)] .none kV doc pm an (.ref cda) ct) (binds := [(("self" : Str), .ref e), (x, v)]) room (KX _ _ hF) rfl (md.nolimit.keeps k) (PySem.W.codeRec_of KX hcode) rfl (BindsTo.of_eq (hbind _ _ _ _ _ _ _ _ _ _ _)) scell (fun y hy => ?_) (fun h1 ns1 keep1 => ?_) sco sge sk
  · rcases List.mem_cons.mp hy with rfl | hy
    · exact ss
    · rcases List.mem_cons.mp hy with rfl | hy
      · exact sx
      · cases hy
  have k1' : ∀ b o, base.get? b = some o → h1.get? b = some o := fun b o z => keep1 b o (k b o z)
  have K1 : K.In h1 := md.kin.keeps k1'
  have self1 : (fun y : Str => ([("self", Value.ref e), (x, v)] : List (Str × Value)).reverse.lookup y) "self" = some (.ref e) := by
    have : (("self" : Str) == x) = false := by simpa using Ne.symm hxs
    simp [List.lookup, this]
  have x1 : (fun y : Str => ([("self", Value.ref e), (x, v)] : List (Str × Value)).reverse.lookup y) x = some v := by simp [List.lookup]
  obtain ⟨hp, g, d, tk, os⟩ := s
  have e1 := keep1 _ _ he
  obtain ⟨mb, nsb, hmb⟩ := md.blt
  refine ks_wpAt_execs_cons ?_
  refine ks_wpAt_Expr_any ?_ (q2 _ rfl) (q3 _ rfl)
  obtain ⟨pl, q1⟩ := q1 (callEnv (PySem.W.fnX "__init__" qual pars (initBody msg f x p0 p1 p2 p3 p4 p5 p6 p7 p8 p9 j) scope [("__class__", cc)] .none kV doc pm an (.ref cda) ct) hp.objs.size fI) rfl
  refine ks_wpAt_MethodCall ?_ q1
  obtain ⟨ar, har, hself⟩ : ∃ ar, (pars.posonlyargs ++ pars.args).head? = some ar ∧ ar.arg = "self" := by
    cases q : (pars.posonlyargs ++ pars.args).head? with
    | none => rw [q] at hpar; cases hpar
    | some ar => rw [q] at hpar; exact ⟨ar, rfl, Option.some.inj hpar⟩
  refine ks_wpAt_super_base (ar := ar) su sc (by decide +kernel) rfl (K1 _ _ hF) rfl har rfl (K1 _ _ hcda) rfl hvs (by rw [hfile]; exact beq_self_eq_true _) htop ?_
  have hD := K1 _ _ hC
  refine ks_loadName_global sk su (Calls.loadGlobal_builtin (md.glob.keeps k1') hm (nsb.keeps k1') ((hmb _ (by decide +kernel)).trans (by decide +kernel)) ⟨rfl, ?_⟩)
  refine wpAny_loadName_free sk sc rfl ⟨_, K1 _ _ hcc, rfl⟩ ?_
  rw [hself]
  refine wpAny_loadName_local sk ss ns1 self1 ?_
  refine ks_wpAny_isType_cls hD rfl ⟨rfl, ?_⟩
  refine ks_wpAny_call_super hD rfl e1 rfl (fun c z => nomatch z) (looks_mroIn K1 T.meC) (fun h2 at2 keep2 => ?_)
  have K2 : K.In h2 := K1.keeps keep2
  have e2 := keep2 _ _ e1
  have hcl : clsIn K C = some { name := nm, bases := bs, mro := .ref C :: bm, ns := N, qualname := q, hasDict := true, slotNames := sn, subclasses := sub, abstract := ab, collection := col, hasDel := false } := by unfold clsIn; rw [hC] <;> rfl
  have eC : e ≠ C := fun z => by
    have := md.kin _ _ hC
    rw [← z, new] at this; cases this
  have hsup := T.sup
  unfold ks_superIn at hsup
  rw [hcl] at hsup
  have inst2 : InstAt h2 e (PySem.HandSPX.excO C t0) C none := ⟨e2, rfl, rfl, trivial⟩
  refine kxs_getMethod kxs_ValueError at2 (looks_opaque K2 T.third) (l₀ := .ref C :: bm) (fun A Q E s k q => wpAny_bind ((looks_clsIn K2 hcl) A _ E s k (wpAny_pure q))) rfl K2 hsup (inst2.type.andThen (looks_subIn K2 T.veC)) eC (by decide +kernel) ?_
  have keep3 : ∀ b o, h2.get? b = some o → (h2.push (kxs_mw "ValueError.__init__" e)).get? b = some o := fun b o z => Heap.get?_push_of_some _ z
  have mw3 : (h2.push (kxs_mw "ValueError.__init__" e)).get? h2.objs.size = some (kxs_mw "ValueError.__init__" e) := Heap.get?_push_size _ rfl
  refine kxs_callWith (i := "ValueError.__init__") (x := e) rfl ?_
  refine Calls.evalArgs_plain (Calls.spliced_cons (Calls.Constant_str (pos := p3) (k := j) (Calls.spliced_nil ⟨mw3, ?_⟩)))
  have KA : K.In (h2.push (kxs_mw "ValueError.__init__" e)) := K2.keeps keep3
  refine call_mwV (KA _ _ hC) (keep3 _ _ e2) mw3 (by show 1 ≤ sizeLine; decide) fun h4 t4 keep4 e4 => ?_
  have big : hp.objs.size ≤ h4.objs.size := by
    have a1 : hp.objs.size < h4.objs.size := by
      have nL : hp.objs.size ≠ e := Nat.ne_of_gt (Heap.lt_size he)
      obtain ⟨oL, _, _, q, _⟩ := ns1
      exact Heap.lt_size (keep4 _ _ nL (keep3 _ _ (keep2 _ _ q)))
    exact Nat.le_of_lt a1
  have k4 : ∀ b o, base.get? b = some o → h4.get? b = some o := fun b o z => keep4 b o (fun y => by rw [y, new] at z; cases z) (keep3 _ _ (keep2 _ _ (k1' b o z)))
  have K4 : K.In h4 := md.kin.keeps k4
  have ns4 : h4.Ns hp.objs.size (fun y : Str => ([("self", Value.ref e), (x, v)] : List (Str × Value)).reverse.lookup y) := ns1.at fun o z => keep4 _ _ (Nat.ne_of_gt (Heap.lt_size he)) (keep3 _ _ (keep2 _ _ z))
  refine wpAt_of_wpAny ?_
  refine wpAny_execs_cons (plainObj_wpAny_Assign_Attribute ?_ (q4 _ rfl))
  refine wpAny_Name (wpAny_loadName_local sk sx ns4 x1 ?_) dx
  refine wpAny_Name (wpAny_loadName_local sk ss ns4 self1 ?_) (by decide +kernel)
  refine set_plain K4 (ox := PySem.HandSPX.excO C t4) (od := none) ⟨e4, rfl, rfl, trivial⟩ T.sa ?_
  refine PySem.HandSPX.exc_osa K4 e4 hcl (show PySem.HandSPX.refsVE (.ref C :: bm) = true from hbm) rfl hno (fun h5 tk5 dx5 keep5 dn dne at5 ns5 => ?_)
  refine wpAny_execs_nil ?_
  exact next h5 _ dx5 t4 (fun b o nb z => keep5 b o nb (keep4 b o nb (keep3 _ _ (keep2 _ _ (keep1 b o z))))) (Nat.le_trans big dn) dne at5 ns5
end
end MT
end

section
set_option maxRecDepth 100000
set_option maxHeartbeats 4000000
namespace MT
open PySem PySem.Spec PyProof.Rows L2 PySem.W
/-! raising -/
/-- the equations of __init__'s text, read off its own words -/
structure IniT (P : Program) (pars : Arguments) (scope : Scope) (file msg f x : Str) (p0 p1 p2 p3 p4 p5 p6 p7 p8 p9 : Pos) (j : Nat) : Prop where
  hfile : P.main.file = file
  htop : (P.main.scope.names.lookup ("super" : Str)).isSome = false
  hpar : (pars.posonlyargs ++ pars.args).head?.map (·.arg) = some "self"
  hbind : ∀ (q : Str) (bd : List Stmt) (cl : List (Str × Addr)) (kV doc pm : Value) (an : Option Addr) (cd ct u v : Value), bindArgs (PySem.W.fnX "__init__" q pars bd scope cl .none kV doc pm an cd ct) ⟨[u, v], []⟩ = pure [(("self" : Str), u), (x, v)]
  sk : scope.kind = .function
  sco : scope.isCoroutine = false
  sge : scope.isGenerator = false
  scell : ∀ y ∈ scope.names, y.2 ≠ .cell
  ss : scope.names.lookup ("self" : Str) = some .local
  sx : scope.names.lookup x = some .local
  su : scope.names.lookup ("super" : Str) = some .globalImplicit
  sc : scope.names.lookup ("__class__" : Str) = some .free
  q1 : ∀ en : Env, en.scope = scope → ∃ pl, eval (.Call (.Attribute (.Call (.Name "super" p0) [] [] p1) "__init__" p2) [.Constant (.str msg) j p3] [] p4) en = (do
      let ov ← attributeBase (.Call (.Name "super" p0) [] [] p1) "__init__" en (eval (.Call (.Name "super" p0) [] [] p1) en)
      standAt p2.atName
      let (f, first) ← holding [ov] (getMethod ov "__init__" pl)
      callWith p4 f first (backTo p4 (starEach [.Constant (.str msg) j p3] en)) [])
  q2 : ∀ en : Env, en.scope = scope → interactive en = false
  q3 : ∀ en : Env, en.scope = scope → swapsWith (.Call (.Attribute (.Call (.Name "super" p0) [] [] p1) "__init__" p2) [.Constant (.str msg) j p3] [] p4) none p5.line en = pure false
  q4 : ∀ en : Env, en.scope = scope → swapsWith (.Name x p8) (some (.Attribute (.Name "self" p6) f p7)) p9.line en = pure false
  hxs : x ≠ "self"
  dx : (x == ("__debug__" : Str)) = false
/-- .. by the def's own words -/
def IniE (P : Program) (pars : Arguments) (body : List Stmt) (scope : Scope) (file f : Str) : Prop := ∃ msg x p0 p1 p2 p3 p4 p5 p6 p7 p8 p9 j, body = initBody msg f x p0 p1 p2 p3 p4 p5 p6 p7 p8 p9 j ∧ IniT P pars scope file msg f x p0 p1 p2 p3 p4 p5 p6 p7 p8 p9 j
section
variable {X : Cx} {e : Expr} {te : TE} {C fI : Addr} {D qual file msg f x : Str} {pars : Arguments} {scope : Scope} {p0 p1 p2 p3 p4 p5 p6 p7 p8 p9 p pos : Pos} {j k : Nat}
/-- D(e): an error with one field -/
theorem pmk_sup (T : SupC X.K C fI qual pars (initBody msg f x p0 p1 p2 p3 p4 p5 p6 p7 p8 p9 j) scope file) (U : IniT X.prog pars scope file msg f x p0 p1 p2 p3 p4 p5 p6 p7 p8 p9 j) (hno : findIn X.K (.ref C) f = some none) (hs : X.mg "super" = none) (hr : Room (k + 1) X.A) (hg : Gl X D) (hm : X.mg D = some (.ref C)) (he : PE X e te)
    (hdb : (D == ("__debug__" : Str)) = false) (h1 : starEach [e] X.env = (false, eval e X.env) :: starEach [] X.env) (h2 : (backTo pos (starEach ([] : List Expr) X.env)).any (·.1) = false) :
    PMk X (.Call (.Name D p) [e] [] pos) (fun σ H Q => te σ H fun v H1 => ∀ dd, H1 dd = none → Q (.ref C) (some dd) (upd H1 dd (.xd [(f, v)]))) := by
  intro pins s σ H Q I want
  obtain ⟨nm, q, N, bs, bm, sn, sub, ab, col, ddv, k0, k1, k2, k3, k5, hC, hbm⟩ := T.cls
  refine wpAny_Call_Name_kw (ld_glob I hg hm ?_ hdb)
  refine callWith_K (h₀ := X.base) I.ok.mod.kin T.kC (thn ((pa_cons he pa_nil h1).run pos pins s σ H (fun vs H1 => ∃ v, vs = [v] ∧ ∀ dd, H1 dd = none → Q (.ref C) (some dd) (upd H1 dd (.xd [(f, v)]))) I ?_) fun us s1 ⟨vs, H1, I1, r1, v, ev, q1⟩ => ⟨I1.kIn, ?_⟩) h1 h2
  · have e0 : te σ H (fun v H1 => ∀ dd, H1 dd = none → Q (.ref C) (some dd) (upd H1 dd (.xd [(f, v)]))) := want
    show te σ H fun v H1 => ∃ w, [v] = [w] ∧ ∀ dd, H1 dd = none → Q (.ref C) (some dd) (upd H1 dd (.xd [(f, w)]))
    have e1 : (fun (v : V) (H1 : Hp) => ∃ w, [v] = [w] ∧ ∀ dd, H1 dd = none → Q (.ref C) (some dd) (upd H1 dd (.xd [(f, w)]))) = fun v H1 => ∀ dd, H1 dd = none → Q (.ref C) (some dd) (upd H1 dd (.xd [(f, v)])) := by
      funext v H1
      refine propext ⟨fun ⟨w, ew, z⟩ => ?_, fun z => ⟨v, rfl, z⟩⟩
      cases ew; exact z
    rw [e1]; exact e0
  · subst ev
    obtain ⟨u, rfl, ru⟩ := vals1 r1
    show wpAny _ _ (call (.ref C) [u]) _ _ _
    obtain ⟨hp, g, d, tk, os⟩ := s1
    have big : hp.objs.size < ((hp.push (kdv_tup [u])).push (PySem.HandSPX.excO C hp.objs.size)).objs.size := by rw [Heap.size_push, Heap.size_push]; omega
    have keep0 : ∀ b o, hp.get? b = some o → ((hp.push (kdv_tup [u])).push (PySem.HandSPX.excO C hp.objs.size)).get? b = some o := fun b o z => Heap.get?_push_of_some _ (Heap.get?_push_of_some _ z)
    have at0 : ((hp.push (kdv_tup [u])).push (PySem.HandSPX.excO C hp.objs.size)).get? (hp.objs.size + 1) = some (PySem.HandSPX.excO C hp.objs.size) := by heap_get
    have nb : X.base.get? (hp.objs.size + 1) = none := by
      cases z : X.base.get? (hp.objs.size + 1) with
      | none => rfl
      | some o => have := Heap.lt_size (I1.bk _ _ z); exact absurd this (by show ¬ hp.objs.size + 1 < hp.objs.size; omega)
    refine wpAny_call (PySem.HandSPX.call_own F.excBase_ValueError (fun Y => PySem.HandSPX.refsVE_contains Y bm hbm) (I1.kIn _ _ hC) (looks_findIn I1.kIn T.ini) (fun self => bind_fn I1.kIn self T.tyI) (by show 1 ≤ sizeLine; decide) ?_)
    refine init_run T I1.mod (fun b o z => keep0 b o (I1.bk b o z)) (hr.make C [u] []).depth at0 nb hs U.hfile U.htop hno U.hpar U.hbind U.sk U.sco U.sge U.scell U.ss U.sx U.su U.sc U.q1 U.q2 U.q3 U.q4 U.hxs U.dx fun h' tk' dx t1 keep1 dn dne at1 ns1 => ?_
    have dxn : hp.objs.size ≤ dx := Nat.le_trans (Nat.le_of_lt big) dn
    have Hd : H1 dx = none := I1.hok.fresh dxn
    have ea : ∀ {b : Addr} {o : Obj}, hp.get? b = some o → b ≠ hp.objs.size + 1 := fun {b o} z y => by
      have h1 := Heap.lt_size z
      rw [y] at h1
      exact Nat.lt_irrefl _ (Nat.lt_trans (Nat.lt_succ_self _) h1)
    obtain ⟨G, g1, g2⟩ := restrict h' fun b => decide (b ≠ hp.objs.size + 1)
    have gk : ∀ b, b ≠ hp.objs.size + 1 → G.get? b = h'.get? b := fun b nb => g1 b (decide_eq_true nb)
    have gn : G.get? (hp.objs.size + 1) = none := g2 _ (by simp)
    have nd : hp.get? dx = none := by
      cases z : hp.get? dx with
      | none => rfl
      | some o => have := Heap.lt_size z; exact absurd dxn (Nat.not_le.mpr this)
    have xdOk : ObjOk X.prog X.w (upd H1 dx (.xd [(f, v)])) G dx (.xd [(f, v)]) := ⟨_, (show h'.Ns1 dx _ from ns1).at fun o z => (gk dx dne).trans z, relO_put (fs := []) ru fun _ => True.intro⟩
    have J : L2.Inv X pins σ (upd H1 dx (.xd [(f, v)])) ⟨G, g, d, tk', os⟩ := Inv.laidN (t' := tk') I1 (fun b o z => (gk b (ea z)).trans (keep1 b o (ea z) (keep0 b o z))) nd Hd xdOk
    refine ⟨rfl, hp.objs.size + 1, _, _, ⟨G, g, d, tk', os⟩, _, .ref C, some dx, rfl, J, fun b o z => ?_, gn, at1, ⟨rfl, rfl⟩, rfl, rfl, ?_, rfl, I1.bare, raises_own T.exC T.tyC, q1 dx Hd⟩
    · by_cases y : b = hp.objs.size + 1
      · rw [y, gn] at z; cases z
      · exact (gk b y).symm.trans z
    · rw [upd_ne (Ne.symm dne)]
      exact I1.hok.fresh (Nat.le_succ _)
end
section
variable {X : Cx} {B : Bd} {N : List Str} {sc : Scope} {lv : Nat} {e : Expr} {m : List Slot → W PyData} {pos p pp : Pos} {D : Str}
/-- raise D(text), D without a field -/
def dRaise (D : Str) : WS := fun E _ => E.er ⟨D, []⟩
theorem sd_raise {msg : Str} {j : Nat} {p2 : Pos} (cf : Cf X B N sc lv) (hC : excIn X.K (He.ga X.K D) He.veBase "ValueError.__new__" = true) (kC : keepIn X.K (.ref (He.ga X.K D)) = true) (sC : subIn X.K (.ref (He.ga X.K D)) (.type "BaseException") = some true) (tC : typeIn X.K (.ref (He.ga X.K D)) = some (.type "type"))
    (hg : Gl X D) (hm : X.mg D = some (.ref (He.ga X.K D))) (hdb : (D == ("__debug__" : Str)) = false) : SD X B (.Raise (some (.Call (.Name D p) [.Constant (.str msg) j p2] [] pos)) none pp) (dRaise D) := by
  obtain ⟨E, _, hE, tk⟩ := cf.pass
  exact ps_imp (ps_raise cf.calm tk (pmk_own F.excBase_ValueError hC hm kC (raises_own sC tC) hg hdb)) fun Dn σ H ⟨C, env, M, nx, rt, bk, ct, r, bo, hf, k1, k2, k3, k4⟩ =>
    hE C bo _ _ _ _ hf r.ext r.drOk ⟨rfl, .inl ⟨rfl, rfl⟩⟩
/-- raise D(e), D with the field f -/
def dRaiseF (D f : Str) (m : List Slot → W PyData) : WS := fun E env => m env (fun d => (atomV d).isSome = true ∧ E.er ⟨D, [(f, d)]⟩) E.er
theorem denL_atom1 {K : PySem.W.Frag} {M M' : Mk} {H H' : Hp} {d : PyData} {v : V} (h : (atomV d).isSome = true) (q : Den K M H d v) : DenL K M' H' [d] [v] := by
  simp only [DenL]
  refine ⟨v, [], rfl, ?_, rfl⟩
  cases d <;> simp [atomV] at h <;> simpa only [Den] using q
theorem sd_raiseF {fI : Addr} {qual file f : Str} {pars : Arguments} {body : List Stmt} {scope : Scope} (cf : Cf X B N sc lv) (hk : 1 ≤ lv) (T : SupC X.K (He.ga X.K D) fI qual pars body scope file) (U : IniE X.prog pars body scope file f)
    (hno : findIn X.K (.ref (He.ga X.K D)) f = some none) (hs : X.mg "super" = none) (hg : Gl X D) (hm : X.mg D = some (.ref (He.ga X.K D))) (hdb : (D == ("__debug__" : Str)) = false) (q : PD X B .s e m)
    (h1 : starEach [e] X.env = (false, eval e X.env) :: starEach [] X.env := by rfl) (h2 : (backTo pos (starEach ([] : List Expr) X.env)).any (·.1) = false := by rfl) : SD X B (.Raise (some (.Call (.Name D p) [e] [] pos)) none pp) (dRaiseF D f m) := by
  obtain ⟨E, _, hE, tk⟩ := cf.pass
  obtain ⟨msg, x, p0, p1, p2, p3, p4, p5, p6, p7, p8, p9, j, rfl, U⟩ := U
  refine ps_imp (ps_raise cf.calm tk (pmk_sup (k := 0) T U hno hs (cf.room.mono hk) hg hm q hdb h1 h2)) fun Dn σ H ⟨C, env, M, nx, rt, bk, ct, r, bo, hf, k1, k2, k3, k4⟩ => ?_
  refine ⟨C, env, M, _, r, bo, hf, fun v H1 d kk r1 de ⟨ha, he⟩ dd nd => ?_⟩
  have r2 := r1.new (o := .xd [(f, v)]) nd
  exact hE C bo _ _ _ _ he r2.ext r2.drOk ⟨rfl, .inr ⟨dd, [v], rfl, upd_same, denL_atom1 ha de⟩⟩
end
/-! such classes, told by a Bool -/
def clsB (K : PySem.W.Frag) (C : Addr) : Bool := match K.lookup C with
  | some ⟨.type "type", _, .cls cd, sl⟩ => (match cd.mro, sl.toList with
    | .ref C' :: bm, [_, _, _, _, some (.builtin n), _] => decide (C' = C) && (decide (n = "ValueError.__new__") && (!cd.hasDel && (cd.hasDict && PySem.HandSPX.refsVE bm)))
    | _, _ => false)
  | _ => false
theorem clsB_ok {K : PySem.W.Frag} {C : Addr} (h : clsB K C = true) : ∃ nm q N bs bm sn sub ab col dd k0 k1 k2 k3 k5, K.lookup C = some (excClassObj nm q C N bs bm true sn sub ab col dd k0 k1 k2 k3 k5 "ValueError.__new__") ∧ PySem.HandSPX.refsVE bm = true := by
  unfold clsB at h
  split at h
  · rename_i dd cd sl ho
    split at h
    · rename_i C' bm k0 k1 k2 k3 n k5 hmro hsl
      simp only [Bool.and_eq_true, decide_eq_true_eq, Bool.not_eq_true'] at h
      obtain ⟨rfl, rfl, h3, h4, h5⟩ := h
      obtain ⟨nm, bs, mro, ns, qn, hd, sn, sub, ab, col, del⟩ := cd
      dsimp only at hmro h3 h4
      subst hmro h3 h4
      obtain ⟨l⟩ := sl
      dsimp only at hsl
      subst hsl
      exact ⟨nm, qn, ns, bs, bm, sn, sub, ab, col, dd, k0, k1, k2, k3, k5, ho, h5⟩
    · cases h
  · cases h
abbrev IniF : Type := Option (Str × Str × Arguments × FuncBody × Scope × Addr × Addr)
/-- __init__'s object: what is compared with the text -/
def iniFn (K : PySem.W.Frag) (a : Addr) : IniF := match K.lookup a with
  | some ⟨_, _, .func fd, _⟩ => some (fd.name, fd.qualname, fd.params, fd.body, fd.scope, fd.globals, fd.builtins)
  | _ => none
/-- __init__'s object: its cell, its code -/
def iniB (K : PySem.W.Frag) (C a : Addr) (qual file : Str) : Bool := match K.lookup a with
  | some ⟨_, _, .func fd, _⟩ => (match fd.closure, fd.code, fd.defaults with
    | [(cn, cc)], .ref cda, .none => decide (cn = "__class__") && (PySem.W.codeIn K (.ref cda) qual && ((match K.lookup cc with
        | some ⟨_, _, .cell (some (.ref D)), _⟩ => decide (D = C)
        | _ => false) && (match K.lookup cda with
        | some ⟨_, _, .fields vs, _⟩ => (match (vs[2]? : Option Value) with
          | some (.str z _) => decide (z = file)
          | _ => false)
        | _ => false)))
    | _, _, _ => false)
  | _ => false
def supB (K : PySem.W.Frag) (D : Str) (qual file f : Str) : Bool := clsB K (He.ga K D) && (He.eqO (findIn K (.ref (He.ga K D)) "__setattr__") (some (some (.builtin "object.__setattr__"))) && (decide (subIn K (.ref (He.ga K D)) (.type "BaseException") = some true) && (decide (subIn K (.ref (He.ga K D)) (.type "ValueError") = some true) &&
  (decide (mroIn K (He.ga K D) (.ref (He.ga K D)) = some true) && (decide (typeIn K (.ref (He.ga K D)) = some (.type "type")) && (keepIn K (.ref (He.ga K D)) && (He.eqO (findIn K (.ref (He.ga K D)) "__init__") (some (some (.ref (He.ma K (He.ga K D) "__init__")))) && (decide (typeIn K (.ref (He.ma K (He.ga K D) "__init__")) = some (.type "function")) &&
  (iniB K (He.ga K D) (He.ma K (He.ga K D) "__init__") qual file && (He.eqO (ks_superIn K (He.ga K D) (He.ga K D) "__init__") (some (some (.builtin "ValueError.__init__"))) && (He.eqO (nsIn K cStatics "thirdparty.any") (some none) && He.eqO (findIn K (.ref (He.ga K D)) f) (some none))))))))))))
theorem supB_ok {K : PySem.W.Frag} {D qual file f : Str} {pars : Arguments} {body : List Stmt} {scope : Scope} (h : supB K D qual file f = true) (e : iniFn K (He.ma K (He.ga K D) "__init__") = some (("__init__" : Str), qual, pars, FuncBody.stmts body, scope, mainGlobals, builtinsNs)) :
    SupC K (He.ga K D) (He.ma K (He.ga K D) "__init__") qual pars body scope file ∧ findIn K (.ref (He.ga K D)) f = some none := by
  unfold supB at h
  simp only [Bool.and_eq_true, decide_eq_true_eq] at h
  obtain ⟨h1, h2, h3, h4, h5, h6, h7, h8, h9, h10, h11, h12, h13⟩ := h
  refine ⟨⟨clsB_ok h1, He.eqO_ok h2, h3, h4, h5, h6, h7, He.eqO_ok h8, h9, ?_, He.eqO_ok h11, He.eqO_ok h12⟩, He.eqO_ok h13⟩
  unfold iniFn at e
  unfold iniB at h10
  split at h10
  · rename_i oc od fd osl ho
    rw [ho] at e
    obtain ⟨n1, n2, n3, n4, n5, n6, n7, n8, n9, n10, n11, n12, n13, n14, n15⟩ := fd
    have e2 : (some (n1, n2, n3, n4, n5, n6, n15) : IniF) = some (("__init__" : Str), qual, pars, FuncBody.stmts body, scope, mainGlobals, builtinsNs) := e
    simp only [Option.some.injEq, Prod.mk.injEq] at e2
    obtain ⟨r1, r2, r3, r4, r5, r6, r8⟩ := e2
    subst r1 r2 r3 r4 r5 r6 r8
    dsimp only at h10
    split at h10
    · rename_i ll vv ww cn cc cda
      simp only [Bool.and_eq_true, decide_eq_true_eq] at h10
      obtain ⟨g1, g2, g3, g4⟩ := h10
      subst g1
      refine ⟨oc, od, _, _, _, _, _, osl, cc, cda, ho, g2, ?_, ?_⟩
      · split at g3
        · rename_i q1 q2 q3 q4 hc
          obtain rfl := of_decide_eq_true g3
          exact ⟨_, _, _, hc⟩
        · cases g3
      · split at g4
        · rename_i q1 q2 vs q4 hc
          split at g4
          · rename_i z t hz
            obtain rfl := of_decide_eq_true g4
            exact ⟨_, _, vs, _, t, hc, hz⟩
          · cases g4
        · cases g4
    · cases h10
  · cases h10
end MT
end

section
set_option maxRecDepth 100000
set_option maxHeartbeats 4000000
namespace MT
open PySem PySem.Spec PyProof.Rows L2 PySem.W
/-! the head: what is told of the text, tables of code objects, errors' classes -/
structure IniD where
  D : Str
  qual : Str
  pars : Arguments
  body : List Stmt
  scope : Scope
def IniD.val (d : IniD) : IniF := some (("__init__" : Str), d.qual, d.pars, FuncBody.stmts d.body, d.scope, mainGlobals, builtinsNs)
def IniD.fn (K : Frag) (d : IniD) : IniF := iniFn K (He.ma K (He.ga K d.D) "__init__")
structure SaysY (fa : List He.Fa) (fn : List He.DefD) (tf : List He.Defn) (ini : List IniD) (ex : Frag → Bool) (h : Heap) (K : Frag) : Prop where
  t : He.SaysD fa fn K
  more : ex K = true
  ini : ini.map (IniD.fn K) = ini.map IniD.val
  hd : ∀ p ∈ tf, codeHdIn K (He.cT K p).1 (He.cT K p).2 = true
  out : ∀ p ∈ tf, K.lookup (He.cT K p).2 = none
  empty : ∀ p ∈ tf, h.get? (He.cT K p).2 = some emptyT
abbrev AlY : Type := He.AlD × Bool × List IniF
def partY (g : Addr → Option Obj) (n : Nat) : Frag := He.frT g (cStatics :: He.asD g n)
def obsY (n : Nat) (fa : List He.Fa) (fn : List He.DefD) (tf : List He.Defn) (ini : List IniD) (ex : Frag → Bool) (g : Addr → Option Obj) : AlY := (He.obsD fa fn (partY g n), ex (partY g n) && He.tabsB g tf (partY g n), ini.map (IniD.fn (partY g n)))
def valY (fn : List He.DefD) (ini : List IniD) : AlY := (He.valD fn, true, ini.map IniD.val)
theorem saysY_of {n : Nat} {fa : List He.Fa} {fn : List He.DefD} {tf : List He.Defn} {ini : List IniD} {ex : Frag → Bool} {h : Heap} (e : obsY n fa fn tf ini ex h.get? = valY fn ini) : SaysY fa fn tf ini ex h (partY h.get? n) := by
  have e1 : He.obsD fa fn (partY h.get? n) = He.valD fn := congrArg (fun z : AlY => z.1) e
  have e2 : (ex (partY h.get? n) && He.tabsB h.get? tf (partY h.get? n)) = true := congrArg (fun z : AlY => z.2.1) e
  have e3 : ini.map (IniD.fn (partY h.get? n)) = ini.map IniD.val := congrArg (fun z : AlY => z.2.2) e
  obtain ⟨x1, x2⟩ := He.ba e2
  have each : ∀ p ∈ tf, codeHdIn (partY h.get? n) (He.cT (partY h.get? n) p).1 (He.cT (partY h.get? n) p).2 = true ∧ ∃ o, h.get? (He.cT (partY h.get? n) p).2 = some o ∧ He.emptyTab o = true := fun p hp => by
    obtain ⟨y1, y2⟩ := He.ba (List.all_eq_true.mp x2 p hp)
    refine ⟨y1, ?_⟩
    split at y2
    · rename_i o ho
      exact ⟨o, ho, y2⟩
    · cases y2
  exact ⟨e1, x1, e3, fun p hp => (each p hp).1, fun p hp => by
    obtain ⟨_, o, q, z⟩ := each p hp
    exact He.frT_none q z, fun p hp => by
    obtain ⟨_, o, q, z⟩ := each p hp
    rw [q, He.emptyTab_eq z]⟩
def hookY (n : Nat) (fa : List He.Fa) (fn : List He.DefD) (tf : List He.Defn) (ini : List IniD) (ex : Frag → Bool) : PySem.W.Hook where
  α := AlY
  obs := fun s => obsY n fa fn tf ini ex s.heap.get?
  val := fun _ => valY fn ini
  says := fun _ h => ∃ K : Frag, K.In h ∧ SaysY fa fn tf ini ex h K
  of := fun _ _ e => ⟨_, He.frT_in, saysY_of e⟩
  keeps := fun _ _ _ ⟨K, hK, c⟩ k => ⟨K, Frag.In.keeps hK k, ⟨c.t, c.more, c.ini, c.hd, c.out, fun p hp => k _ _ (c.empty p hp)⟩⟩
theorem obsY_eq {n : Nat} {fa : List He.Fa} {fn : List He.DefD} {tf : List He.Defn} {ini : List IniD} {ex : Frag → Bool} {g : Addr → Option Obj} {s : Shared} (h : ∀ a, g a = s.heap.get? a) : obsY n fa fn tf ini ex g = (hookY n fa fn tf ini ex).obs s := by
  have e : g = s.heap.get? := funext h
  rw [e]; rfl
/-- the tables with the names that come to stand in them -/
def tabT (K : Frag) (tf : List He.Defn) : List (Addr × Str) := tf.map fun p => ((He.cT K p).2, p.1 ++ ".<locals>." ++ "<lambda>")
/-- no two of them are one -/
def tabNd (tf : List He.Defn) (K : Frag) : Bool := decide ((tf.map fun p => (He.cT K p).2).Nodup)
theorem nd_one {α β : Type} {f : α → β} : ∀ {l : List α}, (l.map f).Nodup → ∀ p ∈ l, ∀ q ∈ l, f p = f q → p = q
  | [], _, p, hp, _, _, _ => nomatch hp
  | a :: l, h, p, hp, q, hq, e => by
    rw [List.map_cons, List.nodup_cons] at h
    rcases List.mem_cons.mp hp with e1 | h1
    · rcases List.mem_cons.mp hq with e2 | h2
      · rw [e1, e2]
      · exact absurd (by rw [← e1, e]; exact List.mem_map_of_mem h2) h.1
    · rcases List.mem_cons.mp hq with e2 | h2
      · exact absurd (by rw [← e2, ← e]; exact List.mem_map_of_mem h1) h.1
      · exact nd_one h.2 p h1 q h2 e
theorem lf_of {K : Frag} {tf : List He.Defn} {X : Cx} {B : Bd} {x : Str} {fd : FuncData} {f : Addr} {pr : Arguments} {bd : List Stmt} {sc : Scope} {dvs : List V} {kws : List (Str × V)} (hK : X.K = K) (F : FunD K x x pr bd sc dvs kws f fd) (hf : f = He.ga K x) (hx : (x, none) ∈ tf) (nd : tabNd tf K = true)
    (hB : ∀ C, B.ok C → C.tb = tabT K tf) (TB : ∀ p ∈ tf.map (He.cT K), LamX.TabB X.base X.mg p.1 p.2) (hq : X.env.qual = x ++ ".<locals>.") (hc : X.env.code = fd.code) : Lf X B (tabT K tf) (He.cT K (x, none)).1 (He.cT K (x, none)).2 := by
  obtain ⟨oc, od, dV, kV, doc, pm, an, cdv, ct, osl, rfl, lk, hcg, _, _⟩ := F.ex
  obtain ⟨cc, ecc⟩ := He.codeIn_ref hcg
  refine ⟨TB _ (List.mem_map_of_mem hx), ?_, List.mem_map.mpr ⟨(x, none), hx, by unfold LName; rw [hq]⟩, fun p hp e => ?_, hB⟩
  · rw [hc]
    show cdv = .ref (He.codeOf K (x, none))
    rw [ecc, He.codeOf_eq (p := (x, none)) (c := cc) (by show K.lookup (He.ga K x) = _; rw [← hf]; exact lk) ecc]
  · obtain ⟨q, hq2, rfl⟩ := List.mem_map.mp hp
    have := nd_one (f := fun p => (He.cT K p).2) (of_decide_eq_true nd) q hq2 (x, none) hx e
    subst this
    unfold LName
    rw [hq]
end MT
namespace MT
open PySem PySem.Spec PyProof.Rows L2 PySem.W
/-- __init__ of a class's text -/
def clsInit : Stmt → Stmt
  | .ClassDef _ _ _ body _ _ _ _ _ _ _ => body.headD (.Pass ⟨0, 0, 0, 0⟩)
  | s => s
theorem exc_ok {K : Frag} {x : Str} (c : (He.Fa.exc x).ok K = true) : excIn K (He.ga K x) He.veBase "ValueError.__new__" = true ∧ keepIn K (.ref (He.ga K x)) = true ∧ subIn K (.ref (He.ga K x)) (.type "BaseException") = some true ∧ typeIn K (.ref (He.ga K x)) = some (.type "type") := by
  have c2 : (excIn K (He.ga K x) He.veBase "ValueError.__new__" && (keepIn K (.ref (He.ga K x)) && (decide (subIn K (.ref (He.ga K x)) (.type "BaseException") = some true) && decide (typeIn K (.ref (He.ga K x)) = some (.type "type"))))) = true := c
  simp only [Bool.and_eq_true, decide_eq_true_eq] at c2
  exact c2
theorem ini_at {ini : List IniD} {K : Frag} (h : ini.map (IniD.fn K) = ini.map IniD.val) (i : Nat) {d : IniD} (e : ini[i]? = some d := by rfl) : iniFn K (He.ma K (He.ga K d.D) "__init__") = some (("__init__" : Str), d.qual, d.pars, FuncBody.stmts d.body, d.scope, mainGlobals, builtinsNs) := by
  have h2 : (ini.map (IniD.fn K))[i]? = (ini.map IniD.val)[i]? := by rw [h]
  rw [List.getElem?_map, List.getElem?_map, e] at h2
  exact Option.some.inj h2
end MT
end

section
set_option maxRecDepth 100000
set_option maxHeartbeats 4000000
/-! sorted(x), x a tuple of ints -/
namespace SrtO
open PySem PySem.Spec PyProof.Rows PySem.W
section
variable {prog : Program} {w : World} {A : Around} {E : Value → Shared → Prop} {s : Shared}
theorem collect_tupT {l : Addr} {o : Obj} {vs : List Value} {n : Nat} {Q : List Value → Shared → Prop} (ho : s.heap.get? l = some o) (hc : o.cls = .type "tuple") (hd : o.data = .seq vs.toArray n)
    (h : Q vs { s with heap := (s.heap.push (seqObj "list" #[] 0)).update s.heap.objs.size (Obj.mapSeq (· ++ vs.toArray)) }) (hsz : vs.length ≤ sizeLine) :
    wpAny (model prog w) A (collect (.ref l)) Q E s := by
  unfold collect
  refine wpAny_bind (wpAny_runValue (codeAny_builtin entry_proto_collect' ?_))
  show wpAny _ _ (do again (.builtin "list.__iadd__" ⟨[← newList [], .ref l], []⟩)) _ _ s
  refine wpAny_bind (wpAny_newList (wpAny_pure ⟨Code.quiet_builtin _ (by decide +kernel), codeAny_builtin entry_list_iadd' ?_⟩))
  show wpAny _ _ (Builtin.List.listExtendWith (.ref s.heap.objs.size) (.ref l) (.ref s.heap.objs.size)) _ _ { s with heap := s.heap.push (seqObj "list" #[] 0) }
  unfold Builtin.List.listExtendWith
  have ho' : (s.heap.push (seqObj "list" #[] 0)).get? l = some o := Heap.get?_push_of_some _ ho
  refine wpAny_bind (wpAny_typeOf (T := "tuple") ⟨o, ho', hc⟩ ?_)
  have ht : (Value.type "tuple" == Value.type "tuple") = true := by rfl
  rw [if_pos (by rw [ht]; simp)]
  refine wpAny_bind (listItems_at ho' hd ?_)
  refine wpAny_bind (listItems_at (xs := #[]) (n := 0) (Heap.get?_push_size _ rfl) rfl ?_)
  rw [if_neg (by simp)]
  refine wpAny_bind (listUpdate_at (xs := #[]) (n := 0) (Heap.get?_push_size _ rfl) rfl ?_ (Nat.zero_le _) (by show (#[] ++ vs.toArray).size ≤ sizeLine + 1; simp only [Array.size_append, List.size_toArray, List.length_nil]; omega))
  refine wpAny_pure ?_
  show wpAny (model prog w) A (do
      let o ← load s.heap.objs.size
      match o.data with
      | .seq xs _ => pure xs.toList
      | _ => unsupported "internal:collect") Q E { s with heap := (s.heap.push (seqObj "list" #[] 0)).update s.heap.objs.size (Obj.mapSeq (· ++ vs.toArray)) }
  refine wpAny_bind (wpAny_load (get?_update_seq (Heap.get?_push_size _ rfl) _) ?_)
  show wpAny _ _ (pure ((#[] : Array Value) ++ vs.toArray).toList) Q E _
  rw [show ((#[] : Array Value) ++ vs.toArray).toList = vs by simp]
  exact wpAny_pure h
theorem sorted_tup {l : Addr} {o : Obj} {vs : List Value} {m : Nat} {ltv : Value → Value → Bool} {Q : Value → Shared → Prop} (O : Swo ltv) (ho : s.heap.get? l = some o) (hc : o.cls = .type "tuple") (hd : o.data = .seq vs.toArray m) (hz : vs.length ≤ sizeLine)
    (hS : 2 ≤ vs.length → ∀ (h₁ : Heap) (a : Addr), h₁.get? a = some (seqObj "list" vs.toArray 0) → (∀ b o, s.heap.get? b = some o → b ≠ a ∧ h₁.get? b = some o) → SortableO prog w A.in1.in1 { s with heap := h₁ } a vs ltv)
    (h : ∀ out : List Value, Srtd ltv out → Stb ltv out vs → Q (.ref (s.heap.objs.size + 1)) { s with heap := sortedAll s.heap vs out.toArray }) :
    wpAny (model prog w) A (call (.builtin "sorted") [.ref l]) Q E s := by
  refine Calls.call_function_entry kind_sorted plain_sorted entry_sorted (args_sorted1 _) ?_
  unfold Builtin.«sorted»
  refine wpAny_bind (m := checkCount "sorted" 1 1 _) (wpAny_pure ?_)
  refine wpAny_bind (collect_tupT ho hc hd ?_ hz)
  refine wpAny_bind (wpAny_newList ?_ hz)
  have hsz : ((s.heap.push (seqObj "list" #[] 0)).update s.heap.objs.size (Obj.mapSeq (· ++ vs.toArray))).objs.size = s.heap.objs.size + 1 := by
    rw [Heap.size_update, size_push']
  have hoL : (((s.heap.push (seqObj "list" #[] 0)).update s.heap.objs.size (Obj.mapSeq (· ++ vs.toArray))).push (seqObj "list" vs.toArray 0)).get? (s.heap.objs.size + 1) = some (seqObj "list" vs.toArray 0) := by
    rw [← hsz]; exact Heap.get?_push_size _ rfl
  have keep : ∀ b o, s.heap.get? b = some o → b ≠ s.heap.objs.size + 1 ∧ (((s.heap.push (seqObj "list" #[] 0)).update s.heap.objs.size (Obj.mapSeq (· ++ vs.toArray))).push (seqObj "list" vs.toArray 0)).get? b = some o := fun b o q => by
    have hlt : b < s.heap.objs.size := Heap.lt_size q
    refine ⟨Nat.ne_of_lt (Nat.lt_succ_of_lt hlt), Heap.get?_push_of_some _ ?_⟩
    rw [Heap.get?_update_ne _ _ _ _ (Nat.ne_of_lt hlt)]
    exact Heap.get?_push_of_some _ q
  show wpAny _ _ _ _ _ { s with heap := ((s.heap.push (seqObj "list" #[] 0)).update s.heap.objs.size (Obj.mapSeq (· ++ vs.toArray))).push (seqObj "list" vs.toArray 0) }
  rw [hsz]
  refine wpAny_bind (wpAny_holding (wpAny_call_entry slot_list_sort ⟨_, hoL, rfl⟩ entry_list_sort (list_sort_ord O hoL hz (fun h2 => hS h2 _ _ hoL keep) fun out hs hb => ⟨_, rfl, ?_⟩) (args_list_sort _)))
  exact wpAny_pure ⟨_, rfl, h out hs hb⟩
end
end SrtO
namespace MT
open PySem PySem.Spec PyProof.Rows L2
section
variable {X : Cx} {B : Bd} {e : Expr} {m : List Slot → W PyData} {p pos : Pos}
def rSortT (K : PySem.W.Frag) : List V → Hp → VK → Prop := fun vs H Q => ∃ (a : Addr) (ns : List Int), vs = [V.ref a] ∧ (SqL K H a (ns.map V.int) ∨ SqT K H a (ns.map V.int)) ∧
  ∀ (ns' : List Int) (p : Addr), ns'.Perm ns → ns'.Pairwise (· ≤ ·) → H p = none → Q (.ref p) (upd H p (.lst (ns'.map V.int)))
theorem cr_sortT : CallR X (.builtin "sorted") (rSortT X.K) := by
  intro pins s σ H vs us Q I r h
  obtain ⟨a, ns, rfl, hs | hs, q⟩ := h
  · exact cr_sortedI _ _ _ _ _ _ _ I r ⟨a, ns, rfl, hs, q⟩
  · obtain ⟨its, rv, hl, hz⟩ := I.tuple hs
    rw [Vals.ref1 r]
    have hi := rv.ints
    obtain ⟨o, ho, hc, n, hd⟩ := hl
    refine SrtO.sorted_tup SrtO.swo_int ho hc hd (by rw [← rv.length]; exact hz) (fun h2 h₁ a' _ _ => SrtO.ints_sortable hi h2) fun out h1 h2 => ?_
    obtain ⟨k1, k2, k3⟩ := SrtO.ints_out hi h1 h2
    obtain ⟨ep, he'⟩ := PyProof.Rows.sortedAll_at s.heap its out.toArray
    have hlen : ((out.map SrtO.iv).map V.int).length ≤ sizeLine := by
      rw [List.length_map, k2.length_eq]
      rw [List.length_map] at hz
      exact hz
    exact ⟨.ref _, upd H (s.heap.objs.size + 1) (.lst ((out.map SrtO.iv).map V.int)), I.laid (t' := s.toks) (fun _ _ => PyProof.Rows.sortedAll_old) (Nat.le_succ _) ⟨hlen, out, ep, vals_of_ints k1, he'⟩, rfl, q _ _ k2 k3 (I.hok.fresh (Nat.le_succ _))⟩
def oSort : O1
  | .list ds => fun P _ => ∃ ns : List Int, ds = ns.map PyData.int ∧ ns.length ≤ sizeLine ∧ ∀ ns' : List Int, ns'.Perm ns → ns'.Pairwise (· ≤ ·) → P (.list (ns'.map PyData.int))
  | .tuple ds => fun P _ => ∃ ns : List Int, ds = ns.map PyData.int ∧ ns.length ≤ sizeLine ∧ ∀ ns' : List Int, ns'.Perm ns → ns'.Pairwise (· ≤ ·) → P (.list (ns'.map PyData.int))
  | _ => fun _ _ => False
theorem ints_denL {K : PySem.W.Frag} {M : Mk} {H : Hp} : ∀ ns : List Int, DenL K M H (ns.map PyData.int) (ns.map V.int)
  | [] => by simp only [List.map_nil, DenL]
  | n :: ns => by
    simp only [List.map_cons, DenL]
    exact ⟨_, _, rfl, by simp only [Den], ints_denL ns⟩
theorem ud_sort {K : PySem.W.Frag} : UnD K B .o .s oSort (fun v H Q => rSortT K [v] H Q) := by
  intro C M env σ H v d P Q r dv hm k
  unfold oSort at hm
  split at hm
  · obtain ⟨ns, rfl, hz, hq⟩ := hm
    obtain ⟨a, xs, rfl, g1, g2, g3⟩ := den_lst dv
    cases denL_ints g3 (intsOf_map ns)
    refine ⟨a, ns, rfl, .inl (.of g1), fun ns' p h1 h2 h3 => ?_⟩
    exact mk_lst r (ints_denL ns') (by rw [List.length_map, h1.length_eq]; exact hz) (hq ns' h1 h2) k p h3
  · obtain ⟨ns, rfl, hz, hq⟩ := hm
    obtain ⟨a, xs, rfl, g1, g2, g3⟩ := den_tup dv
    cases denL_ints g3 (intsOf_map ns)
    refine ⟨a, ns, rfl, .inr g1, fun ns' p h1 h2 h3 => ?_⟩
    exact mk_lst r (ints_denL ns') (by rw [List.length_map, h1.length_eq]; exact hz) (hq ns' h1 h2) k p h3
  · exact hm.elim
theorem boot_sorted' : bootBuiltins "sorted" = some (.builtin "sorted") := by decide +kernel
theorem pd_sorted (hg : Gl X "sorted") (hm : X.mg "sorted" = none) (q : PD X B .o e m) (h1 : starEach [e] X.env = (false, eval e X.env) :: starEach [] X.env := by rfl) : PD X B .s (.Call (.Name "sorted" p) [e] [] pos) (dUn oSort m) := pd_callB1 cr_sortT ud_sort hg hm boot_sorted' q (by decide) (by decide) h1
end
end MT
end

section
set_option maxRecDepth 100000
set_option maxHeartbeats 4000000
namespace MT
open PySem PySem.Spec PyProof.Rows L2
section
variable {X : Cx} {B : Bd} {e : Expr} {m : List Slot → W PyData} {pos pos' p : Pos} {x : Str} {i : Nat}
/-! x, y = f(..) -/
def dUnp (t : TgD) (m : List Slot → W PyData) : WS := fun E env => m env (fun d => ∃ env', t d env = some env' ∧ E.nx env') E.er
theorem sd_unp {tg : Expr} {t : TgD} {ix : List Nat} (p : PD X B .s e m) (hg : PT1 X false tg t ix) (hs : swapsWithSole [tg] e pos.line X.env = pure false := by rfl) (hw : swappedStores [tg] e X.env = pure none := by rfl)
    (h1 : (assignEach [tg] X.env).map (·.2) = [assign tg X.env] := by rfl) : SD X B (.Assign [tg] e pos) (dUnp t m) :=
  ps_imp (ps_asg p hg hs hw h1) fun D σ H ⟨C, env, M, nx, rt, bk, ct, r, bo, hf, k1, k2, k3, k4⟩ =>
    ⟨C, env, M, _, r, bo, hf, fun v H' d kk r' de ⟨env', e, q⟩ => ⟨C, env, M, d, env', r', .inl de, e, fun σ' r2 _ => k1 M σ' H' env' r2 q⟩⟩
/-! f = g if c else h -/
theorem R.setFn {K : PySem.W.Frag} {C : Ctx} {M : Mk} {σ : L2.St} {H : Hp} {env : List Slot} (r : R K C M σ H env) {i : Nat} {a : Addr} : R K C M (σ.set i (some (V.ref a))) H (env.set i (.fn a)) :=
  r.setAll (is := [i]) (ss := [.fn a]) (vs := [V.ref a]) rfl ⟨rfl, fun j s v e1 e2 => by
    cases j with
    | zero => cases e1; cases e2; rfl
    | succ j => simp at e1, fun j xs a e1 e2 => by
    cases j with
    | zero => cases e1
    | succ j => simp at e1, fun j k xs ys a e1 e2 e3 e4 => by
    cases j with
    | zero => cases e1
    | succ j => simp at e1⟩
def dSetF (i : Nat) (c : List Slot → W Bool) (a b : Addr) : WS := fun E env => c env (fun z => E.nx (env.set i (.fn (if z = true then a else b)))) E.er
theorem sd_setF {c x1 x2 : Expr} {pc : List Slot → W Bool} {a1 a2 : Addr} {pi : Pos} (hN : X.N.Nodup) (hi : X.N[i]? = some x) (hx : Loc X.env.scope x) (hc : PB X B c pc) (h1 : PE X x1 (tC (.ref a1))) (h2 : PE X x2 (tC (.ref a2))) (hf : X.fn x = true ∨ X.env.scope.names.lookup x = some .local)
    (hs : swapsWith (.IfExp c x1 x2 pi) (some (.Name x pos')) pos.line X.env = pure false := by rfl) : SD X B (.Assign [.Name x pos'] (.IfExp c x1 x2 pi) pos) (dSetF i pc a1 a2) :=
  ps_imp (ps_set hN hi hx (pe_ifExp hc h1 h2) hs hf) fun D σ H ⟨C, env, M, nx, rt, bk, ct, r, bo, hm, k1, k2, k3, k4⟩ =>
    ⟨C, env, M, _, r, bo, hm, fun H1 z kk r1 q => by
      cases z with
      | true => exact iteT (k1 M _ H1 _ r1.setFn q)
      | false => exact iteF (k1 M _ H1 _ r1.setFn q)⟩
end
end MT
end

section
set_option maxRecDepth 100000
set_option maxHeartbeats 1000000
namespace HT
open PySem PySem.Spec PyProof.Rows PySem.W
section
variable {prog : Program} {w : World} {A : Around} {E : Value → Shared → Prop} {s : Shared}
theorem fm_map {α β : Type} {f : α → Option β} {g : α → β} : ∀ l : List α, (∀ m ∈ l, f m = some (g m)) → l.filterMap f = l.map g
  | [], _ => rfl
  | a :: l, h => by
    rw [List.filterMap_cons_some (h a List.mem_cons_self), List.map_cons, fm_map l fun m hm => h m (List.mem_cons_of_mem _ hm)]
theorem pick_rev (xs : Array Value) : ((List.range xs.size).filterMap fun (m : Nat) => xs[(((xs.size : Nat) : Int) - 1 + (m : Int) * (-1)).toNat]?) = xs.toList.reverse := by
  refine List.ext_getElem? fun i => ?_
  have e : ((List.range xs.size).filterMap fun (m : Nat) => xs[(((xs.size : Nat) : Int) - 1 + (m : Int) * (-1)).toNat]?) = (List.range xs.size).map fun m => xs.toList.getD (xs.size - 1 - m) .none := by
    refine fm_map _ fun m hm => ?_
    have hm := List.mem_range.mp hm
    have : (((xs.size : Nat) : Int) - 1 + (m : Int) * (-1)).toNat = xs.size - 1 - m := by omega
    rw [this]
    rw [Array.getElem?_eq_getElem (by omega), List.getD_eq_getElem?_getD, List.getElem?_eq_getElem (by rw [Array.length_toList]; omega)]
    rfl
  rw [e]
  by_cases h : i < xs.size
  · rw [List.getElem?_map, List.getElem?_range h, List.getElem?_reverse (by rw [Array.length_toList]; exact h), Array.length_toList]
    rw [List.getElem?_eq_getElem (by rw [Array.length_toList]; omega)]
    show some (xs.toList.getD (xs.size - 1 - i) Value.none) = some _
    rw [List.getD_eq_getElem?_getD, List.getElem?_eq_getElem (by rw [Array.length_toList]; omega)]; rfl
  · rw [List.getElem?_eq_none (by simp; omega), List.getElem?_eq_none (by simp; omega)]
theorem places_rev (n : Nat) : Builtin.Slice.slicePlaces ((n : Int) - 1) (-1) (-1) = n := by
  unfold Builtin.Slice.slicePlaces
  rw [if_neg (by omega)]
  by_cases h : ((n : Int) - 1) > -1
  · rw [if_pos h, show (- -1 : Int) = 1 by rfl, Int.ediv_one]; omega
  · rw [if_neg h]; omega
theorem applied_rev {sl : Addr} {vl vu vs : Value} {n : Nat} {Q : Int × Int × Nat → Shared → Prop} (hs : s.heap.IsSliceOf sl vl vu vs) (pl : IsPart vl none) (pu : IsPart vu none) (ps : IsPart vs (some (-1)))
    (h : Q ((n : Int) - 1, -1, n) s) : wpAny (model prog w) A (Builtin.Slice.sliceApplied (.ref sl) (pure (n : Int))) Q E s := by
  obtain ⟨os, hos, hcs, hds⟩ := id hs
  unfold Builtin.Slice.sliceApplied Builtin.Slice.sliceFields
  refine wpAny_bind (wpAny_bind (wpAny_field hos hds (x := vl) rfl (wpAny_bind (wpAny_field hos hds (x := vu) rfl (wpAny_bind (wpAny_field hos hds (x := vs) rfl (wpAny_pure ?_)))))))
  refine wpAny_bind (slicePart_ ps ?_)
  show wpAny _ _ (if ((-1 : Int) == 0) = true then _ else _) _ _ s
  rw [if_neg (by decide)]
  refine wpAny_bind (slicePart_ pl (wpAny_bind (slicePart_ pu (wpAny_bind (wpAny_pure ?_)))))
  show wpAny _ _ (pure ((n : Int) - 1, (-1 : Int), Builtin.Slice.slicePlaces ((n : Int) - 1) (-1) (-1))) _ _ s
  rw [places_rev]
  exact wpAny_pure h
theorem getItem_tuple_rev {t sl : Addr} {items : Array Value} {vl vu vs : Value} {Q : Value → Shared → Prop} (ht : IsTup s.heap t items) (hs : s.heap.IsSliceOf sl vl vu vs) (pl : IsPart vl none) (pu : IsPart vu none) (ps : IsPart vs (some (-1)))
    (h : Q (.ref s.heap.objs.size) { s with heap := s.heap.push { cls := .type "tuple", data := .seq items.toList.reverse.toArray } })
    (hsz : items.size ≤ sizeLine) : wpAny (model prog w) A (getItem (.ref t) (.ref sl)) Q E s := by
  have htake : sizeOk (.seq items.toList.reverse.toArray) := by
    show items.toList.reverse.toArray.size ≤ sizeLine
    rw [List.size_toArray, List.length_reverse, Array.length_toList]
    exact hsz
  obtain ⟨os, hos, hcs, hds⟩ := id hs
  have hTs : s.TypeIs (.ref sl) "slice" := ⟨os, hos, hcs⟩
  unfold getItem
  try with_reducible refine wpAny_holding ?_
  first | refine wpAny_bind (wpAny_pure ?_) | skip
  refine wpAny_bind (wpAny_sequenceKey ht.typeIs (by decide) ?_)
  refine wpAny_bind (wpAny_callSpecial?_slot (name := Str.ofString "__getitem__") ht.typeIs PyProof.Rows.slot_tuple_getitem
    (wpAny_call_entry PyProof.Rows.slot_tuple_getitem ht.typeIs entry_tuple_getitem ?_ (args_tuple_getitem _ _)))
  show wpAny _ _ (Builtin.Tuple.tupleItemsOf (.ref t) >>= _) _ _ s
  refine wpAny_bind (tupleItemsOf_ ht ?_)
  refine wpAny_bind (wpAny_typeOf hTs ?_)
  rw [if_pos (by decide)]
  refine wpAny_bind (applied_rev hs pl pu ps ?_)
  show wpAny _ _ (if ((((items.size : Nat) : Int) - 1 == 0) && (-1 : Int) == 1 && items.size == items.size) = true then _ else _) _ _ s
  rw [if_neg (by rw [show ((-1 : Int) == 1) = false by decide, Bool.and_false, Bool.false_and]; decide), pick_rev]
  first
    | exact wpAny_bind (m := Builtin.Tuple.tupleExact _) (wpAny_newObj_type (wpAny_pure ⟨_, rfl, wpAny_pure h⟩) htake)
    | exact wpAny_bind (m := Builtin.Tuple.tupleExact _) (wpAny_newObj_type (wpAny_bind (wpAny_pure (wpAny_pure ⟨_, rfl, wpAny_pure h⟩))) htake)
end
end HT
namespace MT
open PySem PySem.Spec PyProof.Rows L2
section
variable {X : Cx} {B : Bd} {e : Expr} {m : List Slot → W PyData} {k : Nat} {p1 p2 p3 pos : Pos}
def tRevF (K : PySem.W.Frag) (te : TE) : TE := fun σ H Q => te σ H fun x H1 => (∃ a xs, x = .ref a ∧ SqL K H1 a xs ∧ ∀ p, H1 p = none → Q (.ref p) (upd H1 p (.lst xs.reverse))) ∨ (∃ a xs, x = .ref a ∧ SqT K H1 a xs ∧ NewT xs.reverse Q H1)
theorem pe_revF {te : TE} (he : PE X e te) : PE X (.Subscript e (.Slice none none (some (.UnaryOp .USub (.Constant (.int 1) k p1) p2)) p3) pos) (tRevF X.K te) := by
  refine ⟨fun pins s σ H Q I h => ?_⟩
  refine Subscript_ (thn (he.run pins s σ H _ I h) fun v s1 ⟨x, H1, I1, r1, q1⟩ => ?_)
  have hst : PO X (some (.UnaryOp .USub (.Constant (.int 1) k p1) p2)) (tPart (tUn (rU fun i => .int (-i)) (tC (.int 1)))) := po_some (pe_un un_neg pe_int)
  refine wpAny_Slice (thn (po_none.run pins s1 σ H1 (fun o H2 => o = none ∧ H2 = H1) I1 ⟨rfl, rfl⟩) fun vl s2 ⟨l, H2, I2, pl, el, e2⟩ => ?_)
  subst el e2
  refine thn (po_none.run pins s2 σ H2 (fun o H3 => o = none ∧ H3 = H2) I2 ⟨rfl, rfl⟩) fun vu s3 ⟨u, H3, I3, pu, eu, e3⟩ => ?_
  subst eu e3
  refine thn (hst.run pins s3 σ H3 (fun o H4 => o = some (-1) ∧ H4 = H3) I3 ⟨1, rfl, -1, rfl, rfl, rfl⟩) fun vs s4 ⟨o, H4, I4, ps, eo, e4⟩ => ?_
  subst eo e4
  have I5 : Inv X pins σ H4 { s4 with heap := s4.heap.push { cls := .type "slice", data := .fields #[vl, vu, vs] } } := I4.kept (t' := s4.toks) fun b ob q => Heap.get?_push_of_some _ q
  rcases q1 with ⟨a, xs, ex, hx, q⟩ | ⟨a, xs, ex, hx, q⟩
  · subst ex
    cases r1
    obtain ⟨its, r, ht, hz⟩ := I5.list hx
    have hlen := r.length
    show wpAny (model X.prog X.w) X.A (subscriptTail e (.Slice none none (some (.UnaryOp .USub (.Constant (.int 1) k p1) p2)) p3) (.ref a) (.ref s4.heap.objs.size)) (EP X pins σ Q) X.xe { s4 with heap := s4.heap.push { cls := .type "slice", data := .fields #[vl, vu, vs] } }
    refine tail_any (ops := [.ref a, .ref s4.heap.objs.size]) ht.isList.typeIs (PySem.slot_list_getitem.lookup) ?_ (by with_unfolding_all rfl)
    refine wpAny_getItem_list_slice ht.isList (Heap.IsSliceOf.new _ vl vu vs) pl pu ps (by decide) ?_ (by rw [List.size_toArray]; omega)
    rw [PySem.W.krv_pick]
    refine ⟨.ref _, _, I5.laid (t' := s4.toks) (o := .lst xs.reverse) (fun b ob q => Heap.get?_push_of_some _ q) (Nat.le_refl _) ?_, rfl, q _ (I5.hok.fresh (Nat.le_refl _))⟩
    exact ⟨by rw [List.length_reverse]; exact hz, _, 0, r.reverse, Heap.get?_push_size _ rfl⟩
  · subst ex
    cases r1
    obtain ⟨its, r, ht, hz⟩ := I5.tuple hx
    have hlen := r.length
    show wpAny (model X.prog X.w) X.A (subscriptTail e (.Slice none none (some (.UnaryOp .USub (.Constant (.int 1) k p1) p2)) p3) (.ref a) (.ref s4.heap.objs.size)) (EP X pins σ Q) X.xe { s4 with heap := s4.heap.push { cls := .type "slice", data := .fields #[vl, vu, vs] } }
    refine tail_any (ops := [.ref a, .ref s4.heap.objs.size]) ht.typeIs (PyProof.Rows.slot_tuple_getitem.lookup) ?_ (by with_unfolding_all rfl)
    refine HT.getItem_tuple_rev ht (Heap.IsSliceOf.new _ vl vu vs) pl pu ps ?_ (by rw [List.size_toArray]; omega)
    exact layT I5 r.reverse (by rw [List.length_reverse]; exact hz) q s4.toks
def oRev : O1
  | .list ds => fun P _ => P (.list ds.reverse)
  | .tuple ds => fun P _ => P (.tuple ds.reverse)
  | _ => fun _ _ => False
theorem denL_app {K : PySem.W.Frag} {M : Mk} {H : Hp} : ∀ {ds es : List PyData} {vs us : List V}, DenL K M H ds vs → DenL K M H es us → DenL K M H (ds ++ es) (vs ++ us)
  | [], es, vs, us, h, g => by
    have : vs = [] := by simpa only [DenL] using h
    subst this
    exact g
  | d :: ds, es, vs, us, h, g => by
    simp only [DenL] at h
    obtain ⟨v, vr, rfl, h1, h2⟩ := h
    simp only [List.cons_append, DenL]
    exact ⟨v, vr ++ us, rfl, h1, denL_app h2 g⟩
theorem denL_rev {K : PySem.W.Frag} {M : Mk} {H : Hp} : ∀ {ds : List PyData} {vs : List V}, DenL K M H ds vs → DenL K M H ds.reverse vs.reverse
  | [], vs, h => by
    have : vs = [] := by simpa only [DenL] using h
    subst this
    simp only [List.reverse_nil, DenL]
  | d :: ds, vs, h => by
    simp only [DenL] at h
    obtain ⟨v, vr, rfl, h1, h2⟩ := h
    rw [List.reverse_cons, List.reverse_cons]
    refine denL_app (denL_rev h2) ?_
    simp only [DenL]
    exact ⟨v, [], rfl, h1, rfl⟩
theorem pd_rev (ha : PD X B .o e m) : PD X B .s (.Subscript e (.Slice none none (some (.UnaryOp .USub (.Constant (.int 1) k p1) p2)) p3) pos) (dUn oRev m) :=
  pe_imp (pe_revF ha) fun σ H Q ⟨C, env, M, P, r, bo, hm, kk⟩ => ⟨C, env, M, _, r, bo, hm, fun v H1 d k1 r1 de p1 => by
    have kx : ∀ w H' x, Kept C.X0 H1 H' → R X.K C M σ H' env → DenF X.K C M H' .s x w → P x → Q w H' := fun w H' x k4 r4 de4 p4 => kk w H' x (k1.trans k4) r4 de4 p4
    unfold oRev at p1
    split at p1
    · obtain ⟨a, xs, rfl, g1, g2, g3⟩ := den_lst de
      exact .inl ⟨a, xs, rfl, .of g1, mk_lst r1 (denL_rev g3) (by rw [List.length_reverse]; exact g2) p1 kx⟩
    · obtain ⟨a, xs, rfl, g1, g2, g3⟩ := den_tup de
      exact .inr ⟨a, xs, rfl, g1, mk_tup r1 (denL_rev g3) (by rw [List.length_reverse]; exact g2) p1 kx⟩
    · exact p1.elim⟩
end
end MT
end

section
set_option maxRecDepth 100000
set_option maxHeartbeats 4000000
namespace MT
open PySem PySem.Spec PyProof.Rows L2
section
variable {X : Cx} {B : Bd} {st : Stmt} {e : Expr} {m : List Slot → W PyData} {pos : Pos}
theorem DenL.era {K : PySem.W.Frag} {M : Mk} {H : Hp} : ∀ {ds : List PyData} {vs : List V} (n : Nat), DenL K M H ds vs → DenL K M H (ds.eraseIdx n) (vs.eraseIdx n)
  | [], vs, n, h => by
    simp only [DenL] at h; subst h; simp [DenL]
  | d :: ds, vs, 0, h => by
    simp only [DenL] at h
    obtain ⟨v, q, rfl, h1, h2⟩ := h
    exact h2
  | d :: ds, vs, n + 1, h => by
    simp only [DenL] at h
    obtain ⟨v, q, rfl, h1, h2⟩ := h
    simp only [List.eraseIdx_cons_succ, DenL]
    exact ⟨v, _, rfl, h1, DenL.era n h2⟩
/-- x.append(y.pop(e)) -/
def dAppPop (i j : Nat) (m : List Slot → W PyData) : WS := fun E env => ∃ fs, env[i]? = some (.l fs) ∧ i ≠ j ∧ ∃ xs, env[j]? = some (.l xs) ∧ m env (fun d => ∃ n k y, d = .int n ∧ ixN xs.length n = some k ∧ xs[k]? = some y ∧ fs.length < sizeLine ∧ E.nx ((env.set j (.l (xs.eraseIdx k))).set i (.l (fs ++ [y])))) E.er
theorem sd_appPop {i j : Nat} (p : PE X e (tBM X.K "list" rAppend (tVar i) (tCons (tBM X.K "list" rPopAt (tVar j) (tCons (tOf X.K B .o m) tNil)) tNil))) (hs : swapsWith e none pos.line X.env = pure false := by rfl) : SD X B (.Expr e pos) (dAppPop i j m) :=
  ps_imp (ps_expr p hs) fun D σ H ⟨C, env, M, nx, rt, bk, ct, r, bo, ⟨fs, hl, hne, xs, hl2, hf⟩, k1, k2, k3, k4⟩ => by
    obtain ⟨a, vs, e1, e2, hMa, ha0, za, dla⟩ := r.atL hl
    obtain ⟨b, us, f1, f2, hMb, hb0, zb, dlb⟩ := r.atL hl2
    refine ⟨V.ref a, e1, .inl ⟨rfl, vs, SqL.of e2⟩, V.ref b, f1, .inl ⟨rfl, us, SqL.of f2⟩, C, env, M, _, r, bo, hf, fun v H' d kk r' de ⟨n, k, y, ed, hk, hy, hz, g3⟩ => ?_⟩
    subst ed
    obtain ⟨b', us', f1', f2', hMb, hb0, zb, dlb⟩ := r'.atL hl2
    rw [f1] at f1'
    cases f1'
    obtain ⟨w, hw, dw⟩ := dlb.get' hy
    obtain ⟨s1, s2, s3, s4⟩ := ixN_seq hk
    have hlen := dlb.length
    have zb' : (xs.length : Nat) ≤ 2 ^ 62 := by rw [← hlen]; refine Nat.le_trans zb ?_; rw [sizeLine_eq]; decide
    refine ⟨b, us', n, k, w, rfl, ?_, f2', by omega, by omega, by rw [hlen]; exact s1, hw, ?_⟩
    · rw [den_int de]
    have z2 : (us'.eraseIdx k).length ≤ sizeLine := Nat.le_trans (List.length_eraseIdx_le us' k) zb
    have r2 := r'.mutS hl2 f1 f2' hMb hb0 z2 (DenL.era k dlb)
    have hl3 : (env.set j (.l (xs.eraseIdx k)))[i]? = some (.l fs) := by rw [List.getElem?_set_ne (Ne.symm hne)]; exact hl
    obtain ⟨a', vs', e1', e2', hMa, ha0, za, dla⟩ := r2.atL hl3
    rw [e1] at e1'
    cases e1'
    have dw2 : Den X.K M (upd H' b (.lst (us'.eraseIdx k))) y w := dw.kept (Kept.mut hMb) r'.ok.w
    have hz2 : vs'.length < sizeLine := by rw [dla.length]; exact hz
    refine ⟨a, vs', w, rfl, rfl, e2', hz2, ?_⟩
    exact k1 M σ _ _ (r2.mutS hl3 e1 e2' hMa ha0 (by rw [List.length_append]; exact hz2) (dla.app (.one dw2))) g3
end
end MT
end

section
set_option maxRecDepth 100000
set_option maxHeartbeats 4000000
namespace MT
open PySem PySem.Spec PyProof.Rows L2
section
variable {X : Cx} {B : Bd} {st : Stmt} {m : List Slot → W PyData} {i : Nat}
/-- draw["rest"] = draw["large"].pop(0) if draw["large"] != [] else f(draw) -/
def dDrFill (i : Nat) (m : List Slot → W PyData) : WS := fun E env => env[i]? = some .dr ∧ E.nx env ∧ m env (fun d => (∃ n, d = .int n) ∧ E.nx env) E.er
theorem sd_drFill (p : PS X st (sDPut (tVar i) (tC (.str "rest")) (tIf (tTest (tOp (rNeD X.K) (tDGet (tVar i) (tC (.str "large"))) (tLst tNil))) (tBM X.K "list" rPopAt (tDGet (tVar i) (tC (.str "large"))) (tCons (tC (.int 0)) tNil)) (tOf X.K B .s m)))) : SD X B st (dDrFill i m) := ps_imp p fun D σ H ⟨C, env, M, nx, rt, bk, ct, r, bo, ⟨hd, hx, hm⟩, k1, k2, k3, k4⟩ => by
  obtain ⟨d, l, c, hdr, e1, D0⟩ := r.dr hd
  obtain ⟨ns, hl⟩ := D0.lg
  obtain ⟨x, t, ed⟩ := D0.dk
  have gL : ∀ {H2 : Hp}, H2 d = some (.dK (drKvs l c x t)) → DGet H2 d (V.str "large") (some (V.ref l)) := fun {H2} e => dget_of e dr_large
  refine ⟨V.ref d, e1, d, V.ref l, rfl, gL ed, by show 0 ≤ sizeLine; decide, fun q nq => ?_⟩
  have r2 := r.new (o := .lst []) nq
  have hl2 : upd H q (.lst []) l = some (.lst (ns.map V.int)) := grow_new nq _ _ hl
  refine ⟨.list (ns.map .int), .list [], .lst (.of hl2) (DenL.dp (M := fun _ => False) _ _ (denL_map (fun _ => by simp [Den]) ns)), .lst (.of upd_same) .nil, sh_ints ns, by decide +kernel, _, rfl, ?_⟩
  cases ns with
  | nil =>
    have e : (!PyData.eqv (.list ([].map PyData.int)) (.list [])) = false := by decide +kernel
    rw [e]
    show if false = true then _ else _
    rw [if_neg Bool.false_ne_true]
    refine ⟨C, env, M, _, r2, bo, hm, fun v H1 dd kk r1 de ⟨⟨n, en⟩, hx⟩ => ?_⟩
    subst en
    have ev : v = .int n := by
      have de : Den X.K M H1 (.int n) v := de
      simpa only [Den] using de
    subst ev
    obtain ⟨d', l', c', hdr', e1', D'⟩ := r1.dr hd
    obtain ⟨x', t', ed'⟩ := D'.dk
    exact ⟨V.ref d', e1', d', _, rfl, dput_of ed' four dr_putR, k1 M σ _ env (r1.drPut hdr' n t') hx⟩
  | cons a ns =>
    have e : (!PyData.eqv (.list ((a :: ns).map PyData.int)) (.list [])) = true := by simp [PyData.eqv, PyData.eqvAll]
    rw [e]
    show if true = true then _ else _
    rw [if_pos rfl]
    have ed2 : upd H q (.lst []) d = some (.dK (drKvs l c x t)) := grow_new nq _ _ ed
    refine ⟨V.ref d, e1, d, V.ref l, rfl, gL ed2, .inl ⟨rfl, _, .of hl2⟩, l, _, 0, 0, V.int a, rfl, rfl, hl2, by decide, by decide, ?_, rfl, ?_⟩
    · simp [seqIndex?]
    · have r3 := r2.drLarge hdr ns
      have e2 : ((a :: ns).map V.int).eraseIdx 0 = ns.map V.int := rfl
      rw [e2]
      obtain ⟨x3, t3, ed3⟩ := (r3.drw d l c hdr).1.dk
      exact ⟨V.ref d, e1, d, _, rfl, dput_of ed3 four dr_putR, k1 M σ _ env (r3.drPut hdr a t3) hx⟩
end
end MT
end

section
set_option maxRecDepth 100000
set_option maxHeartbeats 4000000
namespace MT
open PySem PySem.Spec PyProof.Rows L2 LamX
/-! a lambda handed to a def that hands it to the def that calls it -/
theorem un_two {fs : List Addr} {y : Addr} {H H1 H2 : Hp} {h h1 h2 : Heap} (a : Un fs [] H H1 h h1) (b : Un (y :: fs) [] H1 H2 h1 h2) (hy : h.objs.size ≤ y) : Un fs [] H H2 h h2 where
  keep := fun c ob q n hc hx => b.keep c ob (a.keep c ob q n hc hx) (a.free c ob q n hx) (fun z => by
    rcases List.mem_cons.mp z with z | z
    · have := Heap.lt_size q
      rw [z] at this
      exact absurd this (Nat.not_lt.mpr hy)
    · exact hc z) hx
  slot := fun c ob q n hc hx => by
    obtain ⟨sl, e1⟩ := a.slot c ob q n hc hx
    obtain ⟨sl', e2⟩ := b.slot c _ e1 (a.free c ob q n hx) (List.mem_cons_of_mem _ hc) hx
    exact ⟨sl', e2⟩
  free := fun c ob q n hx => by
    obtain ⟨o', e1⟩ := a.there c ob q hx
    exact b.free c o' e1 (a.free c ob q n hx) hx
  there := fun c ob q hx => by
    obtain ⟨o', e1⟩ := a.there c ob q hx
    exact b.there c o' e1 hx
  tups := fun c xs q => b.tups c xs (a.tups c xs q)
  frzs := fun c ob xs q => b.frzs c ob xs (a.frzs c ob xs q)
  tbls := fun c ps q => by
    obtain ⟨m1, e1⟩ := a.tbls c ps q
    obtain ⟨m2, e2⟩ := b.tbls c _ e1
    exact ⟨m1 ++ m2, by rw [e2, Array.append_assoc]⟩
section
variable {X : Cx} {pins : List (Addr × Obj)} {σ : L2.St} {H : Hp} {s : Shared}
/-- work(), inside a def at g that was entered at sZ, from wherever -/
theorem pe_workG {CXg : CXT} {Eg : XK} {Ng : List Str} {qg : Str} {sg : Scope} {g f cc : Addr} {cdg pm ct : Value} {params : Arguments} {body : Expr} {scope : Scope} {k i : Nat} {a : Str} {pn : List (Addr × Obj)} {xe : Value → Shared → Prop} {W : WX} {E : XK} {tb : TE} {p1 p2 : Pos} {A' : Around} {outer' : List Env} {sZ : Shared} {HZ0 : Hp}
    (I : L2.Inv X pins σ H s) (L : LamS X.env.scope scope) (hgd : A'.guards = some []) (hf : sZ.heap.get? f = some (lamO X params body scope pm cc ct)) (hfn : HZ0 f = none) (hfr : f ∉ frs outer')
    (un0 : ∀ {HZ : Hp} {h' : Heap}, Un (frs outer') [] HZ0 HZ sZ.heap h' → Un (frs X.stack) [] H HZ s.heap h')
    (hbind : bindArgs (PySem.W.kla_fn "<lambda>" (LName X) params body scope (cloFrom X.env.cells scope.names []) pm (.ref cc) ct) ⟨[], []⟩ = pure [])
    (tk : Takes ((cxOf CXg X.prog X.w X.K X.mg X.base Ng qg sg g cdg A' outer' sZ HZ0 Eg).tr pn xe) W) (hW : ∀ cls d σ' H', E cls d H' → W cls d σ' H') (hr : Room (k + 1) (A'.deeper (envOfC qg sg sZ.heap.objs.size g cdg)))
    (hbody : ∀ (A : Around) (outer : List Env) (s : Shared) (H : Hp), A.guards = some [] → Room k (A.deeper (lamEnv X scope s.heap.objs.size f cc)) → PE (lamCx X A outer s H E scope f cc) body tb)
    (hN : Ng[i]? = some a) (hv : Vis sg a) (hd : (a == ("__debug__" : Str)) = false) (hcd : (a == ("__classdict__" : Str)) = false) :
    PE ((cxOf CXg X.prog X.w X.K X.mg X.base Ng qg sg g cdg A' outer' sZ HZ0 Eg).tr pn xe) (.Call (.Name a p1) [] [] p2)
      (fun τ HZ Q => τ[i]? = some (some (V.ref f)) ∧ HZ cc = some (CodeO cc (LName X)) ∧ tb σ HZ Q) := by
  constructor
  rintro pinsZ s' τ HZ Q IZ ⟨at_i, isC, want⟩
  have nameRead := (pe_var (pos := p1) (i := i) hN hv hd hcd).run pinsZ s' τ HZ (fun v G => v = .ref f ∧ G = HZ) IZ ⟨.ref f, at_i, rfl, rfl⟩
  refine wpAny_Call_Name_kw (thn nameRead ?_)
  rintro u t ⟨v, G, J, rel, rfl, rfl⟩
  obtain rfl : u = Value.ref f := rel
  have still : t.heap.get? f = some (lamO X params body scope pm cc ct) := J.base.keep f _ hf hfn hfr fun z => nomatch (show f ∈ ([] : List Addr) from z)
  refine PySem.W.callWith_F0 ⟨_, _, _, _, still⟩ ?_
  obtain ⟨⟨co, cf, ctk, c1, c2, c3⟩, _, _⟩ := J.hok cc _ isC
  have passes : Passes (L2.CX X.prog X.w) ((cxOf CXg X.prog X.w X.K X.mg X.base Ng qg sg g cdg A' outer' sZ HZ0 Eg).tr pn xe) E := passes_call tk hW
  have run : codeAny (model X.prog X.w) (A'.deeper (envOfC qg sg sZ.heap.objs.size g cdg)) (.call (.ref f) ⟨[], []⟩) (CR (L2.CX X.prog X.w) (envOfC qg sg sZ.heap.objs.size g cdg :: outer') X.prog X.w G t Q E) t := by
    refine PySem.W.kla_callFunE hr.depth still rfl L.co L.gen rfl ⟨cc, co, cf, ctk, rfl, c1, c2, c3⟩ ?_
    rw [hbind]
    refine wpAny_pure (wpAny_newFunctionEnv (fun y hy => (L.own y hy).2) (fun y hy => absurd hy (by simp)) (fun hp hns hsb => ⟨J.nolimit.fresh _ hsb, ?_⟩) L.kind)
    have kept : ∀ b o, t.heap.get? b = some o → hp.get? b = some o := fun b o e => hsb.extBut b o (Nat.ne_of_lt (Heap.lt_size e)) (Heap.get?_push_of_some _ e)
    have start : L2.Inv (lamCx X (A'.deeper (envOfC qg sg sZ.heap.objs.size g cdg)) (envOfC qg sg sZ.heap.objs.size g cdg :: outer') t G E scope f cc) [] σ G { t with heap := hp, toks := t.toks + ([] : List (Str × Value)).length } :=
      lam_start2 I L J.env0 hr.hd (un0 J.base) hns kept
    refine PySem.W.kla_codeExpr (wpAny_mono ((hbody (A'.deeper (envOfC qg sg sZ.heap.objs.size g cdg)) _ t G hgd (hr.deeper _)).run [] _ _ G Q start want) (fun v t2 hv2 => ?_) fun e t2 z => z)
    obtain ⟨v', G', J', rel', q'⟩ := hv2
    exact ⟨v', G', J'.os, J'.bare, J'.base, J'.hok, rel', q'⟩
  refine wpAny_call (codeAny_mono run fun r t2 z => ?_)
  match r, z with
  | .error e, z => exact passes pinsZ τ G t e t2 J z
  | .ok (.ret u), z => exact J.after z
/-- the def that keeps the error, called from a def (entered at s) with its own work -/
theorem pe_caughtN {CXy : CXT} {Ey : XK} {Ny : List Str} {qy : Str} {sy : Scope} {gy : Addr} {cdy : Value} {f cc : Addr} {pm ct : Value} {iw : Nat} {wn : Str} {x a m n e : Str} {g CS : Addr} {k : Nat} {pg : Arguments} {sg : Scope} {fd : FuncData} {params : Arguments} {body : Expr} {scope : Scope} {t : XK → TE} {p pw pos p0 p1 p2 p3 p4 p5 p6 p7 p8 p9 p10 p11 p12 p13 p14 : Pos} {j0 : Nat}
    (I : L2.Inv X pins σ H s) (hf : s.heap.get? f = some (lamO X params body scope pm cc ct)) (hfn : H f = none) (hfr : f ∉ frs X.stack)
    (F : FunD X.K x x pg (caughtBody a m n e p0 p1 p2 p3 p4 p5 p6 p7 p8 p9 p10 p11 p12 p13 p14 j0) sg [] [] g fd) (hg : Gl (cxOf CXy X.prog X.w X.K X.mg X.base Ny qy sy gy cdy X.A X.stack s H Ey) x) (hm : X.mg x = some (.ref g)) (hb : L2.Binds X.K fd [a] []) (S : FnScope [a, m, n] [a] sg)
    (la : sg.names.lookup a = some .local) (lm : sg.names.lookup m = some .local) (ln : sg.names.lookup n = some .local) (le : sg.names.lookup e = some .globalImplicit) (hme : X.mg e = some (.ref CS))
    (hr : Room (k + 2) (X.A.deeper (envOfC qy sy s.heap.objs.size gy cdy))) (hgd : X.A.guards = some []) (L : LamS X.env.scope scope)
    (hbind : ∀ (q : Str) (cl : List (Str × Addr)) (pm cv ctv : Value), bindArgs (PySem.W.kla_fn "<lambda>" q params body scope cl pm cv ctv) ⟨[], []⟩ = pure [])
    (hbody : ∀ (A : Around) (outer : List Env) (s : Shared) (H : Hp) (E : XK) (f cc : Addr), A.guards = some [] → Room k (A.deeper (lamEnv X scope s.heap.objs.size f cc)) → PE (lamCx X A outer s H E scope f cc) body (t E))
    (hNw : Ny[iw]? = some wn) (hvw : Vis sy wn) (w1 : (wn == ("__debug__" : Str)) = false) (w2 : (wn == ("__classdict__" : Str)) = false)
    (d1 : (a == ("__debug__" : Str)) = false) (d2 : (a == ("__classdict__" : Str)) = false) (d3 : (n == ("__debug__" : Str)) = false) (d4 : (n == ("__classdict__" : Str)) = false) (d5 : (m == ("__debug__" : Str)) = false) (d6 : (m == ("__classdict__" : Str)) = false) (d7 : (e == ("__debug__" : Str)) = false) (hdb : (x == ("__debug__" : Str)) = false) :
    PE (cxOf CXy X.prog X.w X.K X.mg X.base Ny qy sy gy cdy X.A X.stack s H Ey) (.Call (.Name x p) [.Name wn pw] [] pos)
      (fun τ HZ Q => τ[iw]? = some (some (V.ref f)) ∧ HZ cc = some (CodeO cc (LName X)) ∧ t (fun cls d H' => PySem.W.exmOne X.K cls (.ref CS) = some true ∧ ∀ a, H' a = none → Q (.ref a) (upd H' a (ExT cls d a))) σ HZ (fun _ H' => Q .non H')) := by
  constructor
  rintro pinsY sY τ HZ Q IY ⟨at_w, isC, want⟩
  obtain ⟨oc, od, dV, kV, doc, pm0, an, cdv, ct0, osl, rfl, lk, hcg, _, _⟩ := F.ex
  refine wpAny_Call_Name_kw (ld_glob IY hg hm ?_ hdb)
  refine PySem.W.callWith_K (h₀ := X.base) IY.ok.mod.kin F.kp ?_ (by rfl) (by rfl)
  show wpAny _ _ (spliced ((false, eval (.Name wn pw) _) :: backTo pos (starEach [] _))) _ _ sY
  refine Calls.spliced_cons ?_
  have nameRead := (pe_var (X := cxOf CXy X.prog X.w X.K X.mg X.base Ny qy sy gy cdy X.A X.stack s H Ey) (pos := pw) (i := iw) hNw hvw w1 w2).run pinsY sY τ HZ (fun v G => v = .ref f ∧ G = HZ) IY ⟨.ref f, at_w, rfl, rfl⟩
  refine thn nameRead ?_
  rintro u s1 ⟨v, G, I1, rel, rfl, rfl⟩
  obtain rfl : u = Value.ref f := rel
  refine Calls.spliced_nil ⟨I1.kIn, ?_⟩
  have base1 : Un (frs X.stack) [] H G s.heap s1.heap := I1.base
  have hf1 : s1.heap.get? f = some (lamO X params body scope pm cc ct) := base1.keep f _ hf hfn hfr (by simp)
  have hfn1 : G f = none := base1.free f _ hf hfn (by simp)
  have hlt := Heap.lt_size hf
  have hfr1 : f ∉ frs (envOfC qy sy s.heap.objs.size gy cdy :: X.stack) := fun z => by
    rcases List.mem_cons.mp (show f ∈ s.heap.objs.size :: frs X.stack from z) with z | z
    · rw [z] at hlt; exact absurd hlt (Nat.lt_irrefl _)
    · exact hfr z
  have un0 : ∀ {HZ' : Hp} {h' : Heap}, Un (frs (envOfC qy sy s.heap.objs.size gy cdy :: X.stack)) [] G HZ' s1.heap h' → Un (frs X.stack) [] H HZ' s.heap h' := fun {HZ' h'} u => un_two (y := s.heap.objs.size) base1 u (Nat.le_refl _)
  have inside : codeAny (model X.prog X.w) (X.A.deeper (envOfC qy sy s.heap.objs.size gy cdy)) (.call (.ref g) ⟨[.ref f], []⟩) (CR C8.CX0 (envOfC qy sy s.heap.objs.size gy cdy :: X.stack) X.prog X.w G s1 Q C8.E0) s1 := by
    refine run_ofS (N := [a, m, n]) (ps := [a]) (us := [.ref f]) (vs := [.ref f]) lk hcg S hr I1.env0 (hb s1 [.ref f] I1.kIn rfl) (.cons rfl .nil) rfl fun hr1 => ?_
    let Ech : XK := fun cls d H' => PySem.W.exmOne X.K cls (.ref CS) = some true ∧ ∀ a, H' a = none → Q (.ref a) (upd H' a (ExT cls d a))
    refine ⟨_, pss_cons (ps_set (i := 1) S.nd rfl (.inl lm) pe_non (by rfl) (.inr lm)) (pss_cons (ps_keep (i := 2) (j := 1) (c := .ref CS)
        (tb := fun W D τ HZ => ∃ E : XK, (∀ cls d σ' H', E cls d H' → W cls d σ' H') ∧ τ[0]? = some (some (V.ref f)) ∧ HZ cc = some (CodeO cc (LName X)) ∧ t E σ HZ fun _ H' => D.nx τ H')
        rfl rfl rfl S.nd rfl rfl (by decide) ln lm ⟨le, d7, .inl hme⟩ d3 d4 (fun W pn xe tk ps => ?_)) (pss_one (ps_ret (pe_var (i := 1) rfl (.inl lm) d5 d6)))), ?_⟩
    · constructor
      rintro pinsZ sZ τ HZ D IZ ⟨E, hW, q1, q2, q3⟩
      exact (pss_one (ps_expr (pe_workG (A' := X.A.deeper (envOfC qy sy s.heap.objs.size gy cdy)) (i := 0) I L hgd hf1 hfn1 hfr1 un0 (hbind _ _ _ _ _) tk hW hr1 (fun A outer s H g1 g2 => hbody A outer s H E f cc g1 g2) rfl (.inl la) d1 d2))).run pinsZ sZ τ HZ D IZ ⟨q1, q2, q3⟩
    · refine ⟨Ech, fun cls d σ' H' z => ⟨z.1, fun b σ2 hb2 at1 => ⟨V.ref b, at1, z.2 b hb2⟩⟩, rfl, isC, ?_⟩
      show t Ech σ G _
      have e : (fun (_ : V) (H' : Hp) => Q .non H') = fun _ H' => tRet (tVar 1) { nx := fun _ H' => Q .non H', rt := Q } ((L2.start [a, m, n] [V.ref f]).set 1 (some .non)) H' := by
        funext v H'
        refine propext ⟨fun z => ⟨.non, rfl, z⟩, fun ⟨v, e1, e2⟩ => ?_⟩
        cases e1
        exact e2
      rw [e] at want
      exact want
  refine wpAny_call (codeAny_mono inside fun r t2 z => ?_)
  match r, z with
  | .error e, z => exact (show False from z).elim
  | .ok (.ret u), z => exact I1.after z
end
end MT
end

section
set_option maxRecDepth 100000
set_option maxHeartbeats 4000000
namespace MT
open PySem PySem.Spec PyProof.Rows L2 LamX
/-! a lambda handed to a def that hands it to the def that calls it: what is told of data -/
/-- the boundary of the body that the lambda was handed to -/
def thBd (K : PySem.W.Frag) (C0 : Ctx) (er : Exn → Prop) (E : XK) : Bd where
  er := er
  ok := fun C => C.H0 = C0.H0 ∧ C.M0 = C0.M0 ∧ C.dr = C0.dr ∧ C.tb = C0.tb ∧ ErOk K er E C
  st := fun _ _ h => h
theorem Cf.mono {X : Cx} {B : Bd} {N : List Str} {sc : Scope} {l lv : Nat} (c : Cf X B N sc lv) (h : l ≤ lv) : Cf X B N sc l := ⟨c.n, c.scope, c.nd, c.calm, c.room.mono h, c.gd, c.ps, c.pass⟩
/-- the value of an assignment -/
def asgE : Stmt → Expr
  | .Assign _ v _ => v
  | _ => .Constant .none 0 ⟨0, 0, 0, 0⟩
/-- a def that is called with a lambda -/
structure ThF (K : PySem.W.Frag) (mg : Str → Option Value) (x : Str) (pr : Arguments) (body : List Stmt) (sc : Scope) : Prop where
  ex : ∃ fd, FunD K x x pr body sc [] [] (He.ga K x) fd
  hm : mg x = some (.ref (He.ga K x))
section
variable {X : Cx} {pins : List (Addr × Obj)} {σ : L2.St} {H : Hp} {s : Shared}
theorem px_thunk {T : List (Addr × Str)} {L : List Str} {x a m n : Str} {g f cc : Addr} {k lv : Nat} {N : List Str} {sc : Scope} {B : Bd} {pg : Arguments} {sg : Scope} {fd : FuncData} {params : Arguments} {body : Expr} {scope : Scope} {md : List Slot → W PyData} {pm ct : Value} {iw : Nat} {wn : Str}
    {p pw pos p0 p1 p2 p3 p4 p5 p6 p7 p8 p9 p10 p11 p12 p13 p14 : Pos} {j0 : Nat} {qy : Str} {sy : Scope} {gy : Addr} {cdy : Value} {Ny : List Str} {Ey : XK} {erY : Exn → Prop} {C : Ctx} {M : Mk} {env : List Slot}
    (cf : Cf X B N sc lv) (I : L2.Inv X pins σ H s) (hf : s.heap.get? f = some (lamO X params body scope pm cc ct)) (hfn : H f = none) (hfr : f ∉ frs X.stack) (isC : H cc = some (CodeO cc (LName X))) (r1 : R X.K C M σ H env) (hT : C.tb = T)
    (ef : ErrF L X.K) (F : FunD X.K x x pg (caughtBody a m n "MeetError" p0 p1 p2 p3 p4 p5 p6 p7 p8 p9 p10 p11 p12 p13 p14 j0) sg [] [] g fd) (hg : Gl (cxOf (L2.CX X.prog X.w) X.prog X.w X.K X.mg X.base Ny qy sy gy cdy X.A X.stack s H Ey) x) (hm : X.mg x = some (.ref g)) (hb : L2.Binds X.K fd [a] []) (S : FnScope [a, m, n] [a] sg)
    (la : sg.names.lookup a = some .local) (lm : sg.names.lookup m = some .local) (ln : sg.names.lookup n = some .local) (le : sg.names.lookup ("MeetError" : Str) = some .globalImplicit) (hme : X.mg "MeetError" = some (.ref (He.ga X.K "MeetError"))) (Ls : lamSB sc scope = true)
    (hr : Room (k + 2) (X.A.deeper (envOfC qy sy s.heap.objs.size gy cdy)))
    (hbind : ∀ (q : Str) (cl : List (Str × Addr)) (pm cv ctv : Value), bindArgs (PySem.W.kla_fn "<lambda>" q params body scope cl pm cv ctv) ⟨[], []⟩ = pure [])
    (der : ∀ (A : Around) (outer : List Env) (s : Shared) (H : Hp) (E : XK) (er : Exn → Prop) (f cc : Addr), Cf (lamCx X A outer s H E scope f cc) (bdOf X.K (· = T) er E) N scope k → PD (lamCx X A outer s H E scope f cc) (bdOf X.K (· = T) er E) .s body md)
    (hNw : Ny[iw]? = some wn) (hvw : Vis sy wn) (w1 : (wn == ("__debug__" : Str)) = false) (w2 : (wn == ("__classdict__" : Str)) = false)
    (dd : [a, n, m, x].all (fun y => !(y == ("__debug__" : Str)) && !(y == ("__classdict__" : Str))) = true) :
    PX (cxOf (L2.CX X.prog X.w) X.prog X.w X.K X.mg X.base Ny qy sy gy cdy X.A X.stack s H Ey) (thBd X.K ⟨H, M, C.dr, [], C.tb⟩ erY Ey) (.Call (.Name x p) [.Name wn pw] [] pos) (fun env' P E => env'[iw]? = some (.fn f) ∧ dCaught L md env P E) := by
  simp only [List.all_cons, List.all_nil, Bool.and_eq_true, Bool.not_eq_true', Bool.and_true] at dd
  obtain ⟨⟨d1, d2⟩, ⟨d3, d4⟩, ⟨d5, d6⟩, ⟨d7, _⟩⟩ := dd
  have Lm : LamS X.env.scope scope := lamS_by (by rw [cf.scope]; exact Ls)
  refine pe_imp (pe_caughtN (t := fun E σ H Q => ∃ er, tOf X.K (bdOf X.K (· = T) er E) .s md σ H Q) I hf hfn hfr F hg hm hb S la lm ln le hme hr cf.gd Lm hbind (fun A outer s H E f cc gd hr => ?_) hNw hvw w1 w2 d1 d2 d3 d4 d5 d6 (by decide +kernel) d7) ?_
  · constructor
    rintro pins s' σ H' Q I ⟨er, h⟩
    exact (der A outer s H E er f cc (cf.lam gd hr)).run pins s' σ H' Q I h
  · rintro τ HZ Q ⟨C', env', M', Pp, r', bo, ⟨hw, hm⟩, kk⟩
    obtain ⟨b1, b2, b3, b4, b5⟩ := bo
    have b1 : C'.H0 = H := b1
    have b3 : C'.dr = C.dr := b3
    have b4 : C'.tb = C.tb := b4
    have hx : C'.X0 = C.X0 := by unfold Ctx.X0; rw [b3, b4]
    have k1 : Kept C.X0 H HZ := by have := r'.ext; rw [hx, b1] at this; exact this
    have tab' : LamX.Tabs C.tb HZ := by have := r'.tab; rw [b4] at this; exact this
    obtain ⟨o, e1, e2⟩ := r'.at hw
    have e2 : o = some (V.ref f) := e2
    subst e2
    have rr : R X.K C M σ HZ env := r1.step k1 (fun d l c e => (r'.drw d l c (by rw [b3]; exact e)).1) tab'
    refine ⟨e1, k1 _ _ isC fun z => ?_, ?_⟩
    · rcases z with ⟨d, l, c, z, y⟩ | ⟨q, hq, y⟩
      · obtain ⟨_, ⟨_, _, z1⟩, ⟨_, z2⟩, _⟩ := (r1.drw d l c z).1
        rcases y with y | y
        · rw [y, z1] at isC; cases isC
        · rw [y, z2] at isC; cases isC
      · obtain ⟨ps, hps, _⟩ := r1.tab _ hq
        rw [y, hps] at isC; cases isC
    refine ⟨fun e => e.cls ∈ L ∧ atomic e ∧ Pp (some e), ⟨HZ, C.X0, C.dr, [], C.tb⟩, _, _, fun _ => Pp none, rr.lam, ⟨hT, fun e cls d H' he k2 dk ex => ?_⟩, hm, fun v H' d k2 r2 _ pn => ?_⟩
    · obtain ⟨hL, hat, hp⟩ := he
      obtain ⟨ec, ef'⟩ := ex
      subst ec
      refine ⟨(ef.c _ hL).ex, fun a na => ?_⟩
      have k2 : Kept C.X0 HZ H' := k2
      have k2' : Kept C'.X0 HZ H' := by rw [hx]; exact k2
      have r3 := r'.step k2' (fun d l c e => dk.dr d l c (by rw [← b3]; exact e)) (by rw [b4]; exact dk.tb)
      refine kk (V.ref a) _ (some e) (k2'.trans (Kept.new na)) (r3.new na) ⟨a, rfl, d, upd_same, r3.ok.free na, ?_⟩ hp
      rcases ef' with z | ⟨dd, vs, h1, h2, h3⟩
      · exact .inl z
      · exact .inr ⟨dd, vs, h1, grow_new na _ _ h2, (denL_atoms hat h3).grow r3.ok (grow_new na)⟩
    · have k2 : Kept C.X0 HZ H' := k2
      have k2' : Kept C'.X0 HZ H' := by rw [hx]; exact k2
      exact kk V.non H' none k2' (r'.step k2' (fun d l c e => (r2.drw d l c (by rw [← b3]; exact e)).1) (by rw [b4]; exact r2.tab)) rfl pn
/-- an expression that gives a written constant -/
def CstE (X : Cx) (e : Expr) (v : V) : Prop := ∀ {s : Shared} {E Q : Value → Shared → Prop}, (∀ u t, L2.RelV v u → Q u { s with toks := t }) → wpAny (model X.prog X.w) X.A (eval e X.env) Q E s
theorem cst_str {x : Str} {j : Nat} {pos : Pos} : CstE X (.Constant (.str x) j pos) (.str x) := fun h => Calls.Constant_str (h _ _ ⟨_, rfl⟩)
theorem cst_int {x : Int} {j : Nat} {pos : Pos} : CstE X (.Constant (.int x) j pos) (.int x) := fun h => wpAny_Constant_int (h _ _ ⟨_, rfl⟩)
/-- a def is called with a lambda and a constant; it hands the lambda to the def that calls it -/
def dThunk (L : List Str) (n : Nat) (fb : (List Slot → W (Option Exn)) → WS) (md : List Slot → W PyData) (dc : PyData) : List Slot → W PyData := fun env P _ =>
  ∀ f, bodyW n (fb fun env' P' E' => env'[0]? = some (.fn f) ∧ dCaught L md env P' E') [.fn f, .d dc] P (fun _ => False)
theorem pd_thunk {B : Bd} {T : List (Addr × Str)} {L : List Str} {x a m n x2 a2 b2 : Str} {g g2 cT PT : Addr} {k lv : Nat} {N : List Str} {sc : Scope} {pg : Arguments} {sg : Scope} {fd : FuncData} {params : Arguments} {body : Expr} {scope : Scope} {md : List Slot → W PyData}
    {lpos p q pw pos pos2 p0 p1 p2 p3 p4 p5 p6 p7 p8 p9 p10 p11 p12 p13 p14 : Pos} {j0 : Nat} {sy : Scope} {Ny : List Str} {pr2 : Arguments} {body2 : List Stmt} {fd2 : FuncData} {fb : (List Slot → W (Option Exn)) → WS} {cst : Const} {jc : Nat} {pc : Pos} {vc : V} {dc : PyData}
    (cf : Cf X B N sc lv) (lf : Lf X B T cT PT) (ef : ErrF L X.K) (hk : k + 3 ≤ lv)
    (F : FunD X.K x x pg (caughtBody a m n "MeetError" p0 p1 p2 p3 p4 p5 p6 p7 p8 p9 p10 p11 p12 p13 p14 j0) sg [] [] g fd) (hm : X.mg x = some (.ref g)) (hb : L2.Binds X.K fd [a] []) (S : FnScope [a, m, n] [a] sg)
    (la : sg.names.lookup a = some .local) (lm : sg.names.lookup m = some .local) (ln : sg.names.lookup n = some .local) (le : sg.names.lookup ("MeetError" : Str) = some .globalImplicit) (hme : X.mg "MeetError" = some (.ref (He.ga X.K "MeetError")))
    (dd : [a, n, m, x].all (fun y => !(y == ("__debug__" : Str)) && !(y == ("__classdict__" : Str))) = true)
    (F2 : FunD X.K x2 x2 pr2 body2 sy [] [] g2 fd2) (hg2 : Gl X x2) (hm2 : X.mg x2 = some (.ref g2)) (hb2 : L2.Binds X.K fd2 [a2, b2] []) (S2 : FnScope Ny [a2, b2] sy) (hN : Ny = a2 :: b2 :: Ny.drop 2) (hgy : glB sy x = true) (hvw : Vis sy a2) (w1 : (a2 == ("__debug__" : Str)) = false) (w2 : (a2 == ("__classdict__" : Str)) = false) (hdb2 : (x2 == ("__debug__" : Str)) = false)
    (der2 : ∀ (s : Shared) (H : Hp) (cdv : Value) (C0 : Ctx) (mt : List Slot → W (Option Exn)), Cf (cxOf (L2.CX X.prog X.w) X.prog X.w X.K X.mg X.base Ny x2 sy g2 cdv X.A X.stack s H (fun _ _ _ => False)) (thBd X.K C0 (fun _ => False) (fun _ _ _ => False)) Ny sy (k + 2) →
      PX (cxOf (L2.CX X.prog X.w) X.prog X.w X.K X.mg X.base Ny x2 sy g2 cdv X.A X.stack s H (fun _ _ _ => False)) (thBd X.K C0 (fun _ => False) (fun _ _ _ => False)) (.Call (.Name x p) [.Name a2 pw] [] pos) mt →
      SDs (cxOf (L2.CX X.prog X.w) X.prog X.w X.K X.mg X.base Ny x2 sy g2 cdv X.A X.stack s H (fun _ _ _ => False)) (thBd X.K C0 (fun _ => False) (fun _ _ _ => False)) body2 (fb mt))
    (hc : CstE X (.Constant cst jc pc) vc) (hden : ∀ M H, Den X.K M H dc vc) (Ls : lamSB sc scope = true)
    (hdef : defaultsOf params X.env = ([], [])) (hbind : ∀ (q : Str) (cl : List (Str × Addr)) (pm cv ctv : Value), bindArgs (PySem.W.kla_fn "<lambda>" q params body scope cl pm cv ctv) ⟨[], []⟩ = pure [])
    (der : ∀ (A : Around) (outer : List Env) (s : Shared) (H : Hp) (E : XK) (er : Exn → Prop) (f cc : Addr), Cf (lamCx X A outer s H E scope f cc) (bdOf X.K (· = T) er E) N scope k → PD (lamCx X A outer s H E scope f cc) (bdOf X.K (· = T) er E) .s body md) :
    PD X B .s (.Call (.Name x2 q) [.Lambda params body scope lpos, .Constant cst jc pc] [] pos2) (dThunk L Ny.length fb md dc) := by
  have Lm : LamS X.env.scope scope := lamS_by (by rw [cf.scope]; exact Ls)
  constructor
  rintro pins s σ H Q I ⟨C, env, M, P, r, bo, hm', kk⟩
  have hT := lf.tb C bo
  obtain ⟨oc, od, dV, kV, doc, pm0, an, cdv, ct, osl, rfl, lk, hcg, _, _⟩ := F2.ex
  refine wpAny_Call_Name_kw (ld_glob I hg2 hm2 ?_ hdb2)
  refine PySem.W.callWith_K (h₀ := X.base) I.ok.mod.kin F2.kp ?_ (by rfl) (by rfl)
  show wpAny _ _ (spliced ((false, eval (.Lambda params body scope lpos) X.env) :: backTo pos2 (starEach [.Constant cst jc pc] X.env))) _ _ s
  refine Calls.spliced_cons (lam_new I lf.TB lf.code lf.mem lf.one (by rw [← hT]; exact r.tab) hdef (Lm.has I.ok) fun f cc pm2 ct2 H1 s1 I1 ext tabs1 hf hfn hfr isC => ?_)
  show wpAny _ _ (spliced ((false, eval (.Constant cst jc pc) X.env) :: backTo pos2 (starEach [] X.env))) _ _ s1
  refine Calls.spliced_cons (hc fun u t rv => ?_)
  have I2 := I1.tok t
  refine Calls.spliced_nil ⟨I2.kIn, ?_⟩
  obtain ⟨k0, r1⟩ := ext.kept r (by rw [hT]; exact lf.mem) (by rw [hT]; exact tabs1)
  have inside : codeAny (model X.prog X.w) X.A (.call (.ref g2) ⟨[.ref f, u], []⟩) (CR (L2.CX X.prog X.w) X.stack X.prog X.w H1 { s1 with toks := t } Q (fun _ _ _ => False)) { s1 with toks := t } := by
    refine run_ofS (N := Ny) (ps := [a2, b2]) (us := [.ref f, u]) (vs := [.ref f, vc]) lk hcg S2 (cf.room.mono hk) I2.env0 (hb2 _ [.ref f, u] I2.kIn rfl) (.cons rfl (.cons rv .nil)) rfl fun hr1 => ?_
    have tk := takes_of (X := cxOf (L2.CX X.prog X.w) X.prog X.w X.K X.mg X.base Ny x2 sy g2 cdv X.A X.stack { s1 with toks := t } H1 (fun _ _ _ => False)) (E := fun _ _ _ => False) rfl rfl rfl rfl
    have cfY : Cf (cxOf (L2.CX X.prog X.w) X.prog X.w X.K X.mg X.base Ny x2 sy g2 cdv X.A X.stack { s1 with toks := t } H1 (fun _ _ _ => False)) (thBd X.K ⟨H1, M, C.dr, [], C.tb⟩ (fun _ => False) (fun _ _ _ => False)) Ny sy (k + 2) :=
      ⟨rfl, rfl, S2.nd, rfl, hr1, cf.gd, passes_of rfl, fun _ _ _ => False, passes_call tk fun _ _ _ _ h => h, fun C ok => ok.2.2.2.2, tk⟩
    have px := px_thunk (iw := 0) (pw := pw) (p := p) (pos := pos) (Ey := fun _ _ _ => False) (erY := fun _ => False) cf I2 hf hfn hfr isC r1 hT ef F (gl cfY hgy) hm hb S la lm ln le hme Ls hr1 hbind der (by rw [hN]; rfl) hvw w1 w2 dd
    refine ⟨_, der2 _ _ _ _ _ cfY px, ?_⟩

    have no : ∀ {σ : L2.St} {i : Nat} {a : Addr}, ¬ Owns σ [Slot.fn f, Slot.d dc] i a := fun {σ i a} ⟨xs, e, _⟩ => by
      match i, e with
      | 0, e => simp at e
      | 1, e => simp at e
      | i + 2, e => simp at e
    have rs : R X.K ⟨H1, M, C.dr, [], C.tb⟩ M ([V.ref f, vc].map some) H1 [.fn f, .d dc] := ⟨.refl, fun a h => h, fun a h => .inl h, r1.ok, fun d l c z => by
        obtain ⟨g1, g2, g3, g4⟩ := r1.drw d l c z
        exact ⟨g1, r1.m0 _ g2, g3, r1.m0 _ g4⟩, rfl, fun j s o e1 e2 => by
        match j, e1, e2 with
        | 0, e1, e2 => simp at e1 e2; subst e1; subst e2; exact rfl
        | 1, e1, e2 => simp at e1 e2; subst e1; subst e2; exact ⟨vc, rfl, hden _ _⟩
        | j + 2, e1, e2 => simp at e1, fun i j a h _ => (no h).elim, fun p hp => (nomatch hp), r1.tab, fun p hp => r1.m0 _ (r1.tbm p hp)⟩
    refine ⟨⟨H1, M, C.dr, [], C.tb⟩, _, M, _, _, _, _, rs.start Ny (by rw [hN]; simp), ⟨rfl, rfl, rfl, rfl, fun _ _ _ _ z => z.elim⟩, hm' f, fun M' σ' H' env' r' q => ?_,
      fun M' σ' v H' env' d r' de q => ?_, fun _ _ _ _ _ q => q, fun _ _ _ _ _ q => q⟩
    · exact kk .non H' .none (k0.trans r'.ext) (r1.step r'.ext (fun d l c e => (r'.drw d l c e).1) r'.tab) (show Den X.K M H' .none .non by simp [Den]) q
    · exact kk v H' d (k0.trans r'.ext) (r1.step r'.ext (fun d l c e => (r'.drw d l c e).1) r'.tab) de q
  refine wpAny_call (codeAny_mono inside fun r t2 z => ?_)
  match r, z with
  | .error e, ⟨_, _, _, _, _, _, _, _, _, _, _, _, z⟩ => exact z.elim
  | .ok (.ret u), z => exact I2.after z
end
end MT
end

section
set_option maxRecDepth 100000
set_option maxHeartbeats 4000000
namespace MT
open PySem PySem.Spec PyProof.Rows L2
/-! a range object in a name; a comprehension of three clauses -/
section
variable {X : Cx}
theorem cr_range1V : CallR X (.type "range") (fun vs H Q => ∃ j, vs = [V.int j] ∧ ∀ p, H p = none → Q (.ref p) (upd H p (.rng 0 j))) := by
  intro pins s σ H vs us Q I r h
  obtain ⟨j, rfl, q⟩ := h
  cases r with
  | cons r rr =>
    cases rr
    obtain ⟨u, rfl⟩ := r
    refine call_range_1 ⟨.ref s.heap.objs.size, upd H s.heap.objs.size (.rng 0 j), I.laid (t' := _) (fun b o e => Heap.get?_push_of_some _ e) (Nat.le_refl _) ?_, rfl, q _ (I.hok.fresh (Nat.le_refl _))⟩
    exact ⟨_, _, _, Heap.get?_push_size _ rfl⟩
def iRngV (te : TE) : TI := fun σ H R => te σ H fun x H1 => ∃ a lo hi, x = V.ref a ∧ H1 a = some (.rng lo hi) ∧ (-(2 ^ 62) ≤ lo ∧ lo < 2 ^ 62 ∧ -(2 ^ 62) ≤ hi ∧ hi < 2 ^ 62) ∧ R (Itr lo (hi - lo).toNat) H1
theorem pi_rngV {tg l : Expr} {tl : TE} (hl : PE X l tl) : PI X tg l (iRngV tl) := by
  refine ⟨fun pins s σ H R I h => ?_⟩
  refine thn (hl.run pins s σ H _ I h) fun v s1 ⟨x, H1, I1, r1, q1⟩ => ?_
  obtain ⟨a, lo, hi, e, hq, ⟨b1, b2, b3, b4⟩, q⟩ := q1
  subst e
  cases r1
  obtain ⟨t, u, w, ho⟩ := I1.hok a _ hq
  refine wpAny_pyIter_range (t := t) (u := u) (v := w) ho (small_one b1 b2 b3 b4) ?_
  refine ⟨s1.heap.objs.size, [s1.heap.objs.size], _, _, H1, rfl, I1.kept (t' := s1.toks) fun b o e => Heap.get?_push_of_some _ e, turn_range _ lo (hi - lo).toNat, ?_, fun b hb => ?_, q⟩
  · have e1 : lo + ((0 : Nat) : Int) * 1 = lo := by simp
    have e2 : (((hi - lo).toNat : Nat) : Int) - ((0 : Nat) : Int) = Builtin.Range.rangeSize lo hi 1 := by rw [rangeSize_one]; split <;> omega
    show IsRangeIter _ _ (lo + ((0 : Nat) : Int) * 1) ((((hi - lo).toNat : Nat) : Int) - ((0 : Nat) : Int)) 1
    rw [e1, e2]
    exact Heap.get?_push_size _ rfl
  · have e : b = s1.heap.objs.size := by simpa using hb
    subst e
    exact I1.fpOk (Nat.le_refl _) (I1.hok.fresh (Nat.le_refl _))
end
/-! the loops of a comprehension's clauses, one rule for all depths -/
section
variable {prog : Program} {w : World} {A : Around} {R : Result → Shared → Prop} {s : Shared} {elt t : Expr} {ifs : List Expr} {gens : List Comprehension} {scope : Scope} {pos p0 : Pos} {it acc : Value} {env : Env} {d d' : Nat} {i : Expr}
theorem compLoopG (ht : compTurn (.ListComp elt gens scope pos) d it acc env = (do
      standAt p0
      match ← pyNext it with
      | none => pure (.done .next)
      | some v =>
        letOwnedTupleGo t it v
        assign t env v
        let mut ok := true
        for c in ifs do
          if ok then ok ← isTrue c env (eval c env)
        if ok then
          (do let _ ← call (.builtin "list.append") [acc, ← eval elt env])
        again (.compLoop (.ListComp elt gens scope pos) d it acc env)))
    (I : Nat → Shared → Prop)
    (turn : ∀ n s, I n s → wpAny (model prog w) A (pyNext it) (fun r s₁ => match r with
      | none => R (.ok .next) s₁
      | some v => wpAny (model prog w) A (letOwnedTupleGo t it v) (fun _ s₁' => wpAny (model prog w) A (assign t env v) (fun _ s₂ =>
          wpAny (model prog w) A (forIn ifs true fun c r => if r = true then do let ok ← isTrue c env (eval c env); pure (ForInStep.yield ok) else pure (ForInStep.yield r)) (fun ok s₃ =>
            if ok = true then wpAny (model prog w) A (eval elt env) (fun x s₄ =>
              wpAny (model prog w) A (call (.builtin "list.append") [acc, x]) (fun _ s₅ => ∃ m, m < n ∧ I m s₅) (notedBy (model prog w) A env fun e s' => R (.error e) s') s₄) (notedBy (model prog w) A env fun e s' => R (.error e) s') s₃
            else ∃ m, m < n ∧ I m s₃) (notedBy (model prog w) A env fun e s' => R (.error e) s') s₂) (notedBy (model prog w) A env fun e s' => R (.error e) s') s₁') (notedBy (model prog w) A env fun e s' => R (.error e) s') s₁) (notedBy (model prog w) A env fun e s' => R (.error e) s') s)
    (n : Nat) (h : I n s) :
    codeAny (model prog w) A (.compLoop (.ListComp elt gens scope pos) d it acc env) R s := by
  refine codeAny_loop rfl I (fun n s hI => ?_) n h
  show wpAny _ A ((compTurn (.ListComp elt gens scope pos) d it acc env).onRaise (fun x => do noteFrame x env; theTreesLotGoes x)) _ _ s
  refine wpAny_noted ?_
  rw [ht]
  refine wpAny_bind (wpAny_standAt (wpAny_bind (wpAny_mono (turn n s hI) (fun r s₁ h₁ => ?_) fun _ _ h' => h')))
  cases r with
  | none => exact wpAny_pure h₁
  | some v =>
    refine wpAny_bind (wpAny_mono h₁ (fun _ s₁' h₁' => ?_) fun _ _ h' => h')
    refine wpAny_bind (wpAny_mono h₁' (fun _ s₂ h₂ => wpAny_bind (wpAny_mono h₂ (fun ok s₃ h₃ => ?_) fun _ _ h' => h')) fun _ _ h' => h')
    cases ok with
    | false => exact wpAny_pure ⟨rfl, h₃⟩
    | true =>
      exact wpAny_bind (wpAny_bind (wpAny_mono h₃ (fun x s₄ h₄ => wpAny_bind (wpAny_mono h₄ (fun _ s₅ h₅ => wpAny_pure (wpAny_pure ⟨rfl, h₅⟩)) fun _ _ h' => h')) fun _ _ h' => h'))
theorem compLoopN (ht : compTurn (.ListComp elt gens scope pos) d it acc env = (do
      standAt p0
      match ← pyNext it with
      | none => pure (.done .next)
      | some v =>
        letOwnedTupleGo t it v
        assign t env v
        let mut ok := true
        for c in ifs do
          if ok then ok ← isTrue c env (eval c env)
        if ok then
          let x ← eval i env
          standAt i.pos
          let x ← foldedSetIterable i env x
          let _ ← runOwn (.compStart (.ListComp elt gens scope pos) d' (← holding [x] (pyIter x)) acc env) env
        again (.compLoop (.ListComp elt gens scope pos) d it acc env)))
    (hs : ∀ x, foldedSetIterable i env x = pure x) (I : Nat → Shared → Prop)
    (turn : ∀ n s, I n s → wpAny (model prog w) A (pyNext it) (fun r s₁ => match r with
      | none => R (.ok .next) s₁
      | some v => wpAny (model prog w) A (letOwnedTupleGo t it v) (fun _ s₁' => wpAny (model prog w) A (assign t env v) (fun _ s₂ =>
          wpAny (model prog w) A (forIn ifs true fun c r => if r = true then do let ok ← isTrue c env (eval c env); pure (ForInStep.yield ok) else pure (ForInStep.yield r)) (fun ok s₃ =>
            if ok = true then wpAny (model prog w) A (eval i env) (fun x s₄ => wpAny (model prog w) A (pyIter x) (fun it1 s₅ =>
              codeAny (model prog w) A (.compStart (.ListComp elt gens scope pos) d' it1 acc env) (fun r s' => match r with
                | .ok _ => ∃ m, m < n ∧ I m s'
                | .error _ => False) s₅) (notedBy (model prog w) A env fun e s' => R (.error e) s') s₄) (notedBy (model prog w) A env fun e s' => R (.error e) s') s₃
            else ∃ m, m < n ∧ I m s₃) (notedBy (model prog w) A env fun e s' => R (.error e) s') s₂) (notedBy (model prog w) A env fun e s' => R (.error e) s') s₁') (notedBy (model prog w) A env fun e s' => R (.error e) s') s₁) (notedBy (model prog w) A env fun e s' => R (.error e) s') s)
    (n : Nat) (h : I n s) :
    codeAny (model prog w) A (.compLoop (.ListComp elt gens scope pos) d it acc env) R s := by
  refine codeAny_loop rfl I (fun n s hI => ?_) n h
  show wpAny _ A ((compTurn (.ListComp elt gens scope pos) d it acc env).onRaise (fun x => do noteFrame x env; theTreesLotGoes x)) _ _ s
  refine wpAny_noted ?_
  rw [ht]
  refine wpAny_bind (wpAny_standAt (wpAny_bind (wpAny_mono (turn n s hI) (fun r s₁ h₁ => ?_) fun _ _ h' => h')))
  cases r with
  | none => exact wpAny_pure h₁
  | some v =>
    refine wpAny_bind (wpAny_mono h₁ (fun _ s₁' h₁' => ?_) fun _ _ h' => h')
    refine wpAny_bind (wpAny_mono h₁' (fun _ s₂ h₂ => wpAny_bind (wpAny_mono h₂ (fun ok s₃ h₃ => ?_) fun _ _ h' => h')) fun _ _ h' => h')
    cases ok with
    | false => exact wpAny_pure ⟨rfl, h₃⟩
    | true =>
      refine wpAny_bind (wpAny_mono h₃ (fun x s₄ h₄ => ?_) fun _ _ h' => h')
      refine wpAny_bind (wpAny_standAt (wpAny_bind (wpAny_of_eq (hs x) (wpAny_bind (wpAny_holding (wpAny_mono h₄ (fun it1 s₅ h₅ => ?_) fun _ _ h' => h'))))))
      refine wpAny_bind (wpAny_runOwn ?_)
      rw [Around.mark_none]
      refine codeAny_mono h₅ fun r s' hr => ?_
      cases r with
      | ok f =>
        first
          | exact wpAny_pure ⟨rfl, hr⟩
          | exact wpAny_bind (wpAny_pure (wpAny_pure ⟨rfl, hr⟩))
      | error e => exact hr.elim
end
section
variable {elt t0 i0 t1 i1 t2 i2 : Expr} {ifs0 ifs1 ifs2 : List Expr} {scope : Scope} {pos : Pos} {it acc : Value} {env : Env}
abbrev e3 (elt t0 i0 t1 i1 t2 i2 : Expr) (ifs0 ifs1 ifs2 : List Expr) (scope : Scope) (pos : Pos) : Expr := .ListComp elt [⟨t0, i0, ifs0, 0⟩, ⟨t1, i1, ifs1, 0⟩, ⟨t2, i2, ifs2, 0⟩] scope pos
theorem turn3_0 : compTurn (e3 elt t0 i0 t1 i1 t2 i2 ifs0 ifs1 ifs2 scope pos) 0 it acc env = (do
      standAt i0.pos
      match ← pyNext it with
      | none => pure (.done .next)
      | some v =>
        letOwnedTupleGo t0 it v
        assign t0 env v
        let mut ok := true
        for c in ifs0 do
          if ok then ok ← isTrue c env (eval c env)
        if ok then
          let x ← eval i1 env
          standAt i1.pos
          let x ← foldedSetIterable i1 env x
          let _ ← runOwn (.compStart (e3 elt t0 i0 t1 i1 t2 i2 ifs0 ifs1 ifs2 scope pos) 1 (← holding [x] (pyIter x)) acc env) env
        again (.compLoop (e3 elt t0 i0 t1 i1 t2 i2 ifs0 ifs1 ifs2 scope pos) 0 it acc env)) := by rfl
theorem turn3_1 : compTurn (e3 elt t0 i0 t1 i1 t2 i2 ifs0 ifs1 ifs2 scope pos) 1 it acc env = (do
      standAt i1.pos
      match ← pyNext it with
      | none => pure (.done .next)
      | some v =>
        letOwnedTupleGo t1 it v
        assign t1 env v
        let mut ok := true
        for c in ifs1 do
          if ok then ok ← isTrue c env (eval c env)
        if ok then
          let x ← eval i2 env
          standAt i2.pos
          let x ← foldedSetIterable i2 env x
          let _ ← runOwn (.compStart (e3 elt t0 i0 t1 i1 t2 i2 ifs0 ifs1 ifs2 scope pos) 2 (← holding [x] (pyIter x)) acc env) env
        again (.compLoop (e3 elt t0 i0 t1 i1 t2 i2 ifs0 ifs1 ifs2 scope pos) 1 it acc env)) := by rfl
theorem turn3_2 : compTurn (e3 elt t0 i0 t1 i1 t2 i2 ifs0 ifs1 ifs2 scope pos) 2 it acc env = (do
      standAt i2.pos
      match ← pyNext it with
      | none => pure (.done .next)
      | some v =>
        letOwnedTupleGo t2 it v
        assign t2 env v
        let mut ok := true
        for c in ifs2 do
          if ok then ok ← isTrue c env (eval c env)
        if ok then
          (do let _ ← call (.builtin "list.append") [acc, ← eval elt env])
        again (.compLoop (e3 elt t0 i0 t1 i1 t2 i2 ifs0 ifs1 ifs2 scope pos) 2 it acc env)) := by rfl
end
end MT
end

section
set_option maxRecDepth 100000
set_option maxHeartbeats 4000000
namespace MT
open PySem PySem.Spec PyProof.Rows L2
section
variable {prog : Program} {w : World} {A : Around} {R : Result → Shared → Prop} {s : Shared} {elt t0 i0 t1 i1 t2 i2 : Expr} {ifs0 ifs1 ifs2 : List Expr} {scope : Scope} {pos : Pos} {it acc : Value} {env : Env}
theorem start3 {d : Nat} {i : Expr} (hd : (d = 1 ∧ i = i1) ∨ (d = 2 ∧ i = i2)) (h0 : codeAny (model prog w) A (.compLoop (e3 elt t0 i0 t1 i1 t2 i2 ifs0 ifs1 ifs2 scope pos) d it acc env) R s)
    (h : wpAny (model prog w) A (pyIter it) (fun it' s' => codeAny (model prog w) A (.compLoop (e3 elt t0 i0 t1 i1 t2 i2 ifs0 ifs1 ifs2 scope pos) d it' acc env) R s')
      (notedBy (model prog w) A env fun x s' => R (.error x) s') s) :
    codeAny (model prog w) A (.compStart (e3 elt t0 i0 t1 i1 t2 i2 ifs0 ifs1 ifs2 scope pos) d it acc env) R s := by
  rcases hd with ⟨rfl, rfl⟩ | ⟨rfl, rfl⟩
  all_goals
    refine codeAny_of_tree ?_
    show wpAny _ _ ((compStart (e3 elt t0 i0 t1 _ t2 _ ifs0 ifs1 ifs2 scope pos) _ it acc env).onRaise (fun x => do noteFrame x env; standAt theWindowsPlace)) _ _ s
    refine wpAny_notedAt ?_
    unfold compStart
    show wpAny _ _ (ask >>= _) _ _ s
    refine wpAny_bind (wpAny_askSetting (wpAny_ite ?_))
    split
    · first
        | exact wpAny_bind (wpAny_pure (wpAny_pure (And.intro rfl h0)))
        | exact wpAny_pure (And.intro rfl h0)
    · first
        | exact wpAny_bind (wpAny_rule (wpAny_bind (wpAny_standAt (wpAny_bind (wpAny_mono h (fun it' s' h' => wpAny_pure (And.intro rfl h')) fun _ _ x => x)))))
        | (refine wpAny_bind (wpAny_rule ?_); show wpAny _ _ (standAt _ >>= _) _ _ s; exact wpAny_bind (wpAny_standAt (wpAny_bind (wpAny_mono h (fun it' s' h' => wpAny_pure (And.intro rfl h')) fun _ _ x => x))))
end
/-- one clause's loop, from which Nx is reached; what a turn's end does is tb -/
def tLev (wi : TI) (g : TG) (tt : TT) (vs : List Nat) (tb : L2.St → Hp → (Hp → Prop) → Prop) : L2.St → Hp → (Hp → Prop) → Prop := fun σ H Nx => wi σ H fun J H1 => ∃ W : Nat → Nat → Hp → Prop, (∃ m, W 0 m H1) ∧ ∀ j k H, W j k H →
  (J.stop j H ∧ Nx H) ∨ (J.go j H ∧ ∃ N1 : Hp → Prop, (∀ H', N1 H' → ∃ k', k' < k ∧ W (j + 1) k' H') ∧ ∀ x H', J.yld j H x H' → g x (wipe σ vs) H' fun σ3 H5 => wipe σ3 vs = wipe σ vs ∧ tt σ3 H5 fun b H6 => if b = true then tb σ3 H6 N1 else N1 H6)
/-- the element is appended -/
def tApp (D : Addr) (te : TE) : L2.St → Hp → (Hp → Prop) → Prop := fun σ H Nx => te σ H fun y H1 => ∃ acc, H1 D = some (.lst acc) ∧ acc.length < sizeLine ∧ Nx (upd H1 D (.lst (acc ++ [y])))
section
variable {X : Cx} {s3 : Shared} {H3 : Hp} {scope : Scope} {ce : Env} {fp : List Addr} {elt t0 i0 t1 i1 t2 i2 : Expr} {ifs0 ifs1 ifs2 : List Expr} {pos : Pos} {D : Addr} {te : TE}
/-- an inner clause: its source is read, its loop goes through, the slots of vs are wiped -/
def Clause (Y : Cx) (e : Expr) (d : Nat) (i : Expr) (D : Addr) (vs : List Nat) (tv : L2.St → Hp → (Hp → Prop) → Prop) : Prop := ∀ (pins : List (Addr × Obj)) (s : Shared) (σ : L2.St) (H : Hp) (Nx : Hp → Prop), L2.Inv Y pins σ H s → tv σ H Nx →
  wpAny (model Y.prog Y.w) Y.A (eval i Y.env) (fun x s1 => wpAny (model Y.prog Y.w) Y.A (pyIter x) (fun it s2 => codeAny (model Y.prog Y.w) Y.A (.compStart e d it (.ref D) Y.env) (fun r s' => match r with
    | .ok _ => ∃ H', L2.Inv Y pins (wipe σ vs) H' s' ∧ Nx H'
    | .error _ => False) s2) (fun _ _ => False) s1) (fun _ _ => False) s
/-- what a turn's end does -/
def EndOk (Y : Cx) (σ : L2.St) (H : Hp) (pins : List (Addr × Obj)) (Nx : Hp → Prop) (vs : List Nat) (s' : Shared) : Prop := ∃ H', L2.Inv Y pins (wipe σ vs) H' s' ∧ Nx H'
theorem clause_of {wi : TI} {g : TG} {tt : TT} {tb : L2.St → Hp → (Hp → Prop) → Prop} {vs vs' : List Nat} {d : Nat} {t i : Expr} {ifs : List Expr} (hc : X.calm = true) (hd : (d = 1 ∧ i = i1) ∨ (d = 2 ∧ i = i2)) (hv : ∀ j ∈ vs', j ∈ vs)
    (pi : PI (X.blk s3 H3 scope ce fp) t i wi) (pg : PG (X.blk s3 H3 scope ce fp) t g) (pt : PTs (X.blk s3 H3 scope ce fp) ifs tt)
    (loop : ∀ (it : Value) (R : Result → Shared → Prop) (I : Nat → Shared → Prop) (hR : ∀ e s, R (.error e) s ↔ False) (turn : ∀ n s, I n s → wpAny (model X.prog X.w) X.A (pyNext it) (fun r s₁ => match r with
      | none => R (.ok .next) s₁
      | some v => wpAny (model X.prog X.w) X.A (letOwnedTupleGo t it v) (fun _ s₁' => wpAny (model X.prog X.w) X.A (assign t ce v) (fun _ s₂ =>
          wpAny (model X.prog X.w) X.A (forIn ifs true fun c r => if r = true then do let ok ← isTrue c ce (eval c ce); pure (ForInStep.yield ok) else pure (ForInStep.yield r)) (fun ok s₃ =>
            if ok = true then ∃ (pins : List (Addr × Obj)) (σ : L2.St) (H : Hp) (Nx : Hp → Prop), L2.Inv (X.blk s3 H3 scope ce fp) pins σ H s₃ ∧ tb σ H Nx ∧ (∀ s' H', L2.Inv (X.blk s3 H3 scope ce fp) pins (wipe σ vs') H' s' → Nx H' → ∃ m, m < n ∧ I m s')
            else ∃ m, m < n ∧ I m s₃) (fun _ _ => False) s₂) (fun _ _ => False) s₁') (fun _ _ => False) s₁) (fun _ _ => False) s) (n : Nat) (s : Shared) (h : I n s),
      codeAny (model X.prog X.w) X.A (.compLoop (e3 elt t0 i0 t1 i1 t2 i2 ifs0 ifs1 ifs2 scope pos) d it (.ref D) ce) R s) :
    Clause (X.blk s3 H3 scope ce fp) (e3 elt t0 i0 t1 i1 t2 i2 ifs0 ifs1 ifs2 scope pos) d i D vs (tLev wi g tt vs tb) := by
  intro pins s σ H Nx I h
  refine thnF (pi.run pins s σ H _ I h) fun xv s1 hx => thnF hx fun itv s2 h2 => ?_
  obtain ⟨it, fp1, tn1, J1, H11, e1, I11, T1, st11, f11, W1, ⟨m1, w1⟩, turn1⟩ := h2
  subst e1
  have stat1 : ∀ {H' : Hp}, (∀ b ∈ fp1, H' b = none) → ∀ b ∈ fp1, FpOk (X.blk s3 H3 scope ce fp) pins H' b := fun hn b hb => ⟨hn b hb, (f11 b hb).2⟩
  have hl : codeAny (model X.prog X.w) X.A (.compLoop (e3 elt t0 i0 t1 i1 t2 i2 ifs0 ifs1 ifs2 scope pos) d (.ref it) (.ref D) ce) (fun r s' => match r with
    | .ok _ => ∃ H', L2.Inv (X.blk s3 H3 scope ce fp) pins (wipe σ vs) H' s' ∧ Nx H'
    | .error _ => False) s2 := by
    refine loop (.ref it) _ (fun k s' => ∃ j H', L2.Inv (X.blk s3 H3 scope ce fp) pins (wipe σ vs) H' s' ∧ tn1 j s'.heap ∧ (∀ b ∈ fp1, H' b = none) ∧ W1 j k H') (fun _ _ => Iff.rfl) ?_ m1 s2 ⟨0, H11, I11.weak (wipe_length _ _) (fun j v e => (wipe_some e).1), st11, fun b hb => (f11 b hb).1, w1⟩
    rintro k s12 ⟨j, H12, I12, st12, n12, w12⟩
    rcases turn1 j k H12 w12 with ⟨stop1, nx1⟩ | ⟨go1, Nx1, hNx1, step1⟩
    · refine thnF (T1.done (X.blk s3 H3 scope ce fp) rfl rfl rfl hc j _ s12 (wipe σ vs) H12 (fun _ _ => False) I12 (stat1 n12) st12 stop1) fun r s13 ⟨hr, I13⟩ => ?_
      subst hr
      exact ⟨H12, I13, nx1⟩
    · refine thnF (T1.item (X.blk s3 H3 scope ce fp) rfl rfl rfl hc j _ s12 (wipe σ vs) H12 (fun _ _ => False) I12 (stat1 n12) st12 go1) fun r s13 ⟨u1, hr, h13⟩ => ?_
      subst hr
      refine thnF h13 fun _ s14 ⟨x1, H14, I14, r14, y14, st14, n14⟩ => ?_
      have I14' := I14.pinned (stat1 n14) (T1.obj _ _ st14)
      refine thnF (pg.run _ s14 (wipe σ vs) H14 x1 u1 _ I14' r14 (step1 x1 H14 y14)) fun _ s15 ⟨σ15, H15, I15, hw15, q15⟩ => ?_
      refine thnF (pt.run _ s15 σ15 H15 _ I15 q15) fun b1 s16 ⟨H16, I16, q16⟩ => ?_
      have fin1 : ∀ {τ : L2.St} {s' : Shared} {H' : Hp}, L2.Inv (X.blk s3 H3 scope ce fp) (pins ++ pinsAt fp1 s14.heap) τ H' s' → (wipe σ vs).length = τ.length → (∀ (j : Nat) v, (wipe σ vs)[j]? = some (some v) → τ[j]? = some (some v)) → Nx1 H' →
          ∃ m, m < k ∧ ∃ j H', L2.Inv (X.blk s3 H3 scope ce fp) pins (wipe σ vs) H' s' ∧ tn1 j s'.heap ∧ (∀ b ∈ fp1, H' b = none) ∧ W1 j m H' := fun {τ s' H'} I' hl hk nx => by
        obtain ⟨m', hm, w'⟩ := hNx1 H' nx
        have pin' : ∀ b ∈ fp1, ∀ o, s14.heap.get? b = some o → s'.heap.get? b = some o ∧ H' b = none := fun b hb o e =>
          let z := I'.pin (b, o) (List.mem_append_right _ (List.mem_append_right _ (mem_pinsAt hb e)))
          ⟨z.1, z.2.1⟩
        refine ⟨m', hm, j + 1, H', I'.unpinned.weak hl hk, T1.keep _ _ _ st14 fun b hb o e => (pin' b hb o e).1, fun b hb => ?_, w'⟩
        obtain ⟨o, e, _⟩ := T1.obj _ _ st14 b hb
        exact (pin' b hb o e).2
      have hl15 : (wipe σ vs).length = σ15.length := by rw [← hw15, wipe_length]
      have hk15 : ∀ (j : Nat) v, (wipe σ vs)[j]? = some (some v) → σ15[j]? = some (some v) := fun j v e => by
        rw [← hw15] at e
        exact (wipe_some e).1
      cases b1 with
      | false =>
        simp only [Bool.false_eq_true, if_false] at q16 ⊢
        exact fin1 I16 hl15 hk15 q16
      | true =>
        simp only [if_true] at q16 ⊢
        refine ⟨_, σ15, H16, Nx1, I16, q16, fun s' H' I' nx => fin1 I' (hl15.trans (wipe_length σ15 vs').symm) (fun j v e => ?_) nx⟩
        rw [← hw15] at e
        obtain ⟨e1, e2⟩ := wipe_some e
        rw [wipe_out fun z => e2 (hv j z)]
        exact e1
  exact start3 hd hl (T1.self X.A 0 _ _ _ st11 hl)
end
end MT
end

section
set_option maxRecDepth 100000
set_option maxHeartbeats 4000000
namespace MT
open PySem PySem.Spec PyProof.Rows L2
section
variable {X : Cx} {s3 : Shared} {H3 : Hp} {scope : Scope} {ce : Env} {fp : List Addr} {elt t0 i0 t1 i1 t2 i2 : Expr} {ifs0 ifs1 ifs2 : List Expr} {pos : Pos} {D : Addr} {te : TE} {wi0 wi1 wi2 : TI} {g0 g1 g2 : TG} {tt0 tt1 tt2 : TT} {vs1 vs2 : List Nat}
theorem clause2 (hc : X.calm = true) (pi : PI (X.blk s3 H3 scope ce fp) t2 i2 wi2) (pg : PG (X.blk s3 H3 scope ce fp) t2 g2) (pt : PTs (X.blk s3 H3 scope ce fp) ifs2 tt2) (pe : PE (X.blk s3 H3 scope ce fp) elt te) :
    Clause (X.blk s3 H3 scope ce fp) (e3 elt t0 i0 t1 i1 t2 i2 ifs0 ifs1 ifs2 scope pos) 2 i2 D vs2 (tLev wi2 g2 tt2 vs2 (tApp D te)) :=
  clause_of (vs' := []) hc (.inr ⟨rfl, rfl⟩) (fun j h => (nomatch h)) pi pg pt fun it R I hR turn n s h => compLoopG turn3_2 I (fun n s hI => thnF (turn n s hI) fun r s1 h1 => by
    cases r with
    | none => exact h1
    | some v =>
      refine thnF h1 fun _ s1' h1' => thnF h1' fun _ s2 h2 => thnF h2 fun ok s3 h3 => ?_
      cases ok with
      | false => exact h3
      | true =>
        simp only [if_true] at h3 ⊢
        obtain ⟨pins, σ, H, Nx, I3, q, fin⟩ := h3
        refine thnF (pe.run _ s3 σ H _ I3 q) fun z s17 ⟨yv, H17, I17, r17, acc, hD17, hz17, nx⟩ => ?_
        exact app_ok (X := X.blk _ _ scope ce fp) I17 hD17 hz17 r17 fun s18 I18 => fin s18 _ I18 nx) n h
theorem clause1 (hc : X.calm = true) (hv : ∀ j ∈ vs2, j ∈ vs1) (hs : ∀ x, foldedSetIterable i2 ce x = pure x) (he : (X.blk s3 H3 scope ce fp).env = ce) {tb : L2.St → Hp → (Hp → Prop) → Prop}
    (pi : PI (X.blk s3 H3 scope ce fp) t1 i1 wi1) (pg : PG (X.blk s3 H3 scope ce fp) t1 g1) (pt : PTs (X.blk s3 H3 scope ce fp) ifs1 tt1) (c2 : Clause (X.blk s3 H3 scope ce fp) (e3 elt t0 i0 t1 i1 t2 i2 ifs0 ifs1 ifs2 scope pos) 2 i2 D vs2 tb) :
    Clause (X.blk s3 H3 scope ce fp) (e3 elt t0 i0 t1 i1 t2 i2 ifs0 ifs1 ifs2 scope pos) 1 i1 D vs1 (tLev wi1 g1 tt1 vs1 tb) :=
  clause_of (vs' := vs2) hc (.inl ⟨rfl, rfl⟩) hv pi pg pt fun it R I hR turn n s h => compLoopN turn3_1 hs I (fun n s hI => thnF (turn n s hI) fun r s1 h1 => by
    cases r with
    | none => exact h1
    | some v =>
      refine thnF h1 fun _ s1' h1' => thnF h1' fun _ s2 h2 => thnF h2 fun ok s3 h3 => ?_
      cases ok with
      | false => exact h3
      | true =>
        simp only [if_true] at h3 ⊢
        obtain ⟨pins, σ, H, Nx, I3, q, fin⟩ := h3
        refine thnF (c2 pins s3 σ H Nx I3 q) fun x s4 h4 => thnF h4 fun it1 s5 h5 => codeAny_mono h5 fun r s' hr => ?_
        cases r with
        | ok f =>
          obtain ⟨H', I', nx⟩ := hr
          exact fin s' H' I' nx
        | error e => exact hr.elim) n h
/-- [elt for t0 in i0 for t1 in i1 for t2 in i2]: tb is what a turn of the first clause does -/
def tLc3 (wi : TI) (g : TG) (tt : TT) (vs : List Nat) (tb : Addr → L2.St → Hp → (Hp → Prop) → Prop) : TE := fun σ H Q => wi σ H fun J H1 => ∀ D, H1 D = none → ∃ W : Nat → Nat → Hp → Prop, (∃ m, W 0 m (upd H1 D (.lst []))) ∧ ∀ i m H, W i m H →
  (J.stop i H ∧ Q (.ref D) H) ∨ (J.go i H ∧ ∃ Nx : Hp → Prop, (∀ H', Nx H' → ∃ m', m' < m ∧ W (i + 1) m' H') ∧ ∀ x H', J.yld i H x H' → g x (wipe σ vs) H' fun σ2 H2 => wipe σ2 vs = wipe σ vs ∧ tt σ2 H2 fun b H3 => if b = true then tb D σ2 H3 Nx else Nx H3)
end
section
variable {X : Cx} {elt t0 i0 t1 i1 t2 i2 : Expr} {ifs0 ifs1 ifs2 : List Expr} {scope : Scope} {own : List (Str × Nat)} {pos : Pos} {wi0 : TI} {g0 : TG} {tt0 : TT} {vs1 : List Nat} {tb : Addr → L2.St → Hp → (Hp → Prop) → Prop}
theorem pe_lc3 (hc : X.calm = true) (hN : X.N.Nodup) (hi : PI X t0 i0 wi0) (ok : BlkOk X.N X.env.scope scope own) (hv : ∀ i ∈ vs1, i ∈ own.map (·.2))
    (hg : ∀ (s : Shared) (H : Hp) (C : Addr) (cl : List (Str × Addr)) (fp : List Addr), PG (X.blk s H scope (compEnvC scope cl C X.env) fp) t0 g0) (ht : ∀ (s : Shared) (H : Hp) (C : Addr) (cl : List (Str × Addr)) (fp : List Addr), PTs (X.blk s H scope (compEnvC scope cl C X.env) fp) ifs0 tt0)
    (c1 : ∀ (s : Shared) (H : Hp) (C : Addr) (cl : List (Str × Addr)) (fp : List Addr) (D : Addr), Clause (X.blk s H scope (compEnvC scope cl C X.env) fp) (e3 elt t0 i0 t1 i1 t2 i2 ifs0 ifs1 ifs2 scope pos) 1 i1 D vs1 (tb D))
    (hs : ∀ x, foldedSetIterable i0 X.env x = pure x := by intro _; rfl) (hs1 : ∀ env x, foldedSetIterable i1 env x = pure x := by intro _ _; rfl) :
    PE X (e3 elt t0 i0 t1 i1 t2 i2 ifs0 ifs1 ifs2 scope pos) (tLc3 wi0 g0 tt0 (own.map (·.2)) tb) := by
  refine ⟨fun pins s σ H Q I h => ?_⟩
  rw [eval_ListComp]
  have hfree : ∀ y ∈ scope.names, y.2 = .free → ∃ c, X.env.cells.lookup y.1 = some c := fun y hy e => by
    rcases ok.free y hy e with k | k
    · exact I.ok.has _ (.inl k)
    · exact I.ok.has _ (.inr k)
  refine wpAny_comprehension_free (use := none) rfl hs (closure_ok hfree) ok.kind (fun y hy e => by rw [ok.uniq y hy, e])
    (thn (hi.run pins s σ H _ I h) fun xv s1 hx => thn hx fun itv s2 h2 => ?_)
  obtain ⟨it, fp, tn, J, H2, e, I2, T, st2, f2, q⟩ := h2
  subst e
  refine wpAny_newObj_type (newEnv_comp ?_) (by show 0 ≤ sizeLine; decide)
  generalize hD : s2.heap.objs.size = D
  have hDn : H2 D = none := I2.hok.fresh (Nat.le_of_eq hD)
  obtain ⟨W, ⟨m0, w0⟩, turn⟩ := q D hDn
  generalize hs3 : ({ s2 with heap := s2.heap.push { cls := .type "list", data := .seq ([] : List Value).toArray } } : Shared) = s3
  have I3 : L2.Inv X pins σ (upd H2 D (.lst [])) s3 := by
    rw [← hs3]
    refine I2.laid (t' := s2.toks) (fun b o e => Heap.get?_push_of_some _ e) (Nat.le_of_eq hD) ⟨Nat.zero_le _, [], 0, .nil, ?_⟩
    rw [← hD]
    exact Heap.get?_push_size _ rfl
  have h3 : s3.heap = s2.heap.push { cls := .type "list", data := .seq ([] : List Value).toArray } := by rw [← hs3]
  have f3 : ∀ b ∈ fp, FpOk X pins (upd H2 D (.lst [])) b ∧ b < s3.heap.objs.size := fun b hb => by
    obtain ⟨o, e, _⟩ := T.obj _ _ st2 b hb
    have hlt := Heap.lt_size e
    refine ⟨⟨?_, (f2 b hb).2⟩, by rw [h3, Heap.size_push]; exact Nat.lt_succ_of_lt hlt⟩
    rw [upd_ne (by rw [← hD]; exact Nat.ne_of_lt hlt)]
    exact (f2 b hb).1
  have st3 : tn 0 s3.heap := T.keep _ _ _ st2 fun b _ o e => by rw [h3]; exact Heap.get?_push_of_some _ e
  have I4 := block_start I3 ok hN f3
  have pg := hg s3 (upd H2 D (.lst [])) s3.heap.objs.size (cellsFrom (s3.heap.objs.size + 1) scope.names (cloFrom X.env.cells scope.names [])) fp
  have pt := ht s3 (upd H2 D (.lst [])) s3.heap.objs.size (cellsFrom (s3.heap.objs.size + 1) scope.names (cloFrom X.env.cells scope.names [])) fp
  have cl1 := c1 s3 (upd H2 D (.lst [])) s3.heap.objs.size (cellsFrom (s3.heap.objs.size + 1) scope.names (cloFrom X.env.cells scope.names [])) fp D
  have nfp : ∀ b ∈ fp, (upd H2 D (.lst [])) b = none := fun b hb => (f3 b hb).1.1
  have goal : codeAny (model X.prog X.w) X.A (.compStart (e3 elt t0 i0 t1 i1 t2 i2 ifs0 ifs1 ifs2 scope pos) 0 (.ref it) (.ref D) (compEnvC scope (cellsFrom (s3.heap.objs.size + 1) scope.names (cloFrom X.env.cells scope.names [])) s3.heap.objs.size X.env)) (compPost (model X.prog X.w) X.A X.xe none (EP X pins σ Q) (.ref D) s3.heap.objs.size)
      { s3 with heap := pushCells (s3.heap.push { cls := .type "dict", data := .dict #[] }) scope.names } := by
    generalize hce : compEnvC scope (cellsFrom (s3.heap.objs.size + 1) scope.names (cloFrom X.env.cells scope.names [])) s3.heap.objs.size X.env = ce at I4 pg pt cl1 ⊢
    have cL : ce.locals = s3.heap.objs.size := by subst hce; rfl
    generalize hH3 : upd H2 D (.lst []) = H3 at I3 I4 pg pt cl1 w0 nfp f3
    generalize hs4 : ({ s3 with heap := pushCells (s3.heap.push { cls := .type "dict", data := .dict #[] }) scope.names } : Shared) = s4 at I4 ⊢
    have st4 : tn 0 s4.heap := T.keep _ _ _ st3 fun b _ o e => by rw [← hs4]; exact pushCells_keeps _ _ _ _ (Heap.get?_push_of_some _ e)
    have stat : ∀ {σ' : L2.St} {H' : Hp} {s' : Shared}, L2.Inv (X.blk s3 H3 scope ce fp) [] σ' H' s' → (∀ b ∈ fp, H' b = none) → ∀ b ∈ fp, FpOk (X.blk s3 H3 scope ce fp) [] H' b := fun {σ' H' s'} I' hn b hb =>
      ⟨hn b hb, (I'.ok.exf b hb).1, I'.ok.exfs b hb, .inl hb, fun x c e => (I'.ok.exf b hb).2 x c e, fun p hp => absurd (show p ∈ ([] : List (Addr × Obj)) ++ [] from hp) (by simp)⟩
    have loop : codeAny (model X.prog X.w) X.A (.compLoop (e3 elt t0 i0 t1 i1 t2 i2 ifs0 ifs1 ifs2 scope pos) 0 (.ref it) (.ref D) ce) (compPost (model X.prog X.w) X.A X.xe none (EP X pins σ Q) (.ref D) s3.heap.objs.size) s4 := by
      refine compLoopN turn3_0 (hs1 ce) (fun n s' => ∃ i H', L2.Inv (X.blk s3 H3 scope ce fp) [] (wipe σ (own.map (·.2))) H' s' ∧ tn i s'.heap ∧ (∀ b ∈ fp, H' b = none) ∧ W i n H') ?_ m0 ⟨0, H3, I4, st4, nfp, w0⟩
      rintro n s5 ⟨i, H5, I5, st5, n5, w5⟩
      rcases turn i n H5 w5 with ⟨stop, qq⟩ | ⟨go, Nx, hNx, step⟩
      · refine thnF (T.done (X.blk s3 H3 scope ce fp) rfl rfl rfl hc i [] s5 _ H5 (fun _ _ => False) I5 (stat I5 n5) st5 stop) fun r s6 ⟨hr, I6⟩ => ?_
        subst hr
        have I7 : L2.Inv X pins σ H5 s6 := I3.call' (ch := fp) I6.os I6.base I6.hok I6.bare fun b hb => ⟨(f3 b hb).1.2.2.2.1, (f3 b hb).1.2.1, (f3 b hb).1.2.2.2.2.1, (f3 b hb).1.2.2.2.2.2⟩
        have nC : H5 s3.heap.objs.size = none := by
          have z : H5 ce.locals = none := I6.free
          rw [cL] at z
          exact z
        obtain ⟨m, hn, _⟩ := I6.loc
        have hn : s6.heap.Ns ce.locals m := hn
        rw [cL] at hn
        obtain ⟨f0, f1, f2, f3', f4, f5⟩ := I3.fpOk (Nat.le_refl _) nC
        exact ⟨m, hn, fun h'' sb => ⟨.ref D, H5, I7.turned (t' := s6.toks) (fun b o hb e => (sb.2 b hb).trans e) f0 f1 f3' f4 f5, rfl, qq⟩⟩
      · refine thnF (T.item (X.blk s3 H3 scope ce fp) rfl rfl rfl hc i [] s5 _ H5 (fun _ _ => False) I5 (stat I5 n5) st5 go) fun r s6 ⟨u, hr, h6⟩ => ?_
        subst hr
        refine thnF h6 fun _ s7 ⟨x, H7, I7, r7, y7, st7, n7⟩ => ?_
        have I7' := I7.pinned (stat I7 n7) (T.obj _ _ st7)
        refine thnF (pg.run _ s7 _ H7 x u _ I7' r7 (step x H7 y7)) fun _ s8 ⟨σ8, H8, I8, hw8, q8⟩ => ?_
        refine thnF (pt.run _ s8 σ8 H8 _ I8 q8) fun b s9 ⟨H9, I9, q9⟩ => ?_
        have fin : ∀ {σ9 : L2.St} {s' : Shared} {H' : Hp}, L2.Inv (X.blk s3 H3 scope ce fp) ([] ++ pinsAt fp s7.heap) σ9 H' s' → (wipe σ (own.map (·.2))).length = σ9.length → (∀ (j : Nat) v, (wipe σ (own.map (·.2)))[j]? = some (some v) → σ9[j]? = some (some v)) → Nx H' →
            ∃ m, m < n ∧ ∃ i H', L2.Inv (X.blk s3 H3 scope ce fp) [] (wipe σ (own.map (·.2))) H' s' ∧ tn i s'.heap ∧ (∀ b ∈ fp, H' b = none) ∧ W i m H' := fun {σ9 s' H'} I' hl hk nx => by
          obtain ⟨m', hm, w'⟩ := hNx H' nx
          have pin' : ∀ b ∈ fp, ∀ o, s7.heap.get? b = some o → s'.heap.get? b = some o ∧ H' b = none := fun b hb o e =>
            let z := I'.pin (b, o) (List.mem_append_right _ (List.mem_append_right _ (mem_pinsAt hb e)))
            ⟨z.1, z.2.1⟩
          refine ⟨m', hm, i + 1, H', (I'.unpinned (pins := [])).weak hl hk, T.keep _ _ _ st7 fun b hb o e => (pin' b hb o e).1, fun b hb => ?_, w'⟩
          obtain ⟨o, e, _⟩ := T.obj _ _ st7 b hb
          exact (pin' b hb o e).2
        have hl8 : (wipe σ (own.map (·.2))).length = σ8.length := by rw [← hw8, wipe_length]
        have hk8 : ∀ (j : Nat) v, (wipe σ (own.map (·.2)))[j]? = some (some v) → σ8[j]? = some (some v) := fun j v e => by
          rw [← hw8] at e
          exact (wipe_some e).1
        cases b with
        | false =>
          simp only [Bool.false_eq_true, if_false] at q9 ⊢
          exact fin I9 hl8 hk8 q9
        | true =>
          simp only [if_true] at q9 ⊢
          refine thnF (cl1 _ s9 σ8 H9 Nx I9 q9) fun x s10 h10 => thnF h10 fun it1 s11 h11 => codeAny_mono h11 fun r s' hr => ?_
          cases r with
          | ok f =>
            obtain ⟨H', I', nx⟩ := hr
            refine fin I' (hl8.trans (wipe_length σ8 vs1).symm) (fun j v e => ?_) nx
            rw [← hw8] at e
            obtain ⟨e1, e2⟩ := wipe_some e
            rw [wipe_out fun z => e2 (hv j z)]
            exact e1
          | error e => exact hr.elim
    exact codeAny_compStart_list loop (T.self X.A 0 _ _ _ st4 loop)
  exact goal
end
end MT
end

section
set_option maxRecDepth 100000
set_option maxHeartbeats 4000000
namespace MT
open PySem PySem.Spec PyProof.Rows L2
/-! [(x, y, z) for x in things for y in things for z in things], things a range in a name -/
def row3 (x y z : Nat) : PyData := .tuple [.int (x : Nat), .int (y : Nat), .int (z : Nat)]
def rows3 (n : Nat) : List PyData := (List.range n).flatMap fun x => (List.range n).flatMap fun y => (List.range n).map fun z => row3 x y z
section
variable {K : PySem.W.Frag} {C : Ctx} {M : Mk} {σ0 σ : L2.St} {H1 : Hp} {env0 : List Slot} {D p : Addr} {n i : Nat}
/-- so far the rows of L stand in the list at D -/
structure RowsI (K : PySem.W.Frag) (C : Ctx) (M : Mk) (σ0 : L2.St) (H1 : Hp) (env0 : List Slot) (D p : Addr) (n : Nat) (L : List PyData) (H : Hp) : Prop where
  k : Kept C.X0 H1 H
  r : R K C (addM M D) σ0 H env0
  d : ∃ acc, H D = some (.lst acc) ∧ DenL K (addM M D) H L acc
  g : H p = some (.rng 0 (n : Nat))
theorem core_rng {jv : Nat} {vs' : List Nat} {L : List PyData} {rowsAt : Nat → List PyData} {tb : L2.St → Hp → (Hp → Prop) → Prop} {H : Hp} {Nx : Hp → Prop} (hn : n ≤ 1000000) (hjv : jv ∈ vs')
    (ht : ∀ (a : Nat) (H' : Hp) (N1 : Hp → Prop), a < n → RowsI K C M σ0 H1 env0 D p n (L ++ (List.range a).flatMap rowsAt) H' → (∀ H'', RowsI K C M σ0 H1 env0 D p n (L ++ (List.range a).flatMap rowsAt ++ rowsAt a) H'' → N1 H'') → tb ((L2.wipe σ vs').set jv (some (.int (a : Nat)))) H' N1)
    (I : RowsI K C M σ0 H1 env0 D p n L H) (hN : ∀ H', RowsI K C M σ0 H1 env0 D p n (L ++ (List.range n).flatMap rowsAt) H' → Nx H') : ∃ W : Nat → Nat → Hp → Prop, (∃ m, W 0 m H) ∧ ∀ j k H, W j k H →
  ((Itr 0 (((n : Nat) : Int) - 0).toNat).stop j H ∧ Nx H) ∨ ((Itr 0 (((n : Nat) : Int) - 0).toNat).go j H ∧ ∃ N1 : Hp → Prop, (∀ H', N1 H' → ∃ k', k' < k ∧ W (j + 1) k' H') ∧ ∀ x H', (Itr 0 (((n : Nat) : Int) - 0).toNat).yld j H x H' → gName jv x (L2.wipe σ vs') H' fun σ3 H5 => L2.wipe σ3 vs' = L2.wipe σ vs' ∧ tYes σ3 H5 fun b H6 => if b = true then tb σ3 H6 N1 else N1 H6) := by
  refine ⟨fun j k H' => j + k = n ∧ RowsI K C M σ0 H1 env0 D p n (L ++ (List.range j).flatMap rowsAt) H', ⟨n, by omega, by simpa using I⟩, ?_⟩
  rintro j k H' ⟨ejk, I'⟩
  have en : (((n : Nat) : Int) - 0).toNat = n := by omega
  by_cases hj : j < n
  · refine .inr ⟨by show j < (((n : Nat) : Int) - 0).toNat; rw [en]; exact hj, fun H'' => RowsI K C M σ0 H1 env0 D p n (L ++ (List.range (j + 1)).flatMap rowsAt) H'', fun H'' I'' => ⟨k - 1, by omega, by omega, I''⟩, ?_⟩
    rintro x H'' ⟨rfl, rfl⟩
    have e0 : ((0 : Int) + (j : Nat)) = (j : Nat) := by omega
    refine ⟨by rw [MT.wipe_set hjv]; exact wipe_idem fun a h => h, ?_⟩
    show tb ((L2.wipe σ vs').set jv (some (.int (0 + (j : Nat))))) H'' _
    rw [e0]
    refine ht j _ _ hj I' fun H3 I3 => ?_
    rw [List.range_succ, List.flatMap_append, ← List.append_assoc]
    simpa using I3
  · refine .inl ⟨by show (((n : Nat) : Int) - 0).toNat ≤ j; rw [en]; omega, hN _ ?_⟩
    have e : List.range n = List.range j := by rw [show j = n by omega]
    rw [e]
    exact I'
theorem lev_rng {jv : Nat} {vs' : List Nat} {L : List PyData} {rowsAt : Nat → List PyData} {tb : L2.St → Hp → (Hp → Prop) → Prop} {H : Hp} {Nx : Hp → Prop} (hn : n ≤ 1000000) (hi : σ[i]? = some (some (V.ref p))) (hjv : jv ∈ vs')
    (ht : ∀ (a : Nat) (H' : Hp) (N1 : Hp → Prop), a < n → RowsI K C M σ0 H1 env0 D p n (L ++ (List.range a).flatMap rowsAt) H' → (∀ H'', RowsI K C M σ0 H1 env0 D p n (L ++ (List.range a).flatMap rowsAt ++ rowsAt a) H'' → N1 H'') → tb ((L2.wipe σ vs').set jv (some (.int (a : Nat)))) H' N1)
    (I : RowsI K C M σ0 H1 env0 D p n L H) (hN : ∀ H', RowsI K C M σ0 H1 env0 D p n (L ++ (List.range n).flatMap rowsAt) H' → Nx H') : tLev (iRngV (tVar i)) (gName jv) tYes vs' tb σ H Nx :=
  ⟨V.ref p, hi, p, 0, (n : Nat), rfl, I.g, ⟨by decide, by decide, by omega, by omega⟩, core_rng hn hjv ht I hN⟩
theorem row_app {L : List PyData} {H : Hp} {N1 : Hp → Prop} {σ4 : L2.St} {jx jy jz a b c : Nat} (nD : H1 D = none) (nM0 : ¬ C.M0 D) (no : ∀ i, ¬ Owns σ0 env0 i D) (neDp : D ≠ p) (I : RowsI K C M σ0 H1 env0 D p n L H) (hx : σ4[jx]? = some (some (.int (a : Nat)))) (hy : σ4[jy]? = some (some (.int (b : Nat)))) (hz : σ4[jz]? = some (some (.int (c : Nat))))
    (hl : L.length < sizeLine) (hN : ∀ H'', RowsI K C M σ0 H1 env0 D p n (L ++ [row3 a b c]) H'' → N1 H'') : tApp D (tTupF (tCons (tVar jx) (tCons (tVar jy) (tCons (tVar jz) tNil)))) σ4 H N1 := by
  obtain ⟨k, r, ⟨acc, hD, dl⟩, g⟩ := I
  refine ⟨_, hx, _, hy, _, hz, by show 3 ≤ sizeLine; decide, fun q oq nq odq => ?_⟩
  have la := dl.length
  have hDq : upd H q (.frz oq (.tup [V.int (a : Nat), V.int (b : Nat), V.int (c : Nat)])) D = some (.lst acc) := by rw [upd_ne (ne_of_none hD nq)]; exact hD
  have gq : upd H q (.frz oq (.tup [V.int (a : Nat), V.int (b : Nat), V.int (c : Nat)])) p = some (.rng 0 (n : Nat)) := by rw [upd_ne (ne_of_none g nq)]; exact g
  have r1 : R K C (addM M D) σ0 (upd H q (.frz oq (.tup [V.int (a : Nat), V.int (b : Nat), V.int (c : Nat)]))) env0 := r.new nq
  have k1 : Kept C.X0 H1 (upd H q (.frz oq (.tup [V.int (a : Nat), V.int (b : Nat), V.int (c : Nat)]))) := k.trans (Kept.new nq)
  have de : Den K (addM M D) (upd H q (.frz oq (.tup [V.int (a : Nat), V.int (b : Nat), V.int (c : Nat)]))) (row3 a b c) (.ref q) := by
    unfold row3
    simp only [Den]
    refine ⟨q, [V.int (a : Nat), V.int (b : Nat), V.int (c : Nat)], rfl, .inl ⟨oq, upd_same, odq⟩, by show 3 ≤ sizeLine; decide, ?_⟩
    simp [DenL, Den]
  refine ⟨acc, hDq, by rw [la]; exact hl, hN _ ⟨fun u o e nx => ?_, r1.mut (.inr rfl) nM0 hDq no, ⟨acc ++ [.ref q], upd_same, ?_⟩, by rw [upd_ne neDp.symm]; exact gq⟩⟩
  · rw [upd_ne (ne_of_none e nD)]; exact k1 u o e nx
  · exact ((dl.grow r.ok (grow_new nq)).app (.one de)).kept (Kept.mut (.inr rfl)) r1.ok.w
theorem flat_lenR (m : Nat) (f : Nat → List PyData) (c : Nat) : ∀ k, (∀ a, (f a).length ≤ c) → ((List.range k).flatMap f).length ≤ k * c
  | 0, _ => by simp
  | k + 1, h => by
    rw [List.range_succ, List.flatMap_append, List.length_append]
    have := flat_lenR m f c k h
    have := h k
    simp only [List.flatMap_cons, List.flatMap_nil, List.append_nil]
    rw [Nat.succ_mul]
    omega
/-- the three clauses over one range -/
def tRows3 (i jx jy jz : Nat) : TE := tLc3 (iRngV (tVar i)) (gName jx) tYes [jx, jy, jz] (fun D => tLev (iRngV (tVar i)) (gName jy) tYes [jy, jz] (tLev (iRngV (tVar i)) (gName jz) tYes [jz] (tApp D (tTupF (tCons (tVar jx) (tCons (tVar jy) (tCons (tVar jz) tNil)))))))
theorem rows_imp {M : Mk} {σ : L2.St} {env : List Slot} {jx jy jz : Nat} {Q : VK} (r : R K C M σ H1 env) (hp : H1 p = some (.rng 0 (n : Nat))) (hi : σ[i]? = some (some (V.ref p))) (hn : n ≤ 100) (d1 : i ∉ [jx, jy, jz]) (d2 : jx ∉ [jy, jz]) (d3 : jy ≠ jz) (l1 : jx < σ.length) (l2 : jy < σ.length) (l3 : jz < σ.length)
    (hQ : ∀ v H', Kept C.X0 H1 H' → R K C M σ H' env → Den K M H' (.list (rows3 n)) v → Q v H') : tRows3 i jx jy jz σ H1 Q := by
  have s6 : ∀ k, k ≤ 2000000 → k < sizeLine := fun k h => by rw [sizeLine_eq]; omega
  refine ⟨V.ref p, hi, p, 0, (n : Nat), rfl, hp, ⟨by decide, by decide, by omega, by omega⟩, fun D nD => ?_⟩
  have rw0 := r.wipe [jx, jy, jz]
  have no : ∀ i, ¬ Owns (L2.wipe σ [jx, jy, jz]) (wipeE env [jx, jy, jz]) i D := fun i h => by
    obtain ⟨_, _, ws, e⟩ := rw0.own h
    rw [nD] at e; cases e
  have nM0 : ¬ C.M0 D := fun z => r.ok.free nD (r.m0 D z)
  have neDp : D ≠ p := fun e => by rw [e, hp] at nD; cases nD
  have I0 : RowsI K C M (L2.wipe σ [jx, jy, jz]) H1 (wipeE env [jx, jy, jz]) D p n [] (upd H1 D (.lst [])) := ⟨Kept.new nD, rw0.addM nD, ⟨[], upd_same, by simp [DenL]⟩, by rw [upd_ne neDp.symm]; exact hp⟩
  have li : ∀ {τ : L2.St} {vs : List Nat} {j : Nat} {o : Option V}, τ[i]? = some (some (V.ref p)) → i ∉ vs → i ≠ j → ((L2.wipe τ vs).set j o)[i]? = some (some (V.ref p)) := fun {τ vs j o} h1 h2 h3 => by
    rw [List.getElem?_set_ne h3.symm, wipe_out h2]; exact h1
  have n1 : i ≠ jx := fun e => d1 (by rw [e]; simp)
  have n2 : i ≠ jy := fun e => d1 (by rw [e]; simp)
  have n3 : i ≠ jz := fun e => d1 (by rw [e]; simp)
  have m1 : jx ≠ jy := fun e => d2 (by rw [e]; simp)
  have m2 : jx ≠ jz := fun e => d2 (by rw [e]; simp)
  refine core_rng (rowsAt := fun x => (List.range n).flatMap fun y => (List.range n).map fun z => row3 x y z) (by omega) (by simp) (fun a H2 N1 ha I2 h2 => ?_) I0 (fun H' I' => ?_)
  · have e2 := li (j := jx) (o := some (V.int (a : Nat))) hi d1 n1
    have x2 : ((L2.wipe σ [jx, jy, jz]).set jx (some (.int (a : Nat))))[jx]? = some (some (V.int (a : Nat))) := List.getElem?_set_self (by rw [wipe_length]; exact l1)
    have g2 : ((L2.wipe σ [jx, jy, jz]).set jx (some (.int (a : Nat)))).length = σ.length := by rw [List.length_set, wipe_length]
    generalize (L2.wipe σ [jx, jy, jz]).set jx (some (.int (a : Nat))) = σ2 at e2 x2 g2 ⊢
    refine lev_rng (rowsAt := fun y => (List.range n).map fun z => row3 a y z) (by omega) e2 (by simp) (fun b H3 N2 hb I3 h3 => ?_) I2 h2
    have e3 := li (vs := [jy, jz]) (j := jy) (o := some (V.int (b : Nat))) e2 (fun z => d1 (List.mem_cons_of_mem _ z)) n2
    have x3 : ((L2.wipe σ2 [jy, jz]).set jy (some (.int (b : Nat))))[jx]? = some (some (V.int (a : Nat))) := by rw [List.getElem?_set_ne m1.symm, wipe_out d2]; exact x2
    have y3 : ((L2.wipe σ2 [jy, jz]).set jy (some (.int (b : Nat))))[jy]? = some (some (V.int (b : Nat))) := List.getElem?_set_self (by rw [wipe_length, g2]; exact l2)
    have g3 : ((L2.wipe σ2 [jy, jz]).set jy (some (.int (b : Nat)))).length = σ.length := by rw [List.length_set, wipe_length, g2]
    generalize (L2.wipe σ2 [jy, jz]).set jy (some (.int (b : Nat))) = σ3 at e3 x3 y3 g3 ⊢
    have fl : (List.range n).flatMap (fun z => [row3 a b z]) = (List.range n).map fun z => row3 a b z := by
      induction (List.range n) with
      | nil => rfl
      | cons z zs ih => simp [List.flatMap_cons, ih]
    refine lev_rng (rowsAt := fun z => [row3 a b z]) (by omega) e3 (by simp) (fun c H4 N3 hc I4 h4 => ?_) I3 (fun H' I' => h3 H' (by rw [fl] at I'; exact I'))
    refine row_app nD nM0 no neDp I4 ?_ ?_ ?_ ?_ h4
    · rw [List.getElem?_set_ne m2.symm, wipe_out (by simpa using m2)]; exact x3
    · rw [List.getElem?_set_ne d3.symm, wipe_out (by simpa using d3)]; exact y3
    · exact List.getElem?_set_self (by rw [wipe_length, g3]; exact l3)
    · have q1 := flat_lenR 0 (fun x => (List.range n).flatMap fun y => (List.range n).map fun z => row3 x y z) (n * n) a fun x => flat_lenR 0 _ n n fun y => by simp
      have q2 := flat_lenR 0 (fun y => (List.range n).map fun z => row3 a y z) n b fun y => by simp
      have q3 := flat_lenR 0 (fun z => [row3 a b z]) 1 c fun y => by simp
      have w1 : n * n ≤ 100 * 100 := Nat.mul_le_mul hn hn
      have w2 : a * (n * n) ≤ 100 * (100 * 100) := Nat.mul_le_mul (by omega) w1
      have w3 : b * n ≤ 100 * 100 := Nat.mul_le_mul (by omega) hn
      refine s6 _ ?_
      rw [List.length_append, List.length_append, List.length_append, List.length_nil]
      omega
  · obtain ⟨k, r', ⟨acc, hD, dl⟩, g⟩ := I'
    have rout : R K C M σ H' env := r.step k (fun d l c e => (r'.drw d l c e).1) r'.tab
    refine hQ (.ref D) H' k rout ?_
    show Den K M H' (.list (rows3 n)) (.ref D)
    have hl : (rows3 n).length ≤ 1000000 := by
      have h1 : ∀ x, ((List.range n).flatMap fun y => (List.range n).map fun z => row3 x y z).length ≤ n * n := fun x => flat_lenR 0 _ n n fun y => by simp
      have h2 := flat_lenR 0 (fun x => (List.range n).flatMap fun y => (List.range n).map fun z => row3 x y z) (n * n) n h1
      have h3 : n * n ≤ 100 * 100 := Nat.mul_le_mul hn hn
      have h4 : n * (n * n) ≤ 100 * (100 * 100) := Nat.mul_le_mul hn h3
      unfold rows3
      omega
    simp only [Den]
    have dl : DenL K (addM M D) H' (rows3 n) acc := by simpa [rows3] using dl
    exact ⟨D, acc, rfl, hD, r.ok.free nD, by rw [dl.length]; exact Nat.le_of_lt (s6 _ (by omega)), dl.mk fun a xs _ h z => h (.inl z)⟩
end
end MT
end

section
set_option maxRecDepth 100000
set_option maxHeartbeats 4000000
namespace MT
open PySem PySem.Spec PyProof.Rows L2
section
variable {X : Cx} {B : Bd} {e : Expr} {m : List Slot → W PyData}
/-- things = range(e); return [(x, y, z) for x in things for y in things for z in things] -/
def dRows3 (i jx jy jz : Nat) (m : List Slot → W PyData) : WS := fun E env => (env[i]? = some .un ∧ jx < env.length ∧ jy < env.length ∧ jz < env.length) ∧ m env (fun d => ∃ n : Nat, d = .int (n : Nat) ∧ n ≤ 100 ∧ E.rt env (.list (rows3 n))) E.er
theorem sds_rows3 {i jx jy jz : Nat} {ti tx ty tz : Str} {pi pr pc pa p0 p1 p2 p3 p4 p5 p6 p7 p8 p9 pl : Pos} {kt : Nat} {scope : Scope} {own : List (Str × Nat)} (hc : X.calm = true) (hN : X.N.Nodup) (hni : X.N[i]? = some ti) (hx : Loc X.env.scope ti) (hf : X.fn ti = true ∨ X.env.scope.names.lookup ti = some .local)
    (hg : Gl X "range") (hm : X.mg "range" = none) (q : PD X B .s e m) (h1 : starEach [e] X.env = (false, eval e X.env) :: starEach [] X.env)
    (hs : swapsWith (.Call (.Name "range" pr) [e] [] pc) (some (.Name ti pi)) pa.line X.env = pure false)
    (hpi : PE X (.Name ti p0) (tVar i)) (ok : BlkOk X.N X.env.scope scope own) (ho : own.map (·.2) = [jx, jy, jz])
    (hB : ∀ (s : Shared) (H : Hp) (C : Addr) (cl : List (Str × Addr)) (fp : List Addr) (pp : Pos), PE (X.blk s H scope (PySem.compEnvC scope cl C X.env) fp) (.Name ti pp) (tVar i))
    (hE : ∀ (s : Shared) (H : Hp) (C : Addr) (cl : List (Str × Addr)) (fp : List Addr) (pp : Pos), PE (X.blk s H scope (PySem.compEnvC scope cl C X.env) fp) (.Name tx pp) (tVar jx) ∧ PE (X.blk s H scope (PySem.compEnvC scope cl C X.env) fp) (.Name ty pp) (tVar jy) ∧ PE (X.blk s H scope (PySem.compEnvC scope cl C X.env) fp) (.Name tz pp) (tVar jz))
    (hT : ∀ (s : Shared) (H : Hp) (C : Addr) (cl : List (Str × Addr)) (fp : List Addr) (pp : Pos), PG (X.blk s H scope (PySem.compEnvC scope cl C X.env) fp) (.Name tx pp) (gName jx) ∧ PG (X.blk s H scope (PySem.compEnvC scope cl C X.env) fp) (.Name ty pp) (gName jy) ∧ PG (X.blk s H scope (PySem.compEnvC scope cl C X.env) fp) (.Name tz pp) (gName jz))
    (d1 : i ∉ [jx, jy, jz]) (d2 : jx ∉ [jy, jz]) (d3 : jy ≠ jz) :
    SDs X B [.Assign [.Name ti pi] (.Call (.Name "range" pr) [e] [] pc) pa, .Return (some (e3 (.Tuple [.Name tx p4, .Name ty p5, .Name tz p6] kt p7) (.Name tx p1) (.Name ti p0) (.Name ty p2) (.Name ti p8) (.Name tz p3) (.Name ti p9) [] [] [] scope pl)) pos] (dRows3 i jx jy jz m) := by
  have pl3 : PE X (e3 (.Tuple [.Name tx p4, .Name ty p5, .Name tz p6] kt p7) (.Name tx p1) (.Name ti p0) (.Name ty p2) (.Name ti p8) (.Name tz p3) (.Name ti p9) [] [] [] scope pl) (tRows3 i jx jy jz) := by
    have := pe_lc3 (elt := .Tuple [.Name tx p4, .Name ty p5, .Name tz p6] kt p7) (t0 := .Name tx p1) (i0 := .Name ti p0) (t1 := .Name ty p2) (i1 := .Name ti p8) (t2 := .Name tz p3) (i2 := .Name ti p9) (ifs0 := []) (ifs1 := []) (ifs2 := []) (pos := pl) (vs1 := [jy, jz]) hc hN (pi_rngV hpi) ok (by rw [ho]; simp) (fun s H C cl fp => (hT s H C cl fp p1).1) (fun s H C cl fp => pts_nil)
      (fun s H C cl fp D => clause1 hc (vs2 := [jz]) (by simp) (fun _ => rfl) rfl (pi_rngV (hB s H C cl fp p8)) (hT s H C cl fp p2).2.1 pts_nil
        (clause2 hc (pi_rngV (hB s H C cl fp p9)) (hT s H C cl fp p3).2.2 pts_nil (pe_tupF (pa_cons (hE s H C cl fp p4).1 (pa_cons (hE s H C cl fp p5).2.1 (pa_cons (hE s H C cl fp p6).2.2 pa_nil))))))
    rw [ho] at this
    exact this
  refine pss_imp (pss_cons (ps_set hN hni hx (pe_callTy cr_range1V hg hm boot_range (pa_cons q pa_nil h1) (by decide) (by decide) h1 (by rfl)) hs hf) (pss_one (ps_ret pl3))) fun D σ H ⟨C, env, M, nx, rt, bk, ct, r, bo, ⟨⟨hu, l1, l2, l3⟩, hf⟩, k1, k2, k3, k4⟩ => ?_
  refine ⟨C, env, M, _, r, bo, hf, fun v H1 d kk r1 de ⟨n, ed, hn, pq⟩ => ?_⟩
  subst ed
  have ev : v = .int (n : Nat) := by simpa [DenF, Den] using de
  subst ev
  refine ⟨(n : Nat), rfl, fun p np => ?_⟩
  have r2 : R X.K C M (σ.set i (some (.ref p))) (upd H1 p (.rng 0 (n : Nat))) env := by
    have := (r1.new (o := .rng 0 (n : Nat)) np).unset i (some (.ref p))
    have e : env.set i .un = env := by
      have hi := (List.getElem?_eq_some_iff.mp hu)
      obtain ⟨hlt, e⟩ := hi
      rw [← e]; exact List.set_getElem_self hlt
    rw [e] at this
    exact this
  have hlen : i < σ.length := by rw [← r1.len]; exact (List.getElem?_eq_some_iff.mp hu).1
  have le := r2.len
  refine rows_imp r2 upd_same (List.getElem?_set_self hlen) hn d1 d2 d3 (by omega) (by omega) (by omega) fun v H' k5 r5 de5 => ?_
  exact k2 M _ v H' env _ r5 (de5.mk fun a xs _ h z => h (r2.m0 a z)) pq
end
end MT
end

section
set_option maxRecDepth 100000
set_option maxHeartbeats 4000000
namespace MT
open PySem PySem.Spec PyProof.Rows L2
section
variable {X : Cx} {B : Bd} {f : Fl} {e : Expr} {es : List Expr} {m : List Slot → W PyData} {sp : Pos}
/-- *e, e a tuple, in a display -/
def dStar (m : List Slot → W PyData) (mr : List Slot → W (List PyData)) : List Slot → W (List PyData) := fun env P E => m env (fun d => match d with
  | .tuple ds => mr env (fun r => P (ds ++ r)) E
  | _ => False) E
theorem pl_star {mr : List Slot → W (List PyData)} (p : PD X B f e m) (q : PL X B f es mr) (hf : f.sw = true := by rfl) (hs : starEach (.Starred e sp :: es) X.env = (true, eval e X.env) :: starEach es X.env := by rfl) : PL X B f (.Starred e sp :: es) (dStar m mr) :=
  pa_imp (StX.pa_star p q hs) fun σ H Q ⟨C, env, M, P, r, bo, hm, k⟩ => ⟨C, env, M, _, r, bo, hm, fun v H1 d k1 r1 de p1 => by
    cases d with
    | tuple ds =>
      have dd := (denF_mk hf).mp de
      simp only [Den] at dd
      obtain ⟨a, xs, rfl, ht, hz, dl⟩ := dd
      refine ⟨a, xs, rfl, .inl ht.sq, C, env, M, _, r1, bo, p1, fun vs H2 ds2 k2 r2 dl2 p2 => k (xs ++ vs) H2 (ds ++ ds2) (k1.trans k2) r2 ?_ p2⟩
      obtain ⟨kk, mm⟩ := mk_sub (f := f) r1 k2
      exact (dl.kept kk mm.w).app dl2
    | _ => exact p1.elim⟩
end
end MT
end

section
set_option maxRecDepth 100000
/-! the run's equation in three: each of them takes less memory -/
noncomputable section
namespace HandSHeadRun
open PySem PySem.W PySem.Calls PyProof.Rows
theorem map3 {α β γ δ : Type _} {o : Option α} {f : α → β} {g : α → γ} {h : α → δ} {a : β} {b : γ} {c : δ} (h1 : o.map f = some a) (h2 : o.map g = some b) (h3 : o.map h = some c) : o.map (fun s => (f s, g s, h s)) = some (a, b, c) := by
  cases o with
  | none => cases h1
  | some x =>
    simp only [Option.map_some, Option.some.injEq] at h1 h2 h3 ⊢
    rw [h1, h2, h3]
def RunA (r : OpenRow) (M : Nat) (w : World) : Prop :=
  ∀ os : OsState, (endF (stepQ (denQ tabQ) r.prog w) M r.prog w os).map (fun s => looksF r.prog (boot_heap w.params) s.abs) = some true
def RunB (r : OpenRow) (q : Program) (M : Nat) (loose : List PySem.Str) (w : World) : Prop :=
  ∀ os : OsState, (endF (stepQ (denQ tabQ) r.prog w) M r.prog w os).map (fun s => seenQ q loose (importedModules r.prog.main.body) (fun s => xlAt q [] s && recOk r.toRowW.records s) s.abs) = some (openGood q loose)
def RunC (r : OpenRow) (H : Hook) (ob : SharedT → H.α) (M : Nat) (w : World) : Prop :=
  ∀ os : OsState, (endF (stepQ (denQ tabQ) r.prog w) M r.prog w os).map (fun s => ob s) = some (H.val w)
theorem run_of {r : OpenRow} {q : Program} {H : Hook} {ob : SharedT → H.α} {M : Nat} {loose : List PySem.Str} {w : World} (a : RunA r M w) (b : RunB r q M loose w) (c : RunC r H ob M w) : RunEq r q H ob M loose w :=
  fun os => map3 (a os) (b os) (c os)
end HandSHeadRun
end

section
set_option maxHeartbeats 4000000
namespace MF
/-! turns of 0 .. n-1, as lists -/
def ap (l : List Int) (i : Int) : Int := l.getD i.toNat 0
def cmp (a b : List Int) : List Int := b.map (ap a)
def rng (n : Nat) : List Int := (List.range n).map fun i : Nat => (i : Int)
def Rg (n : Nat) (i : Int) : Prop := 0 ≤ i ∧ i < n
structure Pm (n : Nat) (l : List Int) : Prop where
  len : l.length = n
  nd : l.Nodup
  mem : ∀ x ∈ l, Rg n x
def bk (l : List Int) : List Int := (rng l.length).map fun j => ((l.idxOf j : Nat) : Int)
theorem ap_get {l : List Int} {i : Nat} (h : i < l.length) : ap l (i : Int) = l[i] := by
  unfold ap
  rw [Int.toNat_natCast, List.getD_eq_getElem?_getD, List.getElem?_eq_getElem h]; rfl
theorem Rg.nat {n : Nat} {i : Int} (h : Rg n i) : ∃ k : Nat, i = (k : Int) ∧ k < n := ⟨i.toNat, by have := h.1; omega, by have := h.1; have := h.2; omega⟩
theorem Rg.of {n k : Nat} (h : k < n) : Rg n (k : Int) := ⟨by omega, by omega⟩
theorem ext_ap {n : Nat} {a b : List Int} (ha : a.length = n) (hb : b.length = n) (h : ∀ i, Rg n i → ap a i = ap b i) : a = b := by
  refine List.ext_getElem (ha.trans hb.symm) fun i h1 h2 => ?_
  have := h i (Rg.of (by omega))
  rw [ap_get h1, ap_get h2] at this
  exact this
theorem rng_len (n : Nat) : (rng n).length = n := by simp [rng]
theorem ap_rng {n : Nat} {i : Int} (h : Rg n i) : ap (rng n) i = i := by
  obtain ⟨k, rfl, hk⟩ := h.nat
  rw [ap_get (by rw [rng_len]; exact hk)]
  simp [rng]
theorem mem_rng {n : Nat} {x : Int} : x ∈ rng n ↔ Rg n x := by
  unfold rng
  rw [List.mem_map]
  constructor
  · rintro ⟨k, hk, rfl⟩; exact Rg.of (List.mem_range.mp hk)
  · intro h; obtain ⟨k, rfl, hk⟩ := h.nat; exact ⟨k, List.mem_range.mpr hk, rfl⟩
theorem nd_map {α β : Type} {f : α → β} (hf : ∀ a b, f a = f b → a = b) : ∀ {l : List α}, l.Nodup → (l.map f).Nodup
  | [], _ => List.nodup_nil
  | a :: l, h => by
    rw [List.nodup_cons] at h
    rw [List.map_cons, List.nodup_cons]
    refine ⟨fun z => ?_, nd_map hf h.2⟩
    obtain ⟨b, hb, e⟩ := List.mem_map.mp z
    exact h.1 (hf _ _ e ▸ hb)
theorem nd_mapOn {α β : Type} {f : α → β} : ∀ {l : List α}, (∀ a ∈ l, ∀ b ∈ l, f a = f b → a = b) → l.Nodup → (l.map f).Nodup
  | [], _, _ => List.nodup_nil
  | a :: l, hf, h => by
    rw [List.nodup_cons] at h
    rw [List.map_cons, List.nodup_cons]
    refine ⟨fun z => ?_, nd_mapOn (fun a ha b hb => hf a (List.mem_cons_of_mem _ ha) b (List.mem_cons_of_mem _ hb)) h.2⟩
    obtain ⟨b, hb, e⟩ := List.mem_map.mp z
    have := hf b (List.mem_cons_of_mem _ hb) a List.mem_cons_self e
    exact h.1 (this ▸ hb)
theorem nd_rng (n : Nat) : (rng n).Nodup := nd_map (fun a b e => by omega) List.nodup_range
theorem pm_rng (n : Nat) : Pm n (rng n) := ⟨rng_len n, nd_rng n, fun x h => mem_rng.mp h⟩
/-- few ints below n, each once -/
theorem nd_le : ∀ (n : Nat) (l : List Int), l.Nodup → (∀ x ∈ l, Rg n x) → l.length ≤ n
  | 0, l, _, h => by
    cases l with
    | nil => simp
    | cons a l => have := h a List.mem_cons_self; obtain ⟨h1, h2⟩ := this; omega
  | n + 1, l, hn, h => by
    by_cases hm : (n : Int) ∈ l
    · have h1 := List.length_erase_of_mem hm
      have h2 := nd_le n (l.erase n) (hn.erase _) fun x hx => by
        have hx' := List.mem_of_mem_erase hx
        obtain ⟨a, b⟩ := h x hx'
        refine ⟨a, ?_⟩
        have : x ≠ n := fun e => hn.not_mem_erase (e ▸ hx)
        omega
      omega
    · have h2 := nd_le n l hn fun x hx => by
        obtain ⟨a, b⟩ := h x hx
        have : x ≠ n := fun e => hm (e ▸ hx)
        exact ⟨a, by omega⟩
      omega
section
variable {n : Nat} {l a b : List Int}
theorem Pm.ap_mem (h : Pm n l) {i : Int} (hi : Rg n i) : Rg n (ap l i) := by
  obtain ⟨k, rfl, hk⟩ := hi.nat
  have hk' : k < l.length := by rw [h.len]; exact hk
  rw [ap_get hk']
  exact h.mem _ (List.getElem_mem hk')
theorem Pm.inj (h : Pm n l) {i j : Int} (hi : Rg n i) (hj : Rg n j) (e : ap l i = ap l j) : i = j := by
  obtain ⟨k, rfl, hk⟩ := hi.nat
  obtain ⟨m, rfl, hm⟩ := hj.nat
  have hk' : k < l.length := by rw [h.len]; exact hk
  have hm' : m < l.length := by rw [h.len]; exact hm
  rw [ap_get hk', ap_get hm'] at e
  have e1 := h.nd.idxOf_getElem k hk'
  have e2 := h.nd.idxOf_getElem m hm'
  rw [e] at e1
  omega
theorem Pm.surj (h : Pm n l) {j : Int} (hj : Rg n j) : j ∈ l := by
  refine Decidable.byContradiction fun z => ?_
  have := nd_le n (j :: l) (List.nodup_cons.mpr ⟨z, h.nd⟩) fun x hx => by
    rcases List.mem_cons.mp hx with rfl | hx
    · exact hj
    · exact h.mem x hx
  rw [List.length_cons, h.len] at this
  omega
theorem bk_len : (bk l).length = l.length := by simp [bk, rng_len]
theorem ap_bk (h : Pm n l) {j : Int} (hj : Rg n j) : ap (bk l) j = (l.idxOf j : Nat) := by
  obtain ⟨k, rfl, hk⟩ := hj.nat
  rw [ap_get (by rw [bk_len, h.len]; exact hk)]
  simp [bk, rng]
theorem Pm.bk_mem (h : Pm n l) {j : Int} (hj : Rg n j) : Rg n (ap (bk l) j) := by
  rw [ap_bk h hj]
  exact Rg.of (by rw [← h.len]; exact List.idxOf_lt_length_of_mem (h.surj hj))
theorem Pm.ab (h : Pm n l) {j : Int} (hj : Rg n j) : ap l (ap (bk l) j) = j := by
  rw [ap_bk h hj, ap_get (List.idxOf_lt_length_of_mem (h.surj hj))]
  exact List.getElem_idxOf _
theorem Pm.ba (h : Pm n l) {i : Int} (hi : Rg n i) : ap (bk l) (ap l i) = i :=
  h.inj (h.bk_mem (h.ap_mem hi)) hi (h.ab (h.ap_mem hi))
theorem pm_of (hl : l.length = n) (hm : ∀ i, Rg n i → Rg n (ap l i)) (hi : ∀ i j, Rg n i → Rg n j → ap l i = ap l j → i = j) : Pm n l := by
  have e : l = (rng n).map (ap l) := by
    refine List.ext_getElem (by rw [List.length_map, rng_len, hl]) fun k h1 h2 => ?_
    rw [List.getElem_map]
    simp only [rng, List.getElem_map, List.getElem_range]
    rw [ap_get h1]
  refine ⟨hl, ?_, fun x hx => ?_⟩
  · rw [e]
    exact nd_mapOn (fun a ha b hb => hi a b (mem_rng.mp ha) (mem_rng.mp hb)) (nd_rng n)
  · rw [e] at hx
    obtain ⟨i, h1, rfl⟩ := List.mem_map.mp hx
    exact hm i (mem_rng.mp h1)
theorem Pm.bk (h : Pm n l) : Pm n (bk l) := pm_of (bk_len.trans h.len) (fun i hi => h.bk_mem hi) fun i j hi hj e => by
  rw [← h.ab hi, e, h.ab hj]
theorem cmp_len : (cmp a b).length = b.length := by simp [cmp]
theorem ap_cmp (hb : b.length = n) {i : Int} (hi : Rg n i) : ap (cmp a b) i = ap a (ap b i) := by
  obtain ⟨k, rfl, hk⟩ := hi.nat
  rw [ap_get (by rw [cmp_len, hb]; exact hk), ap_get (by rw [hb]; exact hk)]
  simp [cmp]
theorem Pm.cmp (ha : Pm n a) (hb : Pm n b) : Pm n (cmp a b) := pm_of (cmp_len.trans hb.len) (fun i hi => by rw [ap_cmp hb.len hi]; exact ha.ap_mem (hb.ap_mem hi)) fun i j hi hj e => by
  rw [ap_cmp hb.len hi, ap_cmp hb.len hj] at e
  exact hb.inj hi hj (ha.inj (hb.ap_mem hi) (hb.ap_mem hj) e)
theorem cmp_assoc {c : List Int} (hb : b.length = n) (hc : c.length = n) (hm : ∀ i, Rg n i → Rg n (ap c i)) : cmp (cmp a b) c = cmp a (cmp b c) :=
  ext_ap (n := n) (cmp_len.trans hc) ((cmp_len.trans cmp_len).trans hc) fun i hi => by
    rw [ap_cmp hc hi, ap_cmp hb (hm i hi), ap_cmp (cmp_len.trans hc) hi, ap_cmp hc hi]
theorem bk_cmp (ha : Pm n a) (hb : Pm n b) {i : Int} (hi : Rg n i) : ap (MF.bk (MF.cmp a b)) i = ap (MF.bk b) (ap (MF.bk a) i) := by
  have h := ha.cmp hb
  have m := hb.bk_mem (ha.bk_mem hi)
  refine h.inj (h.bk_mem hi) m ?_
  rw [h.ab hi, ap_cmp hb.len m, hb.ab (ha.bk_mem hi), ha.ab hi]
end
end MF
end

section
set_option maxHeartbeats 4000000
namespace MF
/-! rules and their frames -/
def rw_ (r : List (List Int)) (x : Int) : List Int := r.getD x.toNat []
def cyc (r : List (List Int)) (x y : Int) : Int := ap (bk (rw_ r x)) y
structure Rule (n : Nat) (r : List (List Int)) : Prop where
  len : r.length = n
  row : ∀ x, Rg n x → Pm n (rw_ r x)
  fair : ∀ x y z, Rg n x → Rg n y → Rg n z → cyc r (cyc r x y) (cyc r x z) = cyc r (cyc r y x) (cyc r y z)
def stF (r : List (List Int)) (f : List Int) (i : Int) : List Int := cmp f (rw_ r (ap (bk f) i))
section
variable {n : Nat} {r : List (List Int)}
theorem Rule.cy (R : Rule n r) {x y : Int} (hx : Rg n x) (hy : Rg n y) : Rg n (cyc r x y) := (R.row x hx).bk_mem hy
theorem Rule.swap (R : Rule n r) {x y : Int} (hx : Rg n x) (hy : Rg n y) : cmp (rw_ r x) (rw_ r (cyc r x y)) = cmp (rw_ r y) (rw_ r (cyc r y x)) := by
  have px := R.row x hx
  have py := R.row y hy
  have pa := R.row _ (R.cy hx hy)
  have pb := R.row _ (R.cy hy hx)
  refine ext_ap (n := n) (cmp_len.trans pa.len) (cmp_len.trans pb.len) fun w hw => ?_
  have h1 := px.cmp pa
  have h2 := py.cmp pb
  have hz := h1.ap_mem hw
  have e := R.fair x y _ hx hy hz
  have e1 : cyc r (cyc r x y) (cyc r x (ap (cmp (rw_ r x) (rw_ r (cyc r x y))) w)) = w := by
    show ap (bk (rw_ r (cyc r x y))) (ap (bk (rw_ r x)) _) = w
    rw [← bk_cmp px pa hz]
    exact h1.ba hw
  rw [e1] at e
  have e2 : w = ap (bk (cmp (rw_ r y) (rw_ r (cyc r y x)))) (ap (cmp (rw_ r x) (rw_ r (cyc r x y))) w) := by
    rw [bk_cmp py pb hz]; exact e
  have := h2.ab hz
  rw [← e2] at this
  exact this.symm
theorem Rule.st (R : Rule n r) {f : List Int} (hf : Pm n f) {i : Int} (hi : Rg n i) : Pm n (stF r f i) := hf.cmp (R.row _ (hf.bk_mem hi))
theorem Rule.comm (R : Rule n r) {f : List Int} (hf : Pm n f) {i j : Int} (hi : Rg n i) (hj : Rg n j) : stF r (stF r f i) j = stF r (stF r f j) i := by
  have bi := hf.bk_mem hi
  have bj := hf.bk_mem hj
  have e1 : ap (bk (stF r f i)) j = cyc r (ap (bk f) i) (ap (bk f) j) := bk_cmp hf (R.row _ bi) hj
  have e2 : ap (bk (stF r f j)) i = cyc r (ap (bk f) j) (ap (bk f) i) := bk_cmp hf (R.row _ bj) hi
  have q1 := R.row _ (R.cy bi bj)
  have q2 := R.row _ (R.cy bj bi)
  have a1 : stF r (stF r f i) j = cmp f (cmp (rw_ r (ap (bk f) i)) (rw_ r (cyc r (ap (bk f) i) (ap (bk f) j)))) := by
    show cmp (stF r f i) _ = _
    rw [e1]
    exact cmp_assoc (R.row _ bi).len q1.len fun z hz => q1.ap_mem hz
  have a2 : stF r (stF r f j) i = cmp f (cmp (rw_ r (ap (bk f) j)) (rw_ r (cyc r (ap (bk f) j) (ap (bk f) i)))) := by
    show cmp (stF r f j) _ = _
    rw [e2]
    exact cmp_assoc (R.row _ bj).len q2.len fun z hz => q2.ap_mem hz
  rw [a1, a2, R.swap bi bj]
/-- along directions -/
def wlk (r : List (List Int)) (f : List Int) (ds : List Int) : List Int := ds.foldl (stF r) f
def Dirs (n : Nat) (ds : List Int) : Prop := ∀ d ∈ ds, Rg n d
theorem Rule.wk (R : Rule n r) : ∀ {ds : List Int} {f : List Int}, Pm n f → Dirs n ds → Pm n (wlk r f ds)
  | [], f, hf, _ => hf
  | d :: ds, f, hf, h => R.wk (ds := ds) (R.st hf (h d List.mem_cons_self)) fun x hx => h x (List.mem_cons_of_mem _ hx)
theorem Rule.wk_st (R : Rule n r) {i : Int} (hi : Rg n i) : ∀ {ds : List Int} {f : List Int}, Pm n f → Dirs n ds → wlk r (stF r f i) ds = stF r (wlk r f ds) i
  | [], f, hf, _ => rfl
  | d :: ds, f, hf, h => by
    have hd := h d List.mem_cons_self
    show wlk r (stF r (stF r f i) d) ds = stF r (wlk r (stF r f d) ds) i
    rw [R.comm hf hi hd]
    exact R.wk_st hi (R.st hf hd) fun x hx => h x (List.mem_cons_of_mem _ hx)
theorem Rule.wk_wk (R : Rule n r) : ∀ {es : List Int} {ds : List Int} {f : List Int}, Pm n f → Dirs n ds → Dirs n es → wlk r (wlk r f es) ds = wlk r (wlk r f ds) es
  | [], ds, f, hf, h, _ => rfl
  | e :: es, ds, f, hf, h, g => by
    have he := g e List.mem_cons_self
    show wlk r (wlk r (stF r f e) es) ds = wlk r (stF r (wlk r f ds) e) es
    rw [R.wk_wk (R.st hf he) h fun x hx => g x (List.mem_cons_of_mem _ hx), R.wk_st he hf h]
/-- what can be reached -/
def Rch (n : Nat) (r : List (List Int)) (f : List Int) : Prop := ∃ ds, Dirs n ds ∧ f = wlk r (rng n) ds
theorem Rule.rpm (R : Rule n r) {f : List Int} (h : Rch n r f) : Pm n f := by
  obtain ⟨ds, hd, rfl⟩ := h
  exact R.wk (pm_rng n) hd
theorem Rch.id (r : List (List Int)) : Rch n r (rng n) := ⟨[], fun _ h => (nomatch h), rfl⟩
theorem Rch.st {f : List Int} (h : Rch n r f) {i : Int} (hi : Rg n i) : Rch n r (stF r f i) := by
  obtain ⟨ds, hd, rfl⟩ := h
  refine ⟨ds ++ [i], fun x hx => ?_, by simp [wlk]⟩
  rcases List.mem_append.mp hx with hx | hx
  · exact hd x hx
  · rw [List.mem_singleton.mp hx]; exact hi
theorem Rch.wk {f : List Int} (h : Rch n r f) {es : List Int} (he : Dirs n es) : Rch n r (wlk r f es) := by
  obtain ⟨ds, hd, rfl⟩ := h
  refine ⟨ds ++ es, fun x hx => ?_, by simp [wlk]⟩
  exact (List.mem_append.mp hx).elim (hd x) (he x)
/-- a letter: the row behind the frame -/
theorem Rule.lt (R : Rule n r) {f : List Int} (hf : Pm n f) {x : Int} (hx : Rg n x) : stF r f (ap f x) = cmp f (rw_ r x) := by
  unfold stF
  rw [hf.ba hx]
theorem Rule.rlt (R : Rule n r) {f : List Int} (hf : Rch n r f) {x : Int} (hx : Rg n x) : Rch n r (cmp f (rw_ r x)) := by
  rw [← R.lt (R.rpm hf) hx]
  exact hf.st ((R.rpm hf).ap_mem hx)
/-- powers of a turn -/
def pw (l : List Int) (n : Nat) : Nat → List Int
  | 0 => rng n
  | k + 1 => cmp (pw l n k) l
theorem pw_pm {l : List Int} (h : Pm n l) : ∀ k, Pm n (pw l n k)
  | 0 => pm_rng n
  | k + 1 => (pw_pm h k).cmp h
theorem pw_add {l : List Int} (h : Pm n l) (a : Nat) {i : Int} (hi : Rg n i) : ∀ b, ap (pw l n (a + b)) i = ap (pw l n a) (ap (pw l n b) i)
  | 0 => by show ap (pw l n a) i = ap (pw l n a) (ap (rng n) i); rw [ap_rng hi]
  | b + 1 => by
    have hl := h.ap_mem hi
    show ap (cmp (pw l n (a + b)) l) i = ap (pw l n a) (ap (cmp (pw l n b) l) i)
    rw [ap_cmp h.len hi, ap_cmp h.len hi]
    have := pw_add h a (i := ap l i) hl b
    exact this
theorem pw_per {l : List Int} (h : Pm n l) {i : Int} (hi : Rg n i) : ∃ p, 0 < p ∧ p ≤ n ∧ ap (pw l n p) i = i := by
  -- n + 1 images of i
  have hx : ¬ ((List.range (n + 1)).map fun k => ap (pw l n k) i).Nodup := fun nd => by
    have := nd_le n _ nd fun x hx => by
      obtain ⟨k, _, rfl⟩ := List.mem_map.mp hx
      exact (pw_pm h k).ap_mem hi
    rw [List.length_map, List.length_range] at this
    omega
  have hy : ∃ a b : Nat, a < b ∧ b < n + 1 ∧ ap (pw l n a) i = ap (pw l n b) i := by
    refine Classical.byContradiction fun z => hx ?_
    refine List.pairwise_iff_getElem.mpr fun a b ha hb hab e => z ?_
    simp only [List.getElem_map, List.getElem_range] at e
    exact ⟨a, b, hab, by simpa using hb, e⟩
  obtain ⟨a, b, hab, hb, e⟩ := hy
  refine ⟨b - a, by omega, by omega, ?_⟩
  have e2 : b = a + (b - a) := by omega
  rw [e2, pw_add h a hi] at e
  have := (pw_pm h a).inj hi ((pw_pm h (b - a)).ap_mem hi) e
  exact this.symm
theorem pw_mul {l : List Int} (h : Pm n l) {i : Int} (hi : Rg n i) {p : Nat} (e : ap (pw l n p) i = i) : ∀ k, ap (pw l n (p * k)) i = i
  | 0 => ap_rng hi
  | k + 1 => by
    rw [Nat.mul_succ, pw_add h _ hi, e]
    exact pw_mul h hi e k
def fac : Nat → Nat
  | 0 => 1
  | n + 1 => (n + 1) * fac n
theorem fac_dvd : ∀ {n p : Nat}, 0 < p → p ≤ n → ∃ k, fac n = p * k
  | 0, p, h1, h2 => by omega
  | n + 1, p, h1, h2 => by
    by_cases h : p = n + 1
    · subst h; exact ⟨fac n, rfl⟩
    · obtain ⟨k, e⟩ := fac_dvd (n := n) h1 (by omega)
      exact ⟨(n + 1) * k, by show (n + 1) * fac n = _; rw [e, Nat.mul_left_comm]⟩
theorem fac_pos : ∀ n, 0 < fac n
  | 0 => Nat.one_pos
  | n + 1 => Nat.mul_pos (Nat.succ_pos n) (fac_pos n)
theorem pw_fac {l : List Int} (h : Pm n l) : pw l n (fac n) = rng n := by
  refine ext_ap (n := n) (pw_pm h _).len (rng_len n) fun i hi => ?_
  obtain ⟨p, h1, h2, e⟩ := pw_per h hi
  obtain ⟨k, ek⟩ := fac_dvd h1 h2
  rw [ek, ap_rng hi]
  exact pw_mul h hi e k
/-- from the beginning, i first, and back to the beginning -/
theorem Rule.cycle (R : Rule n r) {i : Int} (hi : Rg n i) : ∃ ds, Dirs n ds ∧ wlk r (stF r (rng n) i) ds = rng n := by
  have hp := R.row i hi
  have go : ∀ k, ∃ ds, Dirs n ds ∧ wlk r (stF r (rng n) i) ds = pw (rw_ r i) n (k + 1) := fun k => by
    induction k with
    | zero =>
      refine ⟨[], fun _ h => (nomatch h), ?_⟩
      show stF r (rng n) i = cmp (rng n) (rw_ r i)
      have := R.lt (pm_rng n) hi
      rwa [ap_rng hi] at this
    | succ k ih =>
      obtain ⟨ds, hd, e⟩ := ih
      have hq := pw_pm hp (k + 1)
      refine ⟨ds ++ [ap (pw (rw_ r i) n (k + 1)) i], fun x hx => ?_, ?_⟩
      · rcases List.mem_append.mp hx with hx | hx
        · exact hd x hx
        · rw [List.mem_singleton.mp hx]; exact hq.ap_mem hi
      · have : wlk r (stF r (rng n) i) (ds ++ [ap (pw (rw_ r i) n (k + 1)) i]) = stF r (wlk r (stF r (rng n) i) ds) (ap (pw (rw_ r i) n (k + 1)) i) := by simp [wlk]
        rw [this, e, R.lt hq hi]
        rfl
  obtain ⟨ds, hd, e⟩ := go (fac n - 1)
  refine ⟨ds, hd, ?_⟩
  have hf := fac_pos n
  rw [e, show fac n - 1 + 1 = fac n by omega, pw_fac hp]
theorem Rule.ret (R : Rule n r) {i : Int} (hi : Rg n i) : ∃ ds, Dirs n ds ∧ ∀ f, Rch n r f → wlk r (stF r f i) ds = f := by
  obtain ⟨ds, hd, e⟩ := R.cycle hi
  refine ⟨ds, hd, ?_⟩
  rintro f ⟨es, he, rfl⟩
  have pe := pm_rng n
  rw [← R.wk_st hi pe he, R.wk_wk (R.st pe hi) hd he, e]
theorem Rule.inj (R : Rule n r) {i : Int} (hi : Rg n i) {f g : List Int} (hf : Rch n r f) (hg : Rch n r g) (e : stF r f i = stF r g i) : f = g := by
  obtain ⟨ds, _, h⟩ := R.ret hi
  rw [← h f hf, e, h g hg]
theorem Rule.surj (R : Rule n r) {i : Int} (hi : Rg n i) {f : List Int} (hf : Rch n r f) : ∃ g, Rch n r g ∧ stF r g i = f := by
  obtain ⟨ds, hd, h⟩ := R.ret hi
  exact ⟨wlk r f ds, hf.wk hd, by rw [← R.wk_st hi (R.rpm hf) hd]; exact h f hf⟩
/-- a letter back -/
theorem cmp_rng {l : List Int} (hl : l.length = n) : cmp l (rng n) = l := ext_ap (cmp_len.trans (rng_len n)) hl fun i hi => by rw [ap_cmp (rng_len n) hi, ap_rng hi]
theorem Rule.rbk (R : Rule n r) {f : List Int} (hf : Rch n r f) {x : Int} (hx : Rg n x) : Rch n r (cmp f (bk (rw_ r x))) := by
  have hp := R.row x hx
  have pf := R.rpm hf
  have go : ∀ k, Rch n r (cmp f (pw (rw_ r x) n k)) := fun k => by
    induction k with
    | zero => show Rch n r (cmp f (rng n)); rw [cmp_rng pf.len]; exact hf
    | succ k ih =>
      have := R.rlt ih hx
      rw [cmp_assoc (pw_pm hp k).len hp.len fun i hi => hp.ap_mem hi] at this
      exact this
  have hk := fac_pos n
  have h1 := go (fac n - 1)
  have e : pw (rw_ r x) n (fac n - 1) = bk (rw_ r x) := by
    have q := pw_fac hp
    rw [show fac n = fac n - 1 + 1 by omega] at q
    have q : cmp (pw (rw_ r x) n (fac n - 1)) (rw_ r x) = rng n := q
    refine ext_ap (n := n) (pw_pm hp _).len hp.bk.len fun j hj => ?_
    have b := hp.bk_mem hj
    have q2 : ap (cmp (pw (rw_ r x) n (fac n - 1)) (rw_ r x)) (ap (bk (rw_ r x)) j) = ap (rng n) (ap (bk (rw_ r x)) j) := by rw [q]
    rw [ap_cmp hp.len b, ap_rng b, hp.ab hj] at q2
    exact q2
  rwa [e] at h1
/-- the thing whose letter led here -/
def isB (r : List (List Int)) (h x : Int) : Prop := ap (rw_ r x) h = x
theorem Rule.back (R : Rule n r) {f : List Int} (hf : Rch n r f) {i : Int} (hi : Rg n i) : (∃ x, Rg n x ∧ isB r (ap (bk f) i) x) ∧ ∀ x, Rg n x → isB r (ap (bk f) i) x → Rch n r (cmp f (bk (rw_ r x))) ∧ stF r (cmp f (bk (rw_ r x))) i = f := by
  have pf := R.rpm hf
  constructor
  · obtain ⟨g, hg, e⟩ := R.surj hi hf
    have pg := R.rpm hg
    have hx := pg.bk_mem hi
    have hp := R.row _ hx
    refine ⟨_, hx, ?_⟩
    unfold isB
    have e2 : ap (bk f) i = ap (bk (rw_ r (ap (bk g) i))) (ap (bk g) i) := by
      rw [← e]; exact bk_cmp pg hp hi
    rw [e2, hp.ab hx]
  · intro x hx hb
    have hp := R.row x hx
    refine ⟨R.rbk hf hx, ?_⟩
    unfold stF
    have e1 : ap (bk (cmp f (bk (rw_ r x)))) i = x := by
      rw [bk_cmp pf hp.bk hi]
      have m := pf.bk_mem hi
      -- back of back
      have : ap (bk (bk (rw_ r x))) (ap (bk f) i) = ap (rw_ r x) (ap (bk f) i) := by
        refine hp.bk.inj (hp.bk.bk_mem m) (hp.ap_mem m) ?_
        rw [hp.bk.ab m, hp.ba m]
      rw [this]; exact hb
    rw [e1, cmp_assoc hp.bk.len hp.len fun i hi => hp.ap_mem hi]
    have e2 : cmp (bk (rw_ r x)) (rw_ r x) = rng n := ext_ap (n := n) (cmp_len.trans hp.len) (rng_len n) fun j hj => by rw [ap_cmp hp.len hj, hp.ba hj, ap_rng hj]
    rw [e2, cmp_rng pf.len]
end
end MF
end

section
set_option maxHeartbeats 4000000
namespace MF
/-! steps back, points, other names -/
def bkx (n : Nat) (r : List (List Int)) (h : Int) : Int := ((rng n).filter fun x => decide (ap (rw_ r x) h = x)).headD 0
def bkS (n : Nat) (r : List (List Int)) (f : List Int) (i : Int) : List Int := cmp f (bk (rw_ r (bkx n r (ap (bk f) i))))
def itr (T : List Int → List Int) : Nat → List Int → List Int
  | 0, f => f
  | k + 1, f => T (itr T k f)
def stZ (n : Nat) (r : List (List Int)) (i m : Int) (f : List Int) : List Int := if 0 ≤ m then itr (fun f => stF r f i) m.natAbs f else itr (fun f => bkS n r f i) m.natAbs f
def FT (n : Nat) (r : List (List Int)) (v : List Int) : List Int := (rng n).foldl (fun f i => stZ n r i (ap v i) f) (rng n)
section
variable {n : Nat} {r : List (List Int)}
theorem bkx_ok {h : Int} (hx : ∃ x, Rg n x ∧ isB r h x) : Rg n (bkx n r h) ∧ isB r h (bkx n r h) ∧ ((rng n).filter fun x => decide (ap (rw_ r x) h = x)) ≠ [] := by
  obtain ⟨x, h1, h2⟩ := hx
  have hm : x ∈ (rng n).filter fun x => decide (ap (rw_ r x) h = x) := List.mem_filter.mpr ⟨mem_rng.mpr h1, decide_eq_true h2⟩
  unfold bkx
  cases e : (rng n).filter fun x => decide (ap (rw_ r x) h = x) with
  | nil => rw [e] at hm; cases hm
  | cons y l =>
    have hy : y ∈ (rng n).filter fun x => decide (ap (rw_ r x) h = x) := by rw [e]; exact List.mem_cons_self
    obtain ⟨g1, g2⟩ := List.mem_filter.mp hy
    exact ⟨mem_rng.mp g1, of_decide_eq_true (p := ap (rw_ r y) h = y) g2, by simp⟩
theorem Rule.bks (R : Rule n r) {f : List Int} (hf : Rch n r f) {i : Int} (hi : Rg n i) : Rch n r (bkS n r f i) ∧ stF r (bkS n r f i) i = f := by
  obtain ⟨hx, h⟩ := R.back hf hi
  obtain ⟨h1, h2, _⟩ := bkx_ok hx
  exact h _ h1 h2
/-- what goes along with every step -/
structure Cm (n : Nat) (r : List (List Int)) (T : List Int → List Int) : Prop where
  rch : ∀ f, Rch n r f → Rch n r (T f)
  st : ∀ f, Rch n r f → ∀ j, Rg n j → T (stF r f j) = stF r (T f) j
theorem Rule.cmF (R : Rule n r) {i : Int} (hi : Rg n i) : Cm n r (fun f => stF r f i) := ⟨fun f h => h.st hi, fun f h j hj => R.comm (R.rpm h) hj hi⟩
theorem Rule.cmB (R : Rule n r) {i : Int} (hi : Rg n i) : Cm n r (fun f => bkS n r f i) := by
  refine ⟨fun f h => (R.bks h hi).1, fun f h j hj => ?_⟩
  obtain ⟨g1, g2⟩ := R.bks h hi
  obtain ⟨h1, h2⟩ := R.bks (h.st hj) hi
  refine R.inj hi h1 (g1.st hj) ?_
  rw [h2, R.comm (R.rpm g1) hj hi, g2]
theorem Cm.itr {T : List Int → List Int} (c : Cm n r T) : ∀ k, Cm n r (itr T k)
  | 0 => ⟨fun f h => h, fun f h j hj => rfl⟩
  | k + 1 => ⟨fun f h => c.rch _ ((Cm.itr c k).rch f h), fun f h j hj => by
    show T (MF.itr T k (stF r f j)) = stF r (T (MF.itr T k f)) j
    rw [(Cm.itr c k).st f h j hj, c.st _ ((Cm.itr c k).rch f h) j hj]⟩
theorem Rule.cmZ (R : Rule n r) {i : Int} (hi : Rg n i) (m : Int) : Cm n r (stZ n r i m) := by
  unfold stZ
  by_cases h : 0 ≤ m
  · simp only [if_pos h]; exact (R.cmF hi).itr _
  · simp only [if_neg h]; exact (R.cmB hi).itr _
theorem Cm.wlk {T : List Int → List Int} (c : Cm n r T) : ∀ {ds : List Int} {f : List Int}, Rch n r f → Dirs n ds → T (wlk r f ds) = MF.wlk r (T f) ds
  | [], f, h, _ => rfl
  | d :: ds, f, h, hd => by
    have h1 := hd d List.mem_cons_self
    show T (MF.wlk r (stF r f d) ds) = MF.wlk r (stF r (T f) d) ds
    rw [Cm.wlk c (h.st h1) (fun x hx => hd x (List.mem_cons_of_mem _ hx)), c.st f h d h1]
theorem Rule.cm_comm (R : Rule n r) {T U : List Int → List Int} (c : Cm n r T) (d : Cm n r U) {f : List Int} (hf : Rch n r f) : T (U f) = U (T f) := by
  obtain ⟨ds, hd, rfl⟩ := hf
  have e := Rch.id (n := n) r
  obtain ⟨as, ha, ea⟩ := c.rch _ e
  obtain ⟨bs, hb, eb⟩ := d.rch _ e
  rw [d.wlk e hd, c.wlk e hd, c.wlk (d.rch _ e) hd, d.wlk (c.rch _ e) hd]
  congr 1
  rw [eb, ea, c.wlk e hb, d.wlk e ha, eb, ea]
  exact (R.wk_wk (pm_rng n) hb ha)
theorem fold_rch {T : Int → List Int → List Int} : ∀ {l : List Int} {f : List Int}, (∀ i ∈ l, Cm n r (T i)) → Rch n r f → Rch n r (l.foldl (fun f i => T i f) f)
  | [], f, _, h => h
  | i :: l, f, c, h => fold_rch (l := l) (fun j hj => c j (List.mem_cons_of_mem _ hj)) ((c i List.mem_cons_self).rch f h)
theorem Rule.fold_perm (R : Rule n r) {T : Int → List Int → List Int} {l m : List Int} (p : l.Perm m) : (∀ i ∈ l, Cm n r (T i)) → ∀ f, Rch n r f → l.foldl (fun f i => T i f) f = m.foldl (fun f i => T i f) f := by
  induction p with
  | nil => intro _ f _; rfl
  | cons x p ih => intro c f h; exact ih (fun i hi => c i (List.mem_cons_of_mem _ hi)) _ ((c x List.mem_cons_self).rch f h)
  | swap x y l =>
    intro c f h
    show List.foldl _ (T x (T y f)) l = List.foldl _ (T y (T x f)) l
    rw [R.cm_comm (c x (by simp)) (c y (by simp)) h]
  | trans p q ih1 ih2 => intro c f h; rw [ih1 c f h, ih2 (fun i hi => c i (p.mem_iff.mpr hi)) f h]
/-! other names -/
def cj (p f : List Int) : List Int := cmp (cmp p f) (bk p)
def mv (p v : List Int) : List Int := cmp v (bk p)
structure Ren (n : Nat) (p : List Int) (r s : List (List Int)) : Prop where
  pm : Pm n p
  len : s.length = n
  row : ∀ x, Rg n x → rw_ s (ap p x) = cj p (rw_ r x)
theorem cj_len {p f : List Int} (hp : Pm n p) : (cj p f).length = n := cmp_len.trans hp.bk.len
theorem ap_cj {p f : List Int} (hp : Pm n p) (hf : f.length = n) {i : Int} (hi : Rg n i) : ap (cj p f) (ap p i) = ap p (ap f i) := by
  unfold cj
  rw [ap_cmp hp.bk.len (hp.ap_mem hi), hp.ba hi, ap_cmp hf hi]
theorem cj_pm {p f : List Int} (hp : Pm n p) (hf : Pm n f) : Pm n (cj p f) := (hp.cmp hf).cmp hp.bk
/-- equal if equal behind the names -/
theorem ext_p {p a b : List Int} (hp : Pm n p) (ha : a.length = n) (hb : b.length = n) (h : ∀ i, Rg n i → ap a (ap p i) = ap b (ap p i)) : a = b := ext_ap ha hb fun j hj => by
  have := h _ (hp.bk_mem hj)
  rwa [hp.ab hj] at this
theorem cj_cmp {p f g : List Int} (hp : Pm n p) (hf : f.length = n) (hg : Pm n g) : cmp (cj p f) (cj p g) = cj p (cmp f g) := ext_p hp (cmp_len.trans (cj_len hp)) (cj_len hp) fun i hi => by
  rw [ap_cmp (cj_len hp) (hp.ap_mem hi), ap_cj hp hg.len hi, ap_cj hp hf (hg.ap_mem hi), ap_cj hp (cmp_len.trans hg.len) hi, ap_cmp hg.len hi]
theorem cj_bk {p f : List Int} (hp : Pm n p) (hf : Pm n f) {i : Int} (hi : Rg n i) : ap (bk (cj p f)) (ap p i) = ap p (ap (bk f) i) := by
  have hc := cj_pm hp hf
  have m := hf.bk_mem hi
  refine hc.inj (hc.bk_mem (hp.ap_mem hi)) (hp.ap_mem m) ?_
  rw [hc.ab (hp.ap_mem hi), ap_cj hp hf.len m, hf.ab hi]
theorem cj_bk' {p f : List Int} (hp : Pm n p) (hf : Pm n f) : bk (cj p f) = cj p (bk f) := ext_p hp (cj_pm hp hf).bk.len (cj_len hp) fun i hi => by rw [cj_bk hp hf hi, ap_cj hp hf.bk.len hi]
theorem cj_rng {p : List Int} (hp : Pm n p) : cj p (rng n) = rng n := ext_p hp (cj_len hp) (rng_len n) fun i hi => by rw [ap_cj hp (rng_len n) hi, ap_rng hi, ap_rng (hp.ap_mem hi)]
section
variable {p : List Int} {s : List (List Int)}
theorem Ren.cyc (N : Ren n p r s) (R : Rule n r) {x y : Int} (hx : Rg n x) (hy : Rg n y) : MF.cyc s (ap p x) (ap p y) = ap p (MF.cyc r x y) := by
  unfold MF.cyc
  rw [N.row x hx, cj_bk N.pm (R.row x hx) hy]
theorem Ren.rule (N : Ren n p r s) (R : Rule n r) : Rule n s where
  len := N.len
  row := fun x hx => by
    have := N.row _ (N.pm.bk_mem hx)
    rw [N.pm.ab hx] at this
    rw [this]
    exact cj_pm N.pm (R.row _ (N.pm.bk_mem hx))
  fair := fun x y z hx hy hz => by
    have bx := N.pm.bk_mem hx
    have b_y := N.pm.bk_mem hy
    have bz := N.pm.bk_mem hz
    rw [← N.pm.ab hx, ← N.pm.ab hy, ← N.pm.ab hz, N.cyc R bx b_y, N.cyc R bx bz, N.cyc R b_y bx, N.cyc R b_y bz, N.cyc R (R.cy bx b_y) (R.cy bx bz), N.cyc R (R.cy b_y bx) (R.cy b_y bz), R.fair _ _ _ bx b_y bz]
theorem Ren.st (N : Ren n p r s) (R : Rule n r) {f : List Int} (hf : Pm n f) {i : Int} (hi : Rg n i) : stF s (cj p f) (ap p i) = cj p (stF r f i) := by
  have b := hf.bk_mem hi
  unfold stF
  rw [cj_bk N.pm hf hi, N.row _ b, cj_cmp N.pm hf.len (R.row _ b)]
theorem Ren.rch (N : Ren n p r s) (R : Rule n r) {f : List Int} (hf : Rch n r f) : Rch n s (cj p f) := by
  obtain ⟨ds, hd, rfl⟩ := hf
  have go : ∀ (ds : List Int) (f : List Int), Pm n f → Dirs n ds → Rch n s (cj p f) → Rch n s (cj p (wlk r f ds)) := fun ds => by
    induction ds with
    | nil => intro f _ _ h; exact h
    | cons d ds ih =>
      intro f pf hd h
      have h1 := hd d List.mem_cons_self
      refine ih (stF r f d) (R.st pf h1) (fun x hx => hd x (List.mem_cons_of_mem _ hx)) ?_
      rw [← N.st R pf h1]
      exact h.st (N.pm.ap_mem h1)
  refine go ds _ (pm_rng n) hd ?_
  rw [cj_rng N.pm]
  exact Rch.id s
theorem Ren.bks (N : Ren n p r s) (R : Rule n r) {f : List Int} (hf : Rch n r f) {i : Int} (hi : Rg n i) : bkS n s (cj p f) (ap p i) = cj p (bkS n r f i) := by
  have S := N.rule R
  have hp := N.pm.ap_mem hi
  obtain ⟨h1, h2⟩ := R.bks hf hi
  obtain ⟨g1, g2⟩ := S.bks (N.rch R hf) hp
  refine S.inj hp g1 (N.rch R h1) ?_
  rw [g2, N.st R (R.rpm h1) hi, h2]
theorem Ren.itr (N : Ren n p r s) (R : Rule n r) {T U : List Int → List Int} (c : Cm n r T) (h : ∀ f, Rch n r f → U (cj p f) = cj p (T f)) : ∀ k f, Rch n r f → MF.itr U k (cj p f) = cj p (MF.itr T k f)
  | 0, f, hf => rfl
  | k + 1, f, hf => by
    show U (MF.itr U k (cj p f)) = cj p (T (MF.itr T k f))
    rw [Ren.itr N R c h k f hf, h _ ((c.itr k).rch f hf)]
theorem Ren.stz (N : Ren n p r s) (R : Rule n r) {f : List Int} (hf : Rch n r f) {i : Int} (hi : Rg n i) (m : Int) : stZ n s (ap p i) m (cj p f) = cj p (stZ n r i m f) := by
  unfold stZ
  by_cases h : 0 ≤ m
  · rw [if_pos h, if_pos h]; exact N.itr R (R.cmF hi) (fun f hf => N.st R (R.rpm hf) hi) _ f hf
  · rw [if_neg h, if_neg h]; exact N.itr R (R.cmB hi) (fun f hf => N.bks R hf hi) _ f hf
theorem ap_mv {v : List Int} (hp : Pm n p) {i : Int} (hi : Rg n i) : ap (mv p v) (ap p i) = ap v i := by
  unfold mv
  rw [ap_cmp hp.bk.len (hp.ap_mem hi), hp.ba hi]
theorem map_ap {l : List Int} (hl : l.length = n) : (rng n).map (ap l) = l := by
  have := cmp_rng (n := n) hl
  exact this
theorem Ren.ft (N : Ren n p r s) (R : Rule n r) (v : List Int) : FT n s (mv p v) = cj p (FT n r v) := by
  have S := N.rule R
  have hperm : (rng n).Perm p := (List.perm_ext_iff_of_nodup (nd_rng n) N.pm.nd).mpr fun x => ⟨fun h => N.pm.surj (mem_rng.mp h), fun h => mem_rng.mpr (N.pm.mem x h)⟩
  unfold FT
  rw [S.fold_perm (T := fun i f => stZ n s i (ap (mv p v) i) f) hperm (fun i hi => S.cmZ (mem_rng.mp hi) _) _ (Rch.id s)]
  have go : ∀ (l : List Int) (f : List Int), (∀ i ∈ l, Rg n i) → Rch n r f → (l.map (ap p)).foldl (fun f i => stZ n s i (ap (mv p v) i) f) (cj p f) = cj p (l.foldl (fun f i => stZ n r i (ap v i) f) f) := fun l => by
    induction l with
    | nil => intro f _ _; rfl
    | cons i l ih =>
      intro f h hf
      have hi := h i List.mem_cons_self
      show List.foldl _ (stZ n s (ap p i) (ap (mv p v) (ap p i)) (cj p f)) (l.map (ap p)) = _
      rw [ap_mv N.pm hi, N.stz R hf hi]
      exact ih _ (fun j hj => h j (List.mem_cons_of_mem _ hj)) ((R.cmZ hi _).rch f hf)
  have := go (rng n) (rng n) (fun i hi => mem_rng.mp hi) (Rch.id r)
  rw [map_ap N.pm.len, cj_rng N.pm] at this
  exact this
end
end
end MF
end

section
set_option maxHeartbeats 4000000
namespace MF
/-! words, plain rows, counts -/
def ad (v : List Int) (d m : Int) : List Int := v.set d.toNat (ap v d + m)
structure Ws where
  f : List Int
  v : List Int
  ds : List Int
def wst (r : List (List Int)) (s : Ws) (l : Int) : Ws :=
  let x := (l.natAbs : Int) - 1
  if 0 < l then ⟨cmp s.f (rw_ r x), ad s.v (ap s.f x) 1, s.ds ++ [ap s.f x + 1]⟩
  else ⟨cmp s.f (bk (rw_ r x)), ad s.v (ap s.f (ap (bk (rw_ r x)) x)) (-1), s.ds ++ [-(ap s.f (ap (bk (rw_ r x)) x)) - 1]⟩
def zer (n : Nat) : List Int := List.replicate n 0
def wl (n : Nat) (r : List (List Int)) (w : List Int) : Ws := w.foldl (wst r) ⟨rng n, zer n, []⟩
def Lt (n : Nat) (l : Int) : Prop := l ≠ 0 ∧ -(n : Int) ≤ l ∧ l ≤ n
theorem Lt.rg {n : Nat} {l : Int} (h : Lt n l) : Rg n ((l.natAbs : Int) - 1) := by obtain ⟨h1, h2, h3⟩ := h; exact ⟨by omega, by omega⟩
section
variable {n : Nat} {r : List (List Int)}
theorem ad_len {v : List Int} {d m : Int} : (ad v d m).length = v.length := by simp [ad]
theorem ap_ad {v : List Int} (hv : v.length = n) {d m j : Int} (hd : Rg n d) (hj : Rg n j) : ap (ad v d m) j = if j = d then ap v d + m else ap v j := by
  obtain ⟨a, rfl, ha⟩ := hd.nat
  obtain ⟨b, rfl, hb⟩ := hj.nat
  rw [ap_get (by rw [ad_len, hv]; exact hb)]
  unfold ad
  simp only [Int.toNat_natCast]
  rw [List.getElem_set]
  by_cases e : b = a
  · subst e; simp
  · rw [if_neg (by omega), if_neg (by omega)]
    exact (ap_get (l := v) (by rw [hv]; exact hb)).symm
/-- the walk's state is sound -/
structure Wok (n : Nat) (s : Ws) : Prop where
  f : Pm n s.f
  v : s.v.length = n
theorem Rule.dir (R : Rule n r) {f : List Int} (hf : Pm n f) {x : Int} (hx : Rg n x) : Rg n (ap f x) ∧ Rg n (ap f (ap (bk (rw_ r x)) x)) := ⟨hf.ap_mem hx, hf.ap_mem ((R.row x hx).bk_mem hx)⟩
theorem Rule.wst (R : Rule n r) {s : Ws} (h : Wok n s) {l : Int} (hl : Lt n l) : Wok n (wst r s l) := by
  have hx := hl.rg
  unfold MF.wst
  by_cases c : 0 < l
  · simp only [if_pos c]; exact ⟨h.f.cmp (R.row _ hx), ad_len.trans h.v⟩
  · simp only [if_neg c]; exact ⟨h.f.cmp (R.row _ hx).bk, ad_len.trans h.v⟩
theorem wok0 (n : Nat) : Wok n ⟨rng n, zer n, []⟩ := ⟨pm_rng n, by simp [zer]⟩
/-- other names -/
def ren (p : List Int) (l : Int) : Int := (ap p ((l.natAbs : Int) - 1) + 1) * (if 0 < l then 1 else -1)
theorem Ren.wst {p : List Int} {s : List (List Int)} (N : Ren n p r s) (R : Rule n r) {a b : Ws} (h : Wok n a) (hf : b.f = cj p a.f) (hv : b.v = mv p a.v) {l : Int} (hl : Lt n l) :
    (MF.wst s b (ren p l)).f = cj p (MF.wst r a l).f ∧ (MF.wst s b (ren p l)).v = mv p (MF.wst r a l).v := by
  have hx := hl.rg
  have hpx := N.pm.ap_mem hx
  have hrow := R.row _ hx
  have adm : ∀ {d m : Int}, Rg n d → ad (mv p a.v) (ap p d) m = mv p (ad a.v d m) := fun {d m} hd => ext_p N.pm (ad_len.trans (cmp_len.trans N.pm.bk.len)) (cmp_len.trans N.pm.bk.len) fun i hi => by
    rw [ap_ad (v := mv p a.v) (cmp_len.trans N.pm.bk.len) (N.pm.ap_mem hd) (N.pm.ap_mem hi), ap_mv N.pm hi, ap_mv N.pm hi, ap_mv N.pm hd, ap_ad h.v hd hi]
    by_cases e : i = d
    · rw [e, if_pos rfl, if_pos rfl]
    · rw [if_neg e, if_neg fun z => e (N.pm.inj hi hd z)]
  by_cases c : 0 < l
  · have e1 : ren p l = ap p ((l.natAbs : Int) - 1) + 1 := by unfold ren; rw [if_pos c, Int.mul_one]
    have e2 : ((ren p l).natAbs : Int) - 1 = ap p ((l.natAbs : Int) - 1) := by rw [e1]; have := hpx.1; omega
    have c2 : 0 < ren p l := by rw [e1]; have := hpx.1; omega
    unfold MF.wst
    simp only [if_pos c, if_pos c2, e2, hf, hv]
    rw [N.row _ hx, cj_cmp N.pm h.f.len hrow, ap_cj N.pm h.f.len hx, adm (h.f.ap_mem hx)]
    exact ⟨rfl, rfl⟩
  · have e1 : ren p l = -(ap p ((l.natAbs : Int) - 1) + 1) := by unfold ren; rw [if_neg c, Int.mul_neg, Int.mul_one]
    have e2 : ((ren p l).natAbs : Int) - 1 = ap p ((l.natAbs : Int) - 1) := by rw [e1]; have := hpx.1; omega
    have c2 : ¬ 0 < ren p l := by rw [e1]; have := hpx.1; omega
    have b := hrow.bk_mem hx
    unfold MF.wst
    simp only [if_neg c, if_neg c2, e2, hf, hv]
    rw [N.row _ hx, cj_bk' N.pm hrow, cj_cmp N.pm h.f.len hrow.bk, ap_cj N.pm hrow.bk.len hx, ap_cj N.pm h.f.len b, adm (h.f.ap_mem b)]
    exact ⟨rfl, rfl⟩
theorem Ren.wl {p : List Int} {s : List (List Int)} (N : Ren n p r s) (R : Rule n r) : ∀ (w : List Int) (a b : Ws), (∀ l ∈ w, Lt n l) → Wok n a → b.f = cj p a.f → b.v = mv p a.v →
    ((w.map (ren p)).foldl (MF.wst s) b).v = mv p (w.foldl (MF.wst r) a).v
  | [], a, b, _, _, _, hv => hv
  | l :: w, a, b, hw, h, hf, hv => by
    have hl := hw l List.mem_cons_self
    obtain ⟨g1, g2⟩ := N.wst R h hf hv hl
    exact Ren.wl N R w _ _ (fun x hx => hw x (List.mem_cons_of_mem _ hx)) (R.wst h hl) g1 g2
theorem mv_zer {p : List Int} (hp : Pm n p) : mv p (zer n) = zer n := ext_p hp (cmp_len.trans hp.bk.len) (by simp [zer]) fun i hi => by
  have z : ∀ j, Rg n j → ap (zer n) j = 0 := fun j hj => by
    obtain ⟨k, rfl, hk⟩ := hj.nat
    rw [ap_get (by simp [zer]; exact hk)]; simp [zer]
  rw [ap_mv hp hi, z i hi, z _ (hp.ap_mem hi)]
theorem Ren.point {p : List Int} {s : List (List Int)} (N : Ren n p r s) (R : Rule n r) {w : List Int} (hw : ∀ l ∈ w, Lt n l) : (MF.wl n s (w.map (ren p))).v = mv p (MF.wl n r w).v :=
  N.wl R w _ _ hw (wok0 n) (cj_rng N.pm).symm (mv_zer N.pm).symm
/-! plain rows -/
def prs (r : List (List Int)) (s : List Int × List Int) (x : Int) : List Int × List Int := (cmp s.1 (rw_ r x), s.2 ++ [ap s.1 x])
def pr (r : List (List Int)) (f row : List Int) : List Int := match row with
  | [] => []
  | x :: t => ap f x :: pr r (cmp f (rw_ r x)) t
theorem prs_fold : ∀ (row f acc : List Int), (row.foldl (prs r) (f, acc)).2 = acc ++ pr r f row
  | [], f, acc => by simp [pr]
  | x :: t, f, acc => by
    show (t.foldl (prs r) (cmp f (rw_ r x), acc ++ [ap f x])).2 = _
    rw [prs_fold t]; simp [pr]
def cnt (n : Nat) (l : List Int) : List Int := (rng n).map fun j => ((l.count j : Nat) : Int)
theorem ap_cnt {l : List Int} {j : Int} (hj : Rg n j) : ap (cnt n l) j = (l.count j : Nat) := by
  obtain ⟨k, rfl, hk⟩ := hj.nat
  rw [ap_get (by simp [cnt, rng_len]; exact hk)]
  simp [cnt, rng]
theorem cnt_len {l : List Int} : (cnt n l).length = n := by simp [cnt, rng_len]
/-- letters of a row -/
theorem Rule.row_word (R : Rule n r) : ∀ (row : List Int) (s : Ws) (l : List Int), (∀ x ∈ row, Rg n x) → Pm n s.f → s.v = cnt n l →
    ((row.map (· + 1)).foldl (MF.wst r) s).v = cnt n (l ++ pr r s.f row) ∧ ((row.map (· + 1)).foldl (MF.wst r) s).ds = s.ds ++ (pr r s.f row).map (· + 1)
  | [], s, l, _, _, hv => by simp [pr, hv]
  | x :: t, s, l, h, hf, hv => by
    have hx := h x List.mem_cons_self
    have c : 0 < x + 1 := by have := hx.1; omega
    have e : ((x + 1).natAbs : Int) - 1 = x := by have := hx.1; omega
    have e2 : MF.wst r s (x + 1) = ⟨cmp s.f (rw_ r x), ad s.v (ap s.f x) 1, s.ds ++ [ap s.f x + 1]⟩ := by
      unfold MF.wst
      simp only [if_pos c, e]
    have hd := hf.ap_mem hx
    have hv2 : ad s.v (ap s.f x) 1 = cnt n (l ++ [ap s.f x]) := by
      rw [hv]
      refine ext_ap (n := n) (ad_len.trans cnt_len) cnt_len fun j hj => ?_
      rw [ap_ad cnt_len hd hj, ap_cnt hj, ap_cnt hj, ap_cnt hd, List.count_append]
      by_cases q : j = ap s.f x
      · rw [if_pos q, q]; simp
      · rw [if_neg q, List.count_singleton, if_neg (by simpa using fun z => q z.symm)]; simp
    obtain ⟨g1, g2⟩ := Rule.row_word R t ⟨cmp s.f (rw_ r x), ad s.v (ap s.f x) 1, s.ds ++ [ap s.f x + 1]⟩ (l ++ [ap s.f x]) (fun y hy => h y (List.mem_cons_of_mem _ hy)) (hf.cmp (R.row x hx)) hv2
    show (List.foldl (MF.wst r) (MF.wst r s (x + 1)) (t.map (· + 1))).v = _ ∧ (List.foldl (MF.wst r) (MF.wst r s (x + 1)) (t.map (· + 1))).ds = _
    rw [e2]
    refine ⟨by rw [g1, List.append_assoc]; rfl, by rw [g2, List.append_assoc]; rfl⟩
theorem cnt_nil : zer n = cnt n [] := ext_ap (n := n) (by simp [zer]) cnt_len fun j hj => by
  rw [ap_cnt hj]
  obtain ⟨k, rfl, hk⟩ := hj.nat
  rw [ap_get (by simp [zer]; exact hk)]; simp [zer]
theorem Rule.row_pt (R : Rule n r) {row : List Int} (h : ∀ x ∈ row, Rg n x) : (MF.wl n r (row.map (· + 1))).v = cnt n (pr r (rng n) row) ∧ (MF.wl n r (row.map (· + 1))).ds = (pr r (rng n) row).map (· + 1) := by
  have := R.row_word row ⟨rng n, zer n, []⟩ [] h (pm_rng n) cnt_nil
  simpa [wl] using this
/-- a meeting -/
theorem pr_app : ∀ (a b f : List Int), pr r f (a ++ b) = pr r f a ++ pr r (a.foldl (fun f x => cmp f (rw_ r x)) f) b
  | [], b, f => rfl
  | x :: a, b, f => by
    show ap f x :: pr r _ (a ++ b) = _
    rw [pr_app a b]; rfl
theorem Rule.fold_pm (R : Rule n r) : ∀ (a f : List Int), (∀ x ∈ a, Rg n x) → Pm n f → Pm n (a.foldl (fun f x => cmp f (rw_ r x)) f)
  | [], f, _, h => h
  | x :: a, f, ha, h => R.fold_pm a _ (fun y hy => ha y (List.mem_cons_of_mem _ hy)) (h.cmp (R.row x (ha x List.mem_cons_self)))
def mu (r : List (List Int)) (x y : Int) : Int := ap (rw_ r x) y
def mw (r : List (List Int)) (x y : Int) : Int := cyc r (mu r x y) x
theorem Rule.met (R : Rule n r) {a b : List Int} {x y : Int} (ha : ∀ z ∈ a, Rg n z) (hx : Rg n x) (hy : Rg n y) (j : Int) :
    (pr r (rng n) (a ++ mu r x y :: mw r x y :: b)).count j = (pr r (rng n) (a ++ x :: y :: b)).count j := by
  have hu : Rg n (mu r x y) := (R.row x hx).ap_mem hy
  have hv : Rg n (mw r x y) := R.cy hu hx
  rw [pr_app, pr_app, List.count_append, List.count_append]
  congr 1
  have hF := R.fold_pm a _ ha (pm_rng n)
  generalize hG : a.foldl (fun f x => cmp f (rw_ r x)) (rng n) = f at hF ⊢
  have ey : cyc r x (mu r x y) = y := (R.row x hx).ba hy
  have sw := R.swap hx hu
  rw [ey] at sw
  have px := R.row x hx
  have pu := R.row _ hu
  have py := R.row y hy
  have pv := R.row _ hv
  have e1 : cmp (cmp f (rw_ r (mu r x y))) (rw_ r (mw r x y)) = cmp (cmp f (rw_ r x)) (rw_ r y) := by
    rw [cmp_assoc pu.len pv.len fun i hi => pv.ap_mem hi, cmp_assoc px.len py.len fun i hi => py.ap_mem hi, sw]; rfl
  have e2 : ap (cmp f (rw_ r (mu r x y))) (mw r x y) = ap f x := by
    rw [ap_cmp pu.len hv]; congr 1; exact pu.ab hx
  have e3 : ap (cmp f (rw_ r x)) y = ap f (mu r x y) := ap_cmp px.len hy
  simp only [pr]
  rw [e1, e2, e3]
  rw [List.count_cons, List.count_cons, List.count_cons, List.count_cons]
  omega
end
end MF
end

section
set_option maxHeartbeats 4000000
namespace MF
/-! points as a group over frames -/
section
variable {n : Nat} {r : List (List Int)}
theorem Rule.stb (R : Rule n r) {f : List Int} (hf : Rch n r f) {i : Int} (hi : Rg n i) : bkS n r (stF r f i) i = f := by
  obtain ⟨h1, h2⟩ := R.bks (hf.st hi) hi
  exact R.inj hi h1 hf h2
theorem Rule.zrch (R : Rule n r) {f : List Int} (hf : Rch n r f) {i : Int} (hi : Rg n i) (m : Int) : Rch n r (stZ n r i m f) := (R.cmZ hi m).rch f hf
theorem Rule.z_succ (R : Rule n r) {f : List Int} (hf : Rch n r f) {i : Int} (hi : Rg n i) (m : Int) : stZ n r i (m + 1) f = stF r (stZ n r i m f) i := by
  unfold stZ
  by_cases h : 0 ≤ m
  · rw [if_pos h, if_pos (by omega), show (m + 1).natAbs = m.natAbs + 1 by omega]; rfl
  · rw [if_neg h]
    obtain ⟨k, hk⟩ : ∃ k, m.natAbs = k + 1 := ⟨m.natAbs - 1, by omega⟩
    rw [hk]
    have rk := ((R.cmB hi).itr k).rch f hf
    show _ = stF r (bkS n r (itr (fun f => bkS n r f i) k f) i) i
    rw [(R.bks rk hi).2]
    by_cases g : 0 ≤ m + 1
    · rw [if_pos g]
      have : k = 0 := by omega
      subst this
      rw [show (m + 1).natAbs = 0 by omega]; rfl
    · rw [if_neg g, show (m + 1).natAbs = k by omega]
theorem Rule.z_nat (R : Rule n r) {f : List Int} (hf : Rch n r f) {i : Int} (hi : Rg n i) (m : Int) : ∀ k : Nat, stZ n r i (m + (k : Nat)) f = itr (fun f => stF r f i) k (stZ n r i m f)
  | 0 => by show stZ n r i (m + 0) f = _; rw [Int.add_zero]; rfl
  | k + 1 => by
    rw [show m + ((k + 1 : Nat) : Int) = (m + (k : Nat)) + 1 by omega, R.z_succ hf hi, R.z_nat hf hi m k]; rfl
theorem Rule.itr_inj (R : Rule n r) {i : Int} (hi : Rg n i) : ∀ (k : Nat) {f g : List Int}, Rch n r f → Rch n r g → itr (fun f => stF r f i) k f = itr (fun f => stF r f i) k g → f = g
  | 0, f, g, _, _, e => e
  | k + 1, f, g, hf, hg, e => R.itr_inj hi k hf hg (R.inj hi (((R.cmF hi).itr k).rch f hf) (((R.cmF hi).itr k).rch g hg) e)
theorem z_zero (i : Int) (f : List Int) : stZ n r i 0 f = f := rfl
theorem Rule.z_add (R : Rule n r) {f : List Int} (hf : Rch n r f) {i : Int} (hi : Rg n i) (m j : Int) : stZ n r i (m + j) f = stZ n r i m (stZ n r i j f) := by
  have hj := R.zrch hf hi j
  by_cases h : 0 ≤ m
  · obtain ⟨k, rfl⟩ : ∃ k : Nat, m = (k : Nat) := ⟨m.toNat, by omega⟩
    rw [Int.add_comm, R.z_nat hf hi j k]
    have := R.z_nat hj hi 0 k
    rw [Int.zero_add] at this
    rw [this]; rfl
  · obtain ⟨k, rfl⟩ : ∃ k : Nat, m = -(k : Nat) := ⟨m.natAbs, by omega⟩
    refine R.itr_inj hi k (R.zrch hf hi _) (R.zrch hj hi _) ?_
    rw [← R.z_nat hf hi, ← R.z_nat hj hi, show (-(k : Int) + j) + (k : Nat) = j by omega, show (-(k : Int)) + (k : Nat) = 0 by omega]; rfl
/-- along a point -/
def GT (n : Nat) (r : List (List Int)) (v f : List Int) : List Int := (rng n).foldl (fun f i => stZ n r i (ap v i) f) f
theorem ft_gt (v : List Int) : FT n r v = GT n r v (rng n) := rfl
theorem Rule.gt_rch (R : Rule n r) (v : List Int) {f : List Int} (hf : Rch n r f) : Rch n r (GT n r v f) := fold_rch (fun i hi => R.cmZ (mem_rng.mp hi) _) hf
theorem Rule.ft_rch (R : Rule n r) (v : List Int) : Rch n r (FT n r v) := R.gt_rch v (Rch.id r)
def pl (a b : List Int) : List Int := (rng a.length).map fun i => ap a i + ap b i
theorem pl_len {a b : List Int} : (pl a b).length = a.length := by simp [pl, rng_len]
theorem ap_mr {g : Int → Int} {i : Int} (hi : Rg n i) : ap ((rng n).map g) i = g i := by
  obtain ⟨k, rfl, hk⟩ := hi.nat
  rw [ap_get (by simp [rng_len]; exact hk)]
  simp [rng]
theorem ap_pl {a b : List Int} (ha : a.length = n) {i : Int} (hi : Rg n i) : ap (pl a b) i = ap a i + ap b i := by
  unfold pl
  rw [ha]
  exact ap_mr (g := fun i => ap a i + ap b i) hi
/-- a fold of steps after a step that goes along -/
theorem Rule.fold_cm (R : Rule n r) {U : List Int → List Int} (c : Cm n r U) {T : Int → List Int → List Int} : ∀ (l : List Int) (f : List Int), (∀ i ∈ l, Cm n r (T i)) → Rch n r f → l.foldl (fun f i => T i f) (U f) = U (l.foldl (fun f i => T i f) f)
  | [], f, _, _ => rfl
  | i :: l, f, h, hf => by
    have hi := h i List.mem_cons_self
    show l.foldl _ (T i (U f)) = _
    rw [R.cm_comm hi c hf]
    exact R.fold_cm c l (T i f) (fun j hj => h j (List.mem_cons_of_mem _ hj)) (hi.rch f hf)
theorem Rule.gt_add (R : Rule n r) {a b : List Int} (ha : a.length = n) {f : List Int} (hf : Rch n r f) : GT n r (pl a b) f = GT n r b (GT n r a f) := by
  have go : ∀ (l : List Int) (f : List Int), (∀ i ∈ l, Rg n i) → Rch n r f → l.foldl (fun f i => stZ n r i (ap (pl a b) i) f) f = l.foldl (fun f i => stZ n r i (ap b i) f) (l.foldl (fun f i => stZ n r i (ap a i) f) f) := fun l => by
    induction l with
    | nil => intro f _ _; rfl
    | cons i l ih =>
      intro f h hf
      have hi := h i List.mem_cons_self
      have hl := fun j hj => h j (List.mem_cons_of_mem _ hj)
      show l.foldl _ (stZ n r i (ap (pl a b) i) f) = l.foldl _ (stZ n r i (ap b i) (l.foldl _ (stZ n r i (ap a i) f)))
      have rf := R.zrch hf hi (ap a i)
      rw [ap_pl ha hi, Int.add_comm, R.z_add hf hi, ih _ hl (R.zrch rf hi _)]
      congr 1
      exact R.fold_cm (R.cmZ hi (ap b i)) (T := fun i f => stZ n r i (ap a i) f) l _ (fun j hj => R.cmZ (hl j hj) _) rf
  exact go _ f (fun i hi => mem_rng.mp hi) hf
/-- a frame ahead of all -/
theorem Rule.l_st (R : Rule n r) {f g : List Int} (hf : Pm n f) (hg : Pm n g) {x : Int} (hx : Rg n x) : stF r (cmp f g) (ap f x) = cmp f (stF r g x) := by
  have m := hg.bk_mem hx
  unfold stF
  rw [bk_cmp hf hg (hf.ap_mem hx), hf.ba hx, cmp_assoc hg.len (R.row _ m).len fun i hi => (R.row _ m).ap_mem hi]
theorem Rule.l_wlk (R : Rule n r) {f : List Int} (hf : Pm n f) : ∀ {ds g : List Int}, Pm n g → Dirs n ds → wlk r (cmp f g) (ds.map (ap f)) = cmp f (wlk r g ds)
  | [], g, _, _ => rfl
  | d :: ds, g, hg, hd => by
    have h1 := hd d List.mem_cons_self
    show wlk r (stF r (cmp f g) (ap f d)) (ds.map (ap f)) = cmp f (wlk r (stF r g d) ds)
    rw [R.l_st hf hg h1]
    exact R.l_wlk hf (R.st hg h1) fun x hx => hd x (List.mem_cons_of_mem _ hx)
theorem Rule.l_rch (R : Rule n r) {f g : List Int} (hf : Rch n r f) (hg : Rch n r g) : Rch n r (cmp f g) := by
  have pf := R.rpm hf
  obtain ⟨ds, hd, rfl⟩ := hg
  rw [← R.l_wlk pf (pm_rng n) hd, cmp_rng pf.len]
  refine hf.wk fun x hx => ?_
  obtain ⟨y, hy, rfl⟩ := List.mem_map.mp hx
  exact pf.ap_mem (hd y hy)
theorem Rule.l_bk (R : Rule n r) {f g : List Int} (hf : Rch n r f) (hg : Rch n r g) {x : Int} (hx : Rg n x) : bkS n r (cmp f g) (ap f x) = cmp f (bkS n r g x) := by
  have pf := R.rpm hf
  have hp := pf.ap_mem hx
  obtain ⟨h1, h2⟩ := R.bks hg hx
  obtain ⟨g1, g2⟩ := R.bks (R.l_rch hf hg) hp
  refine R.inj hp g1 (R.l_rch hf h1) ?_
  rw [g2, R.l_st pf (R.rpm h1) hx, h2]
theorem Rule.l_itr (R : Rule n r) {f : List Int} {T U : List Int → List Int} (c : Cm n r T) (h : ∀ g, Rch n r g → U (cmp f g) = cmp f (T g)) : ∀ k g, Rch n r g → itr U k (cmp f g) = cmp f (itr T k g)
  | 0, g, _ => rfl
  | k + 1, g, hg => by
    show U (itr U k (cmp f g)) = cmp f (T (itr T k g))
    rw [R.l_itr c h k g hg, h _ ((c.itr k).rch g hg)]
theorem Rule.l_z (R : Rule n r) {f g : List Int} (hf : Rch n r f) (hg : Rch n r g) {x : Int} (hx : Rg n x) (m : Int) : stZ n r (ap f x) m (cmp f g) = cmp f (stZ n r x m g) := by
  unfold stZ
  by_cases h : 0 ≤ m
  · rw [if_pos h, if_pos h]; exact R.l_itr (R.cmF hx) (fun g hg => R.l_st (R.rpm hf) (R.rpm hg) hx) _ g hg
  · rw [if_neg h, if_neg h]; exact R.l_itr (R.cmB hx) (fun g hg => R.l_bk hf hg hx) _ g hg
theorem Rule.gt_mv (R : Rule n r) {f : List Int} (hf : Rch n r f) (b : List Int) : GT n r (mv f b) f = cmp f (FT n r b) := by
  have pf := R.rpm hf
  have hperm : (rng n).Perm f := (List.perm_ext_iff_of_nodup (nd_rng n) pf.nd).mpr fun x => ⟨fun h => pf.surj (mem_rng.mp h), fun h => mem_rng.mpr (pf.mem x h)⟩
  unfold GT FT
  rw [R.fold_perm (T := fun i f' => stZ n r i (ap (mv f b) i) f') hperm (fun i hi => R.cmZ (mem_rng.mp hi) _) _ hf]
  have go : ∀ (l : List Int) (g : List Int), (∀ i ∈ l, Rg n i) → Rch n r g → (l.map (ap f)).foldl (fun f' i => stZ n r i (ap (mv f b) i) f') (cmp f g) = cmp f (l.foldl (fun f i => stZ n r i (ap b i) f) g) := fun l => by
    induction l with
    | nil => intro g _ _; rfl
    | cons i l ih =>
      intro g h hg
      have hi := h i List.mem_cons_self
      show List.foldl _ (stZ n r (ap f i) (ap (mv f b) (ap f i)) (cmp f g)) (l.map (ap f)) = _
      rw [ap_mv pf hi, R.l_z hf hg hi]
      exact ih _ (fun j hj => h j (List.mem_cons_of_mem _ hj)) ((R.cmZ hi _).rch g hg)
  have := go (rng n) (rng n) (fun i hi => mem_rng.mp hi) (Rch.id r)
  rw [map_ap pf.len, cmp_rng pf.len] at this
  exact this
/-- the product of points -/
def pt (n : Nat) (r : List (List Int)) (a b : List Int) : List Int := pl a (mv (FT n r a) b)
def ngv (v : List Int) : List Int := v.map fun x => -x
def opp (n : Nat) (r : List (List Int)) (a : List Int) : List Int := mv (bk (FT n r a)) (ngv a)
theorem Rule.ft_pm (R : Rule n r) (v : List Int) : Pm n (FT n r v) := R.rpm (R.ft_rch v)
theorem Rule.ft_pt (R : Rule n r) {a b : List Int} (ha : a.length = n) : FT n r (pt n r a b) = cmp (FT n r a) (FT n r b) := by
  show GT n r (pl a (mv (FT n r a) b)) (rng n) = _
  rw [R.gt_add ha (Rch.id r)]
  exact R.gt_mv (R.ft_rch a) b
theorem mv_len {p v : List Int} (hp : Pm n p) : (mv p v).length = n := cmp_len.trans hp.bk.len
theorem ap_mvj {p v : List Int} (hp : Pm n p) {j : Int} (hj : Rg n j) : ap (mv p v) j = ap v (ap (bk p) j) := ap_cmp hp.bk.len hj
theorem ap_ngv {v : List Int} (hv : v.length = n) {i : Int} (hi : Rg n i) : ap (ngv v) i = -ap v i := by
  obtain ⟨k, rfl, hk⟩ := hi.nat
  rw [ap_get (by simp [ngv]; omega), ap_get (by omega)]
  simp [ngv]
theorem ngv_len {v : List Int} : (ngv v).length = v.length := by simp [ngv]
theorem pt_len {a b : List Int} (ha : a.length = n) : (pt n r a b).length = n := pl_len.trans ha
theorem Rule.opp_len (R : Rule n r) (a : List Int) : (opp n r a).length = n := mv_len (R.ft_pm a).bk
theorem ap_pt (R : Rule n r) {a b : List Int} (ha : a.length = n) {i : Int} (hi : Rg n i) : ap (pt n r a b) i = ap a i + ap b (ap (bk (FT n r a)) i) := by
  unfold pt
  rw [ap_pl ha hi, ap_mvj (R.ft_pm a) hi]
theorem Rule.assoc (R : Rule n r) {a b c : List Int} (ha : a.length = n) (hb : b.length = n) : pt n r (pt n r a b) c = pt n r a (pt n r b c) := by
  refine ext_ap (n := n) (pt_len (pt_len ha)) (pt_len ha) fun i hi => ?_
  have h1 := (R.ft_pm a).bk_mem hi
  rw [ap_pt R (pt_len ha) hi, ap_pt R ha hi, ap_pt R ha hi, ap_pt R hb h1, R.ft_pt ha, bk_cmp (R.ft_pm a) (R.ft_pm b) hi]
  omega
theorem ap_zer {i : Int} (hi : Rg n i) : ap (zer n) i = 0 := by
  obtain ⟨k, rfl, hk⟩ := hi.nat
  rw [ap_get (by simp [zer]; exact hk)]; simp [zer]
theorem zlen (n : Nat) : (zer n).length = n := by simp [zer]
theorem ftz : FT n r (zer n) = rng n := by
  have go : ∀ (l : List Int), (∀ i ∈ l, Rg n i) → l.foldl (fun f i => stZ n r i (ap (zer n) i) f) (rng n) = rng n := fun l => by
    induction l with
    | nil => intro _; rfl
    | cons i l ih =>
      intro h
      show List.foldl _ (stZ n r i (ap (zer n) i) (rng n)) l = _
      rw [ap_zer (h i List.mem_cons_self)]
      exact ih fun j hj => h j (List.mem_cons_of_mem _ hj)
  exact go _ fun i hi => mem_rng.mp hi
theorem bk_rng {i : Int} (hi : Rg n i) : ap (bk (rng n)) i = i := by
  have := (pm_rng n).ba hi
  rwa [ap_rng hi] at this
theorem Rule.one_l (R : Rule n r) {a : List Int} (ha : a.length = n) : pt n r (zer n) a = a := ext_ap (n := n) (pt_len (zlen n)) ha fun i hi => by
  rw [ap_pt R (zlen n) hi, ap_zer hi, ftz, bk_rng hi, Int.zero_add]
theorem Rule.one_r (R : Rule n r) {a : List Int} (ha : a.length = n) : pt n r a (zer n) = a := ext_ap (n := n) (pt_len ha) ha fun i hi => by
  rw [ap_pt R ha hi, ap_zer ((R.ft_pm a).bk_mem hi), Int.add_zero]
theorem Rule.inv_r (R : Rule n r) {a : List Int} (ha : a.length = n) : pt n r a (opp n r a) = zer n := ext_ap (n := n) (pt_len ha) (zlen n) fun i hi => by
  have p := R.ft_pm a
  have h1 := p.bk_mem hi
  have e : ap (opp n r a) (ap (bk (FT n r a)) i) = ap (ngv a) i := by
    unfold opp
    exact ap_mv p.bk hi
  rw [ap_pt R ha hi, e, ap_ngv ha hi, ap_zer hi]
  omega
theorem Rule.inv_l (R : Rule n r) {a : List Int} (ha : a.length = n) : pt n r (opp n r a) a = zer n := by
  have hb := R.opp_len a
  have hc := R.opp_len (opp n r a)
  have e1 : pt n r (pt n r (opp n r a) a) (pt n r (opp n r a) (opp n r (opp n r a))) = pt n r (opp n r a) a := by rw [R.inv_r hb, R.one_r (pt_len hb)]
  rw [← e1, R.assoc hb ha, ← R.assoc ha hb, R.inv_r ha, R.one_l hc, R.inv_r hb]
theorem Rule.canc (R : Rule n r) {y z g : List Int} (hy : y.length = n) (hz : z.length = n) (hg : g.length = n) (e : pt n r y g = pt n r z g) : y = z := by
  rw [← R.one_r hy, ← R.one_r hz, ← R.inv_r hg, ← R.assoc hy hg, ← R.assoc hz hg, e]
/-- powers -/
def pwr (n : Nat) (r : List (List Int)) (a : List Int) : Nat → List Int
  | 0 => zer n
  | k + 1 => pt n r (pwr n r a k) a
theorem pwr_len {a : List Int} : ∀ k, (pwr n r a k).length = n
  | 0 => zlen n
  | k + 1 => pt_len (pwr_len k)
theorem Rule.pwr_add (R : Rule n r) {a : List Int} (ha : a.length = n) (j : Nat) : ∀ k, pwr n r a (j + k) = pt n r (pwr n r a j) (pwr n r a k)
  | 0 => (R.one_r (pwr_len j)).symm
  | k + 1 => by
    show pt n r (pwr n r a (j + k)) a = pt n r (pwr n r a j) (pt n r (pwr n r a k) a)
    rw [R.pwr_add ha j k, R.assoc (pwr_len j) (pwr_len k)]
theorem Rule.pwr_one (R : Rule n r) {a : List Int} (ha : a.length = n) : pwr n r a 1 = a := R.one_l ha
theorem Rule.pwr_left (R : Rule n r) {a : List Int} (ha : a.length = n) (k : Nat) : pt n r a (pwr n r a k) = pwr n r a (k + 1) := by
  have := R.pwr_add ha 1 k
  rw [R.pwr_one ha] at this
  rw [← this, Nat.add_comm]
theorem Rule.pwr_mul (R : Rule n r) {a : List Int} (ha : a.length = n) (m : Nat) : ∀ q, pwr n r (pwr n r a m) q = pwr n r a (m * q)
  | 0 => rfl
  | q + 1 => by
    show pt n r (pwr n r (pwr n r a m) q) (pwr n r a m) = _
    rw [R.pwr_mul ha m q, ← R.pwr_add ha, Nat.mul_succ]
theorem Rule.pwr_inv (R : Rule n r) {a b : List Int} (ha : a.length = n) (hb : b.length = n) (e : pt n r b a = zer n) : ∀ k, pt n r (pwr n r b k) (pwr n r a k) = zer n
  | 0 => R.one_l (zlen n)
  | k + 1 => by
    show pt n r (pt n r (pwr n r b k) b) (pwr n r a (k + 1)) = _
    rw [← R.pwr_left ha k, R.assoc (pwr_len k) hb, ← R.assoc hb ha, e, R.one_l (pwr_len k), R.pwr_inv ha hb e k]
theorem Rule.ft_pwr (R : Rule n r) (a : List Int) : ∀ k, FT n r (pwr n r a k) = pw (FT n r a) n k
  | 0 => ftz
  | k + 1 => by
    show FT n r (pt n r (pwr n r a k) a) = cmp (pw (FT n r a) n k) (FT n r a)
    rw [R.ft_pt (pwr_len k), R.ft_pwr a k]
/-- with the frame of nothing: multiples -/
def sml (q : Int) (v : List Int) : List Int := v.map fun x => q * x
theorem sml_len {q : Int} {v : List Int} : (sml q v).length = v.length := by simp [sml]
theorem ap_sml {q : Int} {v : List Int} (hv : v.length = n) {i : Int} (hi : Rg n i) : ap (sml q v) i = q * ap v i := by
  obtain ⟨k, rfl, hk⟩ := hi.nat
  rw [ap_get (by simp [sml]; omega), ap_get (by omega)]
  simp [sml]
theorem pw_rng : ∀ k, pw (rng n) n k = rng n
  | 0 => rfl
  | k + 1 => by show cmp (pw (rng n) n k) (rng n) = _; rw [pw_rng k]; exact cmp_rng (rng_len n)
theorem Rule.pwr_flat (R : Rule n r) {w : List Int} (hw : w.length = n) (hF : FT n r w = rng n) : ∀ q : Nat, pwr n r w q = sml q w ∧ FT n r (pwr n r w q) = rng n := fun q => by
  have e : ∀ q, FT n r (pwr n r w q) = rng n := fun q => by rw [R.ft_pwr, hF, pw_rng]
  refine ⟨?_, e q⟩
  induction q with
  | zero => exact ext_ap (n := n) (zlen n) (sml_len.trans hw) fun i hi => by show ap (zer n) i = _; rw [ap_zer hi, ap_sml hw hi]; simp
  | succ q ih =>
    refine ext_ap (n := n) (pwr_len _) (sml_len.trans hw) fun i hi => ?_
    show ap (pt n r (pwr n r w q) w) i = _
    rw [ap_pt R (pwr_len q) hi, e q, bk_rng hi, ih, ap_sml hw hi, ap_sml hw hi, show ((q + 1 : Nat) : Int) = (q : Int) + 1 by omega, Int.add_mul, Int.one_mul]
theorem pt_flat (R : Rule n r) {w x : List Int} (hw : w.length = n) (hF : FT n r w = rng n) (hx : x.length = n) : pt n r w x = pl w x := ext_ap (n := n) (pt_len hw) (pl_len.trans hw) fun i hi => by rw [ap_pt R hw hi, hF, bk_rng hi, ap_pl hw hi]
theorem Rule.opp_flat (R : Rule n r) {w : List Int} (hw : w.length = n) (hF : FT n r w = rng n) : opp n r w = sml (-1) w ∧ FT n r (opp n r w) = rng n := by
  have e : opp n r w = sml (-1) w := ext_ap (n := n) (R.opp_len w) (sml_len.trans hw) fun i hi => by
    unfold opp
    have hb : ap (bk (bk (FT n r w))) i = i := by
      rw [hF]
      have : bk (rng n) = rng n := ext_ap (n := n) (pm_rng n).bk.len (rng_len n) fun j hj => by rw [bk_rng hj, ap_rng hj]
      rw [this, bk_rng hi]
    rw [ap_mvj (R.ft_pm w).bk hi, hb, ap_ngv hw hi, ap_sml hw hi]
    omega
  refine ⟨e, ?_⟩
  have h := R.ft_pt (b := w) (R.opp_len w)
  rw [R.inv_l hw, ftz, hF, cmp_rng (R.ft_pm _).len] at h
  exact h.symm
/-- powers, ahead and back -/
def zp (n : Nat) (r : List (List Int)) (a : List Int) (k : Int) : List Int := pwr n r (if 0 ≤ k then a else opp n r a) k.natAbs
theorem Rule.great (R : Rule n r) {a : List Int} (ha : a.length = n) {m : Nat} (hm : 0 < m) (hF : FT n r (pwr n r a m) = rng n) (k : Int) : zp n r a k = pl (sml (k / m) (pwr n r a m)) (pwr n r a (k - k / m * m).natAbs) := by
  have hw := pwr_len (n := n) (r := r) (a := a) m
  have hmod : k - k / m * m = k % m := by have := Int.emod_add_mul_ediv k m; rw [Int.mul_comm] at this; omega
  have h0 : 0 ≤ k % m := Int.emod_nonneg _ (by omega)
  rw [hmod]
  obtain ⟨t, ht⟩ : ∃ t : Nat, k % m = (t : Nat) := ⟨(k % m).toNat, by omega⟩
  rw [ht, show ((t : Nat) : Int).natAbs = t by omega]
  have hk : k = (m : Int) * (k / m) + t := by rw [← ht]; exact (Int.mul_ediv_add_emod k m).symm
  generalize hq : k / (m : Int) = q at hk
  unfold zp
  by_cases h : 0 ≤ q
  · obtain ⟨Q, rfl⟩ : ∃ Q : Nat, q = (Q : Nat) := ⟨q.toNat, by omega⟩
    obtain ⟨e1, e2⟩ := R.pwr_flat hw hF Q
    have hk2 : k = ((m * Q + t : Nat) : Int) := by rw [hk]; simp
    rw [hk2, if_pos (by omega), show ((m * Q + t : Nat) : Int).natAbs = m * Q + t by omega, R.pwr_add ha, ← R.pwr_mul ha, pt_flat R (pwr_len Q) e2 (pwr_len t), e1]
  · obtain ⟨Q, rfl⟩ : ∃ Q : Nat, q = -(Q : Nat) := ⟨q.natAbs, by omega⟩
    have ht2 : t < m := by have := Int.emod_lt_of_pos k (show (0 : Int) < m by omega); omega
    have hQ : 1 ≤ Q := by omega
    have hmq : m ≤ m * Q := Nat.le_mul_of_pos_right m hQ
    obtain ⟨K, hK⟩ : ∃ K : Nat, m * Q = t + K := ⟨m * Q - t, by omega⟩
    have hk2 : k = -((K : Nat) : Int) := by
      rw [hk, Int.mul_neg]
      have : (m : Int) * (Q : Int) = (t : Int) + K := by rw [← Int.natCast_mul, hK]; simp
      omega
    have hKp : 0 < K := by omega
    rw [hk2, if_neg (by omega), show (-((K : Nat) : Int)).natAbs = K by omega]
    obtain ⟨o1, o2⟩ := R.opp_flat hw hF
    have how := R.opp_len (pwr n r a m)
    obtain ⟨e1, e2⟩ := R.pwr_flat how o2 Q
    have hx : pl (sml (-(Q : Int)) (pwr n r a m)) (pwr n r a t) = pt n r (pwr n r (opp n r (pwr n r a m)) Q) (pwr n r a t) := by
      rw [pt_flat R (pwr_len Q) e2 (pwr_len t), e1, o1]
      congr 1
      unfold sml
      rw [List.map_map]
      refine List.map_congr_left fun x _ => ?_
      show -(Q : Int) * x = (Q : Int) * (-1 * x)
      rw [Int.neg_mul, Int.neg_mul, Int.one_mul, Int.mul_neg]
    rw [hx]
    have hob := R.opp_len a
    refine R.canc (g := pwr n r a K) (pwr_len K) (pt_len (pwr_len Q)) (pwr_len K) ?_
    rw [R.pwr_inv ha hob (R.inv_l ha) K, R.assoc (pwr_len Q) (pwr_len t), ← R.pwr_add ha, ← hK, ← R.pwr_mul ha]
    exact (R.pwr_inv hw how (R.inv_l hw) Q).symm
/-- no power but of nothing is nothing -/
def mxl (a b : List Int) : List Int := (rng a.length).map fun i => max (ap a i) (ap b i)
theorem mxl_len {a b : List Int} : (mxl a b).length = a.length := by simp [mxl, rng_len]
theorem ap_mxl {a b : List Int} (ha : a.length = n) {i : Int} (hi : Rg n i) : ap (mxl a b) i = max (ap a i) (ap b i) := by
  unfold mxl
  rw [ha]
  exact ap_mr (g := fun i => max (ap a i) (ap b i)) hi
def mxp (n : Nat) (r : List (List Int)) (a : List Int) : Nat → List Int
  | 0 => pwr n r a 0
  | k + 1 => mxl (mxp n r a k) (pwr n r a (k + 1))
theorem mxp_len {a : List Int} : ∀ k, (mxp n r a k).length = n
  | 0 => zlen n
  | k + 1 => mxl_len.trans (mxp_len k)
theorem pt_mxl (R : Rule n r) {a x y : List Int} (ha : a.length = n) (hx : x.length = n) : pt n r a (mxl x y) = mxl (pt n r a x) (pt n r a y) := ext_ap (n := n) (pt_len ha) (mxl_len.trans (pt_len ha)) fun i hi => by
  have h1 := (R.ft_pm a).bk_mem hi
  rw [ap_pt R ha hi, ap_mxl hx h1, ap_mxl (pt_len ha) hi, ap_pt R ha hi, ap_pt R ha hi]
  omega
theorem mxp_ge {a : List Int} {i : Int} (hi : Rg n i) : ∀ k, ap (pwr n r a 0) i ≤ ap (mxp n r a k) i
  | 0 => Int.le_refl _
  | k + 1 => by
    have := mxp_ge (a := a) hi k
    show _ ≤ ap (mxl (mxp n r a k) (pwr n r a (k + 1))) i
    rw [ap_mxl (mxp_len k) hi]
    omega
theorem Rule.mxp_step (R : Rule n r) {a : List Int} (ha : a.length = n) {i : Int} (hi : Rg n i) : ∀ k, max (ap (pwr n r a 0) i) (ap (pt n r a (mxp n r a k)) i) = ap (mxp n r a (k + 1)) i ∧ ap (pwr n r a (k + 1)) i ≤ ap (pt n r a (mxp n r a k)) i
  | 0 => by
    show max _ (ap (pt n r a (pwr n r a 0)) i) = ap (mxl (pwr n r a 0) (pwr n r a 1)) i ∧ _ ≤ ap (pt n r a (pwr n r a 0)) i
    rw [ap_mxl (pwr_len 0) hi, R.pwr_left ha 0]
    exact ⟨rfl, Int.le_refl _⟩
  | k + 1 => by
    obtain ⟨h1, h2⟩ := R.mxp_step ha hi k
    have e : pt n r a (mxp n r a (k + 1)) = mxl (pt n r a (mxp n r a k)) (pwr n r a (k + 1 + 1)) := by
      show pt n r a (mxl _ _) = _
      rw [pt_mxl R ha (mxp_len k), R.pwr_left ha]
    rw [e, ap_mxl (pt_len ha) hi]
    show _ = ap (mxl (mxp n r a (k + 1)) (pwr n r a (k + 1 + 1))) i ∧ _
    rw [ap_mxl (mxp_len (k + 1)) hi, ← h1]
    omega
theorem Rule.free (R : Rule n r) {a : List Int} (ha : a.length = n) {k : Nat} (hk : 0 < k) (e : pwr n r a k = zer n) : a = zer n := by
  obtain ⟨k, rfl⟩ : ∃ j, k = j + 1 := ⟨k - 1, by omega⟩
  have hM := mxp_len (n := n) (r := r) (a := a) k
  have e2 : pt n r a (mxp n r a k) = mxp n r a k := ext_ap (n := n) (pt_len ha) hM fun i hi => by
    obtain ⟨h1, h2⟩ := R.mxp_step ha hi k
    have h3 : ap (mxp n r a (k + 1)) i = max (ap (mxp n r a k) i) (ap (pwr n r a (k + 1)) i) := ap_mxl hM hi
    have h4 := mxp_ge (r := r) (a := a) hi k
    rw [e] at h2 h3
    have h5 : ap (pwr n r a 0) i = ap (zer n) i := rfl
    omega
  refine R.canc (g := mxp n r a k) ha (zlen n) hM ?_
  rw [e2, R.one_l hM]
theorem Rule.zp_free (R : Rule n r) {a : List Int} (ha : a.length = n) {k : Int} (hk : k ≠ 0) (e : zp n r a k = zer n) : a = zer n := by
  unfold zp at e
  by_cases h : 0 ≤ k
  · rw [if_pos h] at e
    exact R.free ha (by omega) e
  · rw [if_neg h] at e
    have := R.free (R.opp_len a) (by omega) e
    have h2 := R.inv_r ha
    rw [this, R.one_r ha] at h2
    exact h2
/-- few turns: steps come back -/
def cod (N : Int) : List Int → Int
  | [] => 0
  | x :: l => x + N * cod N l
theorem cod_rg {N : Nat} : ∀ l : List Int, (∀ x ∈ l, Rg N x) → 0 ≤ cod N l ∧ cod N l < ((N ^ l.length : Nat) : Int)
  | [], _ => by simp [cod]
  | x :: l, h => by
    obtain ⟨h1, h2⟩ := cod_rg l fun y hy => h y (List.mem_cons_of_mem _ hy)
    obtain ⟨g1, g2⟩ := h x List.mem_cons_self
    show 0 ≤ x + N * cod N l ∧ x + N * cod N l < _
    have p1 : 0 ≤ (N : Int) * cod N l := Int.mul_nonneg (by omega) h1
    have p2 : (N : Int) * (cod N l + 1) ≤ (N : Int) * ((N ^ l.length : Nat) : Int) := Int.mul_le_mul_of_nonneg_left (by omega) (by omega)
    rw [Int.mul_add, Int.mul_one] at p2
    rw [List.length_cons, Nat.pow_succ, Nat.mul_comm, Int.natCast_mul]
    exact ⟨by omega, by omega⟩
theorem cod_inj {N : Nat} : ∀ l m : List Int, l.length = m.length → (∀ x ∈ l, Rg N x) → (∀ x ∈ m, Rg N x) → cod N l = cod N m → l = m
  | [], [], _, _, _, _ => rfl
  | [], _ :: _, h, _, _, _ => by simp at h
  | _ :: _, [], h, _, _, _ => by simp at h
  | x :: l, y :: m, h, hl, hm, e => by
    obtain ⟨g1, g2⟩ := hl x List.mem_cons_self
    obtain ⟨k1, k2⟩ := hm y List.mem_cons_self
    have e : x + N * cod N l = y + N * cod N m := e
    have ex : x = y := by
      have a1 : (x + N * cod N l) % N = x := by rw [Int.add_mul_emod_self_left, Int.emod_eq_of_lt g1 g2]
      have a2 : (y + N * cod N m) % N = y := by rw [Int.add_mul_emod_self_left, Int.emod_eq_of_lt k1 k2]
      rw [← a1, e, a2]
    subst ex
    have e2 : (N : Int) * cod N l = N * cod N m := by omega
    have e3 := Int.eq_of_mul_eq_mul_left (by omega) e2
    rw [cod_inj l m (by simpa using h) (fun z hz => hl z (List.mem_cons_of_mem _ hz)) (fun z hz => hm z (List.mem_cons_of_mem _ hz)) e3]
theorem Rule.per (R : Rule n r) {T : List Int → List Int} (c : Cm n r T) (inj : ∀ f g, Rch n r f → Rch n r g → T f = T g → f = g) : ∃ p, 0 < p ∧ p ≤ n ^ n ∧ ∀ f, Rch n r f → itr T p f = f := by
  have e0 := Rch.id (n := n) r
  have rk := fun k => (c.itr k).rch _ e0
  have hx : ¬ ((List.range (n ^ n + 1)).map fun k => cod n (itr T k (rng n))).Nodup := fun nd => by
    have := nd_le (n ^ n) _ nd fun x hx => by
      obtain ⟨k, _, rfl⟩ := List.mem_map.mp hx
      have p := R.rpm (rk k)
      have := cod_rg (N := n) _ p.mem
      rw [p.len] at this
      exact this
    rw [List.length_map, List.length_range] at this
    omega
  have hy : ∃ a b : Nat, a < b ∧ b < n ^ n + 1 ∧ itr T a (rng n) = itr T b (rng n) := by
    refine Classical.byContradiction fun z => hx ?_
    refine List.pairwise_iff_getElem.mpr fun a b ha hb hab e => z ?_
    simp only [List.getElem_map, List.getElem_range] at e
    have pa := R.rpm (rk a)
    have pb := R.rpm (rk b)
    exact ⟨a, b, hab, by simpa using hb, cod_inj _ _ (by rw [pa.len, pb.len]) pa.mem pb.mem e⟩
  obtain ⟨a, b, hab, hb, e⟩ := hy
  have down : ∀ a, itr T a (rng n) = itr T (a + (b - a)) (rng n) → True := fun _ _ => trivial
  have go : ∀ (j d : Nat), itr T j (rng n) = itr T (j + d) (rng n) → rng n = itr T d (rng n) := fun j => by
    induction j with
    | zero => intro d h; rw [Nat.zero_add] at h; exact h
    | succ j ih =>
      intro d h
      refine ih d (inj _ _ (rk j) (rk (j + d)) ?_)
      rw [show j + 1 + d = (j + d) + 1 by omega] at h
      exact h
  have hb2 := go a (b - a) (by rw [show a + (b - a) = b by omega]; exact e)
  refine ⟨b - a, by omega, by omega, fun f hf => ?_⟩
  obtain ⟨ds, hd, rfl⟩ := hf
  rw [(c.itr (b - a)).wlk e0 hd, ← hb2]
end
end MF
end

section
set_option maxHeartbeats 4000000
namespace MF
/-! a period of all frames -/
section
variable {n : Nat} {r : List (List Int)}
def unt (n : Nat) (x : Int) : List Int := (rng n).map fun j => if j = x then 1 else 0
theorem unt_len {x : Int} : (unt n x).length = n := by simp [unt, rng_len]
theorem ap_unt {x i : Int} (hi : Rg n i) : ap (unt n x) i = if i = x then 1 else 0 := ap_mr (g := fun j => if j = x then 1 else 0) hi
theorem ft_unt {x : Int} (hx : Rg n x) (p : Int) : FT n r (sml p (unt n x)) = stZ n r x p (rng n) := by
  have go : ∀ (l : List Int) (f : List Int), (∀ i ∈ l, Rg n i) → l.Nodup → l.foldl (fun f i => stZ n r i (ap (sml p (unt n x)) i) f) f = if x ∈ l then stZ n r x p f else f := fun l => by
    induction l with
    | nil => intro f _ _; rfl
    | cons i l ih =>
      intro f h nd
      have hi := h i List.mem_cons_self
      rw [List.nodup_cons] at nd
      show l.foldl _ (stZ n r i (ap (sml p (unt n x)) i) f) = _
      rw [ih _ (fun j hj => h j (List.mem_cons_of_mem _ hj)) nd.2, ap_sml unt_len hi, ap_unt hi]
      by_cases e : i = x
      · subst e
        rw [if_neg nd.1, if_pos rfl, if_pos List.mem_cons_self, Int.mul_one]
      · rw [if_neg e, Int.mul_zero, z_zero]
        by_cases m : x ∈ l
        · rw [if_pos m, if_pos (List.mem_cons_of_mem _ m)]
        · rw [if_neg m, if_neg]
          intro z
          rcases List.mem_cons.mp z with z | z
          · exact e z.symm
          · exact m z
  have := go (rng n) (rng n) (fun i hi => mem_rng.mp hi) (nd_rng n)
  rw [if_pos (mem_rng.mpr hx)] at this
  exact this
def PerOk (n : Nat) (r : List (List Int)) (p : Int) : Prop := ∀ x, Rg n x → FT n r (sml p (unt n x)) = rng n
theorem Rule.z_fix (R : Rule n r) {x : Int} (hx : Rg n x) {p : Int} (e : stZ n r x p (rng n) = rng n) {f : List Int} (hf : Rch n r f) : stZ n r x p f = f := by
  obtain ⟨ds, hd, rfl⟩ := hf
  rw [(R.cmZ hx p).wlk (Rch.id r) hd, e]
theorem Rule.z_mul (R : Rule n r) {x : Int} (hx : Rg n x) {p : Int} (e : stZ n r x p (rng n) = rng n) {f : List Int} (hf : Rch n r f) : ∀ t : Nat, stZ n r x (p * t) f = f
  | 0 => by show stZ n r x (p * 0) f = f; rw [Int.mul_zero]; rfl
  | t + 1 => by
    rw [show p * ((t + 1 : Nat) : Int) = p * t + p by rw [show ((t + 1 : Nat) : Int) = (t : Int) + 1 by omega, Int.mul_add, Int.mul_one], R.z_add hf hx, R.z_fix hx e hf, R.z_mul hx e hf t]
theorem Rule.z_all (R : Rule n r) {x : Int} (hx : Rg n x) {p : Int} (e : stZ n r x p (rng n) = rng n) {f : List Int} (hf : Rch n r f) (t : Int) : stZ n r x (p * t) f = f := by
  by_cases h : 0 ≤ t
  · obtain ⟨k, rfl⟩ : ∃ k : Nat, t = (k : Nat) := ⟨t.toNat, by omega⟩
    exact R.z_mul hx e hf k
  · obtain ⟨k, rfl⟩ : ∃ k : Nat, t = -(k : Nat) := ⟨t.natAbs, by omega⟩
    have h1 := R.z_mul hx e (R.zrch hf hx (p * -(k : Nat))) k
    rw [← R.z_add hf hx, Int.mul_neg, show p * (k : Int) + -(p * (k : Int)) = 0 by omega, z_zero] at h1
    rw [Int.mul_neg]
    exact h1.symm
theorem Rule.ft_great (R : Rule n r) {p : Int} (hp : PerOk n r p) {v w : List Int} (h : ∀ i, Rg n i → ∃ t, ap w i = ap v i + p * t) : FT n r w = FT n r v := by
  have go : ∀ (l : List Int) (f : List Int), (∀ i ∈ l, Rg n i) → Rch n r f → l.foldl (fun f i => stZ n r i (ap w i) f) f = l.foldl (fun f i => stZ n r i (ap v i) f) f := fun l => by
    induction l with
    | nil => intro f _ _; rfl
    | cons i l ih =>
      intro f hl hf
      have hi := hl i List.mem_cons_self
      obtain ⟨t, e⟩ := h i hi
      have ez := hp i hi
      rw [ft_unt hi] at ez
      show l.foldl _ (stZ n r i (ap w i) f) = l.foldl _ (stZ n r i (ap v i) f)
      rw [e, R.z_add hf hi, R.z_all hi ez hf]
      exact ih _ (fun j hj => hl j (List.mem_cons_of_mem _ hj)) (R.zrch hf hi _)
  exact go _ _ (fun i hi => mem_rng.mp hi) (Rch.id r)
/-- k steps along x from the beginning -/
def fk (n : Nat) (r : List (List Int)) (x : Int) (k : Nat) : List Int := itr (fun f => stF r f x) k (rng n)
def yk (n : Nat) (r : List (List Int)) (x : Int) (k : Nat) : Int := ap (bk (fk n r x k)) x
theorem Rule.fk_rch (R : Rule n r) {x : Int} (hx : Rg n x) (k : Nat) : Rch n r (fk n r x k) := ((R.cmF hx).itr k).rch _ (Rch.id r)
theorem Rule.yk_rg (R : Rule n r) {x : Int} (hx : Rg n x) (k : Nat) : Rg n (yk n r x k) := (R.rpm (R.fk_rch hx k)).bk_mem hx
theorem fk_succ {x : Int} (k : Nat) : fk n r x (k + 1) = cmp (fk n r x k) (rw_ r (yk n r x k)) := rfl
theorem Rule.yk_succ (R : Rule n r) {x : Int} (hx : Rg n x) (k : Nat) : yk n r x (k + 1) = cyc r (yk n r x k) (yk n r x k) := by
  show ap (bk (fk n r x (k + 1))) x = _
  rw [fk_succ, bk_cmp (R.rpm (R.fk_rch hx k)) (R.row _ (R.yk_rg hx k)) hx]
  rfl
theorem Rule.yk_add (R : Rule n r) {x : Int} (hx : Rg n x) {a b : Nat} (e : yk n r x a = yk n r x b) : ∀ k, yk n r x (a + k) = yk n r x (b + k)
  | 0 => e
  | k + 1 => by
    show yk n r x (a + k + 1) = yk n r x (b + k + 1)
    rw [R.yk_succ hx, R.yk_succ hx, R.yk_add hx e k]
theorem Rule.yk_mul (R : Rule n r) {x : Int} (hx : Rg n x) {p : Nat} (e : yk n r x p = yk n r x 0) : ∀ m, yk n r x (p * m) = yk n r x 0
  | 0 => rfl
  | m + 1 => by
    have := R.yk_add hx e (p * m)
    rw [Nat.zero_add] at this
    rw [Nat.mul_succ, Nat.add_comm, this, R.yk_mul hx e m]
theorem Rule.yk_back (R : Rule n r) {x : Int} (hx : Rg n x) {a b : Nat} (hab : a < b) (e : yk n r x a = yk n r x b) : yk n r x (b - a) = yk n r x 0 := by
  obtain ⟨p, p0, _, pp⟩ := R.per (R.cmF hx) fun f g hf hg e => R.inj hx hf hg e
  have ep : yk n r x p = yk n r x 0 := by
    show ap (bk (fk n r x p)) x = _
    have : fk n r x p = rng n := pp _ (Rch.id r)
    rw [this]; rfl
  -- far out
  have ha : a ≤ p * a := Nat.le_mul_of_pos_left a p0
  have h1 := R.yk_add hx e (p * a - a)
  rw [show a + (p * a - a) = p * a by omega, show b + (p * a - a) = p * a + (b - a) by omega, R.yk_mul hx ep a] at h1
  have h2 := R.yk_add hx (R.yk_mul hx ep a) (b - a)
  rw [Nat.zero_add] at h2
  rw [← h2, ← h1]
theorem Rule.yk_per (R : Rule n r) {x : Int} (hx : Rg n x) : ∃ c, 0 < c ∧ c ≤ n ∧ yk n r x c = yk n r x 0 := by
  have hx2 : ¬ ((List.range (n + 1)).map fun k => yk n r x k).Nodup := fun nd => by
    have := nd_le n _ nd fun y hy => by
      obtain ⟨k, _, rfl⟩ := List.mem_map.mp hy
      exact R.yk_rg hx k
    rw [List.length_map, List.length_range] at this
    omega
  have hy : ∃ a b : Nat, a < b ∧ b < n + 1 ∧ yk n r x a = yk n r x b := by
    refine Classical.byContradiction fun z => hx2 ?_
    refine List.pairwise_iff_getElem.mpr fun a b ha hb hab e => z ?_
    simp only [List.getElem_map, List.getElem_range] at e
    exact ⟨a, b, hab, by simpa using hb, e⟩
  obtain ⟨a, b, hab, hb, e⟩ := hy
  exact ⟨b - a, by omega, by omega, R.yk_back hx hab e⟩
theorem yk_zero {x : Int} (hx : Rg n x) : yk n r x 0 = x := bk_rng hx
theorem Rule.yk_from (R : Rule n r) {x z : Int} (hx : Rg n x) (hz : Rg n z) {j : Nat} (e : z = yk n r x j) : ∀ k, yk n r z k = yk n r x (j + k)
  | 0 => by rw [yk_zero hz]; exact e
  | k + 1 => by
    show yk n r z (k + 1) = yk n r x (j + k + 1)
    rw [R.yk_succ hz, R.yk_succ hx, R.yk_from hx hz e k]
theorem Rule.fk_add (R : Rule n r) {x : Int} (hx : Rg n x) {a : Nat} (e : yk n r x a = yk n r x 0) : ∀ k, fk n r x (a + k) = cmp (fk n r x a) (fk n r x k)
  | 0 => by show fk n r x a = cmp (fk n r x a) (rng n); rw [cmp_rng (R.rpm (R.fk_rch hx a)).len]
  | k + 1 => by
    have h := R.yk_add hx e k
    rw [Nat.zero_add] at h
    have hr := R.row _ (R.yk_rg hx k)
    show fk n r x (a + k + 1) = _
    rw [fk_succ, R.fk_add hx e k, h, fk_succ, cmp_assoc (R.rpm (R.fk_rch hx k)).len hr.len fun i hi => hr.ap_mem hi]
theorem Rule.fk_pw (R : Rule n r) {x : Int} (hx : Rg n x) {c : Nat} (e : yk n r x c = yk n r x 0) : ∀ m, fk n r x (c * m) = pw (fk n r x c) n m
  | 0 => rfl
  | m + 1 => by
    rw [Nat.mul_succ, R.fk_add hx (R.yk_mul hx e m), R.fk_pw hx e m]; rfl
theorem pw_12 {l : List Int} (h : Pm n l) (hn : n ≤ 4) (t : Nat) : pw l n (12 * t) = rng n := ext_ap (n := n) (pw_pm h _).len (rng_len n) fun i hi => by
  obtain ⟨p, h1, h2, e⟩ := pw_per h hi
  have : ∃ k, 12 * t = p * k := by
    have : p = 1 ∨ p = 2 ∨ p = 3 ∨ p = 4 := by omega
    rcases this with rfl | rfl | rfl | rfl
    · exact ⟨12 * t, by omega⟩
    · exact ⟨6 * t, by omega⟩
    · exact ⟨4 * t, by omega⟩
    · exact ⟨3 * t, by omega⟩
  obtain ⟨k, ek⟩ := this
  rw [ek, ap_rng hi]
  exact pw_mul h hi e k
theorem Rule.per_c (R : Rule n r) (hn : n ≤ 4) {x : Int} (hx : Rg n x) {c t : Nat} (e : yk n r x c = yk n r x 0) : stZ n r x ((c * (12 * t) : Nat) : Int) (rng n) = rng n := by
  have h1 : stZ n r x ((c * (12 * t) : Nat) : Int) (rng n) = fk n r x (c * (12 * t)) := by
    unfold stZ fk
    rw [if_pos (by omega)]; rfl
  rw [h1, R.fk_pw hx e, pw_12 (R.rpm (R.fk_rch hx c)) hn]
theorem Rule.period (R : Rule n r) (hn : n ≤ 4) : ∃ p : Nat, 0 < p ∧ p < 100 ∧ PerOk n r p := by
  by_cases h : ∀ x, Rg n x → ∃ c, 0 < c ∧ c ≤ 3 ∧ yk n r x c = yk n r x 0
  · refine ⟨72, by decide, by decide, fun x hx => ?_⟩
    rw [ft_unt hx]
    obtain ⟨c, c0, c1, e⟩ := h x hx
    have : c = 1 ∨ c = 2 ∨ c = 3 := by omega
    rcases this with rfl | rfl | rfl
    · exact R.per_c hn hx (t := 6) e
    · exact R.per_c hn hx (t := 3) e
    · exact R.per_c hn hx (t := 2) e
  · have h : ∃ x, Rg n x ∧ ∀ c, 0 < c → c ≤ 3 → yk n r x c ≠ yk n r x 0 := by
      refine Classical.byContradiction fun z => h fun x hx => ?_
      refine Classical.byContradiction fun q => z ⟨x, hx, fun c c0 c1 e => q ⟨c, c0, c1, e⟩⟩
    obtain ⟨x, hx, hc⟩ := h
    have hd : ∀ a b, a < b → b ≤ 3 → yk n r x a ≠ yk n r x b := fun a b hab hb e => hc (b - a) (by omega) (by omega) (R.yk_back hx hab e)
    obtain ⟨c, c0, c1, e4⟩ := R.yk_per hx
    have hc4 : c = 4 := by
      refine Decidable.byContradiction fun z => hc c c0 (by omega) e4
    subst hc4
    have n4 : n = 4 := by omega
    subst n4
    have pm : Pm 4 [yk 4 r x 0, yk 4 r x 1, yk 4 r x 2, yk 4 r x 3] := ⟨rfl, by
      have h01 := hd 0 1 (by decide) (by decide)
      have h02 := hd 0 2 (by decide) (by decide)
      have h03 := hd 0 3 (by decide) (by decide)
      have h12 := hd 1 2 (by decide) (by decide)
      have h13 := hd 1 3 (by decide) (by decide)
      have h23 := hd 2 3 (by decide) (by decide)
      simp [h01, h02, h03, h12, h13, h23], fun z hz => by
      simp only [List.mem_cons, List.not_mem_nil, or_false] at hz
      rcases hz with rfl | rfl | rfl | rfl <;> exact R.yk_rg hx _⟩
    refine ⟨48, by decide, by decide, fun z hz => ?_⟩
    rw [ft_unt hz]
    have hm := pm.surj hz
    have : ∃ j, z = yk 4 r x j := by
      simp only [List.mem_cons, List.not_mem_nil, or_false] at hm
      rcases hm with h | h | h | h
      · exact ⟨0, h⟩
      · exact ⟨1, h⟩
      · exact ⟨2, h⟩
      · exact ⟨3, h⟩
    obtain ⟨j, ej⟩ := this
    refine R.per_c (by decide) hz (c := 4) (t := 1) ?_
    rw [R.yk_from hx hz ej, R.yk_from hx hz ej, Nat.add_comm, R.yk_add hx e4]
    simp
end
end MF
end

section
set_option maxHeartbeats 4000000
namespace MF
/-! words along directions, words from elsewhere, words that are one -/
section
variable {n : Nat} {r : List (List Int)}
theorem Rule.isB_bk (R : Rule n r) {f : List Int} (hf : Pm n f) {i : Int} (hi : Rg n i) {x : Int} (hx : Rg n x) (hb : isB r (ap (bk f) i) x) : ap (bk (cmp f (bk (rw_ r x)))) i = x := by
  have hp := R.row x hx
  rw [bk_cmp hf hp.bk hi]
  have m := hf.bk_mem hi
  have : ap (bk (bk (rw_ r x))) (ap (bk f) i) = ap (rw_ r x) (ap (bk f) i) := by
    refine hp.bk.inj (hp.bk.bk_mem m) (hp.ap_mem m) ?_
    rw [hp.bk.ab m, hp.ba m]
  rw [this]; exact hb
theorem Rule.isB_uniq (R : Rule n r) {f : List Int} (hf : Rch n r f) {i : Int} (hi : Rg n i) {x y : Int} (hx : Rg n x) (hy : Rg n y) (bx : isB r (ap (bk f) i) x) (b_y : isB r (ap (bk f) i) y) : x = y := by
  obtain ⟨_, h⟩ := R.back hf hi
  obtain ⟨x1, x2⟩ := h x hx bx
  obtain ⟨y1, y2⟩ := h y hy b_y
  have e := R.inj hi x1 y1 (x2.trans y2.symm)
  rw [← R.isB_bk (R.rpm hf) hi hx bx, e, R.isB_bk (R.rpm hf) hi hy b_y]
/-- letters along directions -/
structure As where
  f : List Int
  ls : List Int
def ast (n : Nat) (r : List (List Int)) (s : As) (d : Int) : As :=
  let i := (d.natAbs : Int) - 1
  if 0 < d then ⟨stF r s.f i, s.ls ++ [ap (bk s.f) i + 1]⟩
  else ⟨bkS n r s.f i, s.ls ++ [-(bkx n r (ap (bk s.f) i)) - 1]⟩
def alg (n : Nat) (r : List (List Int)) (ds : List Int) : List Int := (ds.foldl (ast n r) ⟨rng n, []⟩).ls
/-- one letter there, one direction back -/
def dirL (r : List (List Int)) (f : List Int) (l : Int) : Int := if 0 < l then ap f ((l.natAbs : Int) - 1) + 1 else -(ap f (ap (bk (rw_ r ((l.natAbs : Int) - 1))) ((l.natAbs : Int) - 1))) - 1
def frL (r : List (List Int)) (f : List Int) (l : Int) : List Int := if 0 < l then cmp f (rw_ r ((l.natAbs : Int) - 1)) else cmp f (bk (rw_ r ((l.natAbs : Int) - 1)))
theorem wst_f (s : Ws) (l : Int) : (MF.wst r s l).f = frL r s.f l := by
  unfold MF.wst frL
  by_cases c : 0 < l
  · simp only [if_pos c]
  · simp only [if_neg c]
theorem wst_ds (s : Ws) (l : Int) : (MF.wst r s l).ds = s.ds ++ [dirL r s.f l] := by
  unfold MF.wst dirL
  by_cases c : 0 < l
  · simp only [if_pos c]
  · simp only [if_neg c]
theorem Rule.frL_rch (R : Rule n r) {f : List Int} (hf : Rch n r f) {l : Int} (hl : Lt n l) : Rch n r (frL r f l) := by
  unfold frL
  by_cases c : 0 < l
  · rw [if_pos c]; exact R.rlt hf hl.rg
  · rw [if_neg c]; exact R.rbk hf hl.rg
theorem Rule.dirL_lt (R : Rule n r) {f : List Int} (hf : Pm n f) {l : Int} (hl : Lt n l) : Lt n (dirL r f l) := by
  have hx := hl.rg
  obtain ⟨h1, h2⟩ := R.dir hf hx
  unfold dirL
  by_cases c : 0 < l
  · rw [if_pos c]; obtain ⟨a, b⟩ := h1; exact ⟨by omega, by omega, by omega⟩
  · rw [if_neg c]; obtain ⟨a, b⟩ := h2; exact ⟨by omega, by omega, by omega⟩
theorem Rule.ast_dir (R : Rule n r) {f ls : List Int} (hf : Rch n r f) {l : Int} (hl : Lt n l) : ast n r ⟨f, ls⟩ (dirL r f l) = ⟨frL r f l, ls ++ [l]⟩ := by
  have pf := R.rpm hf
  have hx := hl.rg
  have hr := R.row _ hx
  obtain ⟨h1, h2⟩ := R.dir pf hx
  unfold dirL frL
  by_cases c : 0 < l
  · rw [if_pos c, if_pos c]
    obtain ⟨a, b⟩ := h1
    have e : ((ap f ((l.natAbs : Int) - 1) + 1).natAbs : Int) - 1 = ap f ((l.natAbs : Int) - 1) := by omega
    unfold ast
    simp only [if_pos (show 0 < ap f ((l.natAbs : Int) - 1) + 1 by omega), e]
    rw [pf.ba hx, R.lt pf hx, show (l.natAbs : Int) - 1 + 1 = l by omega]
  · rw [if_neg c, if_neg c]
    generalize hy : (l.natAbs : Int) - 1 = x at hx hr h1 h2
    have hb := hr.bk_mem hx
    obtain ⟨a, b⟩ := h2
    have e : ((-(ap f (ap (bk (rw_ r x)) x)) - 1).natAbs : Int) - 1 = ap f (ap (bk (rw_ r x)) x) := by omega
    unfold ast
    simp only [if_neg (show ¬ 0 < -(ap f (ap (bk (rw_ r x)) x)) - 1 by omega), e]
    have eb : ap (bk f) (ap f (ap (bk (rw_ r x)) x)) = ap (bk (rw_ r x)) x := pf.ba hb
    have hi : Rg n (ap f (ap (bk (rw_ r x)) x)) := pf.ap_mem hb
    have bx : isB r (ap (bk f) (ap f (ap (bk (rw_ r x)) x))) x := by rw [eb]; exact hr.ab hx
    obtain ⟨k1, k2, _⟩ := bkx_ok ⟨x, hx, bx⟩
    have ex : bkx n r (ap (bk f) (ap f (ap (bk (rw_ r x)) x))) = x := R.isB_uniq hf hi k1 hx k2 bx
    unfold bkS
    rw [ex, show -x - 1 = l by omega]
theorem Rule.alg_dir (R : Rule n r) : ∀ (w : List Int) (s : Ws) (ls : List Int), (∀ l ∈ w, Lt n l) → Rch n r s.f → ∃ ds, (w.foldl (MF.wst r) s).ds = s.ds ++ ds ∧ (ds.foldl (ast n r) ⟨s.f, ls⟩).ls = ls ++ w ∧ ∀ d ∈ ds, Lt n d
  | [], s, ls, _, _ => ⟨[], by simp, by simp, fun _ h => (nomatch h)⟩
  | l :: w, s, ls, hw, hf => by
    have hl := hw l List.mem_cons_self
    have hf2 : Rch n r (MF.wst r s l).f := by rw [wst_f]; exact R.frL_rch hf hl
    obtain ⟨ds, e1, e2, e3⟩ := R.alg_dir w (MF.wst r s l) (ls ++ [l]) (fun x hx => hw x (List.mem_cons_of_mem _ hx)) hf2
    refine ⟨dirL r s.f l :: ds, ?_, ?_, ?_⟩
    · show (w.foldl (MF.wst r) (MF.wst r s l)).ds = _
      rw [e1, wst_ds, List.append_assoc]; rfl
    · show (ds.foldl (ast n r) (ast n r ⟨s.f, ls⟩ (dirL r s.f l))).ls = _
      rw [R.ast_dir hf hl, ← wst_f, e2, List.append_assoc]; rfl
    · intro d hd
      rcases List.mem_cons.mp hd with rfl | hd
      · exact R.dirL_lt (R.rpm hf) hl
      · exact e3 d hd
theorem Rule.there (R : Rule n r) {w : List Int} (hw : ∀ l ∈ w, Lt n l) : alg n r (wl n r w).ds = w ∧ ∀ d ∈ (wl n r w).ds, Lt n d := by
  obtain ⟨ds, e1, e2, e3⟩ := R.alg_dir w ⟨rng n, zer n, []⟩ [] hw (Rch.id r)
  rw [List.nil_append] at e1 e2
  refine ⟨?_, fun d hd => e3 d (by rw [← e1]; exact hd)⟩
  show ((wl n r w).ds.foldl (ast n r) ⟨rng n, []⟩).ls = w
  have : (wl n r w).ds = ds := e1
  rw [this]; exact e2
theorem wl_ds_len : ∀ (w : List Int) (s : Ws), (w.foldl (MF.wst r) s).ds.length = s.ds.length + w.length
  | [], s => rfl
  | l :: w, s => by
    show (w.foldl (MF.wst r) (MF.wst r s l)).ds.length = _
    rw [wl_ds_len w, wst_ds, List.length_append, List.length_cons, List.length_cons, List.length_nil]
    omega
/-- one direction there, one letter back -/
theorem Rule.dir_ast (R : Rule n r) {f ls : List Int} (hf : Rch n r f) {d : Int} (hd : Lt n d) : ∃ l, Lt n l ∧ ast n r ⟨f, ls⟩ d = ⟨frL r f l, ls ++ [l]⟩ ∧ dirL r f l = d := by
  have pf := R.rpm hf
  have hi := hd.rg
  have hb := pf.bk_mem hi
  obtain ⟨d1, d2, d3⟩ := hd
  unfold ast
  by_cases c : 0 < d
  · simp only [if_pos c]
    generalize hy : (d.natAbs : Int) - 1 = i at hi hb
    obtain ⟨a, b⟩ := hb
    refine ⟨ap (bk f) i + 1, ⟨by omega, by omega, by omega⟩, ?_, ?_⟩
    · unfold frL stF
      rw [if_pos (by omega), show (((ap (bk f) i + 1).natAbs : Nat) : Int) - 1 = ap (bk f) i by omega]
    · unfold dirL
      rw [if_pos (by omega), show (((ap (bk f) i + 1).natAbs : Nat) : Int) - 1 = ap (bk f) i by omega, pf.ab hi]
      omega
  · simp only [if_neg c]
    generalize hy : (d.natAbs : Int) - 1 = i at hi hb
    obtain ⟨hx, _⟩ := R.back hf hi
    obtain ⟨g1, g2, _⟩ := bkx_ok hx
    unfold bkS
    generalize hx2 : bkx n r (ap (bk f) i) = x at g1 g2
    obtain ⟨a, b⟩ := g1
    have hr := R.row x ⟨a, b⟩
    have e : (((-x - 1).natAbs : Nat) : Int) - 1 = x := by omega
    have eb : ap (bk (rw_ r x)) x = ap (bk f) i := by
      have g2 : ap (rw_ r x) (ap (bk f) i) = x := g2
      have := hr.ba hb
      rwa [g2] at this
    refine ⟨-x - 1, ⟨by omega, by omega, by omega⟩, ?_, ?_⟩
    · unfold frL
      rw [if_neg (by omega), e]
    · unfold dirL
      rw [if_neg (by omega), e, eb, pf.ab hi]
      omega
theorem Rule.back_alg (R : Rule n r) : ∀ (ds : List Int) (s : Ws) (ls : List Int), (∀ d ∈ ds, Lt n d) → Rch n r s.f → ∃ w, (ds.foldl (ast n r) ⟨s.f, ls⟩).ls = ls ++ w ∧ (w.foldl (MF.wst r) s).ds = s.ds ++ ds ∧ (∀ l ∈ w, Lt n l) ∧ w.length = ds.length
  | [], s, ls, _, _ => ⟨[], by simp, by simp, fun _ h => (nomatch h), rfl⟩
  | d :: ds, s, ls, hd, hf => by
    obtain ⟨l, hl, e1, e2⟩ := R.dir_ast (ls := ls) hf (hd d List.mem_cons_self)
    have hf2 : Rch n r (MF.wst r s l).f := by rw [wst_f]; exact R.frL_rch hf hl
    obtain ⟨w, k1, k2, k3, k4⟩ := R.back_alg ds (MF.wst r s l) (ls ++ [l]) (fun x hx => hd x (List.mem_cons_of_mem _ hx)) hf2
    refine ⟨l :: w, ?_, ?_, ?_, by simp [k4]⟩
    · show (ds.foldl (ast n r) (ast n r ⟨s.f, ls⟩ d)).ls = _
      rw [e1, ← wst_f, k1, List.append_assoc]; rfl
    · show (w.foldl (MF.wst r) (MF.wst r s l)).ds = _
      rw [k2, wst_ds, e2, List.append_assoc]; rfl
    · intro x hx
      rcases List.mem_cons.mp hx with rfl | hx
      · exact hl
      · exact k3 x hx
theorem Rule.here (R : Rule n r) {ds : List Int} (hd : ∀ d ∈ ds, Lt n d) : (wl n r (alg n r ds)).ds = ds ∧ (∀ l ∈ alg n r ds, Lt n l) ∧ (alg n r ds).length = ds.length := by
  obtain ⟨w, k1, k2, k3, k4⟩ := R.back_alg ds ⟨rng n, zer n, []⟩ [] hd (Rch.id r)
  rw [List.nil_append] at k1 k2
  have e : alg n r ds = w := k1
  rw [e]
  exact ⟨k2, k3, k4⟩
/-- from elsewhere -/
theorem Rule.wst_from (R : Rule n r) {a f : List Int} (ha : a.length = n) (hf : Pm n f) {s t : Ws} (hs : Wok n s) (e1 : t.f = cmp f s.f) (e2 : t.v = pl a (mv f s.v)) {l : Int} (hl : Lt n l) : (MF.wst r t l).f = cmp f (MF.wst r s l).f ∧ (MF.wst r t l).v = pl a (mv f (MF.wst r s l).v) := by
  have hx := hl.rg
  have hr := R.row _ hx
  have adv : ∀ {d m : Int}, Rg n d → ad (pl a (mv f s.v)) (ap f d) m = pl a (mv f (ad s.v d m)) := fun {d m} hd => ext_ap (n := n) (ad_len.trans (pl_len.trans ha)) (pl_len.trans ha) fun j hj => by
    have hb := hf.bk_mem hj
    rw [ap_ad (pl_len.trans ha) (hf.ap_mem hd) hj, ap_pl ha hj, ap_pl ha hj, ap_pl ha (hf.ap_mem hd), ap_mvj hf hj, ap_mvj hf hj, ap_mvj hf (hf.ap_mem hd), hf.ba hd, ap_ad hs.v hd hb]
    by_cases e : j = ap f d
    · rw [if_pos e, if_pos (by rw [e, hf.ba hd]), e]; omega
    · rw [if_neg e, if_neg (fun z => e (by rw [← z, hf.ab hj]))]
  unfold MF.wst
  by_cases c : 0 < l
  · simp only [if_pos c, e1, e2]
    rw [cmp_assoc hs.f.len hr.len fun i hi => hr.ap_mem hi, ap_cmp hs.f.len hx, adv (hs.f.ap_mem hx)]
    exact ⟨rfl, rfl⟩
  · have hb := hr.bk_mem hx
    simp only [if_neg c, e1, e2]
    rw [cmp_assoc hs.f.len hr.bk.len fun i hi => hr.bk.ap_mem hi, ap_cmp hs.f.len hb, adv (hs.f.ap_mem hb)]
    exact ⟨rfl, rfl⟩
theorem Rule.fold_from (R : Rule n r) {a f : List Int} (ha : a.length = n) (hf : Pm n f) : ∀ (w : List Int) {s t : Ws}, Wok n s → t.f = cmp f s.f → t.v = pl a (mv f s.v) → (∀ l ∈ w, Lt n l) → (w.foldl (MF.wst r) t).v = pl a (mv f (w.foldl (MF.wst r) s).v)
  | [], s, t, _, _, e2, _ => e2
  | l :: w, s, t, hs, e1, e2, hw => by
    have hl := hw l List.mem_cons_self
    obtain ⟨g1, g2⟩ := R.wst_from ha hf hs e1 e2 hl
    exact R.fold_from ha hf w (R.wst hs hl) g1 g2 fun x hx => hw x (List.mem_cons_of_mem _ hx)
theorem Rule.led (R : Rule n r) {a : List Int} (ha : a.length = n) {w : List Int} (hw : ∀ l ∈ w, Lt n l) : (w.foldl (MF.wst r) ⟨FT n r a, a, []⟩).v = pt n r a (wl n r w).v := by
  have pf := R.ft_pm a
  refine R.fold_from ha pf w (wok0 n) (cmp_rng pf.len).symm ?_ hw
  refine ext_ap (n := n) ha (pl_len.trans ha) fun i hi => ?_
  show ap a i = ap (pl a (mv (FT n r a) (zer n))) i
  rw [ap_pl ha hi, ap_mvj pf hi, ap_zer (pf.bk_mem hi), Int.add_zero]
/-- the same from the same -/
theorem fold_v : ∀ (w : List Int) {s t : Ws}, s.f = t.f → s.v = t.v → (w.foldl (MF.wst r) s).v = (w.foldl (MF.wst r) t).v
  | [], s, t, _, e => e
  | l :: w, s, t, e1, e2 => by
    refine fold_v w (s := MF.wst r s l) (t := MF.wst r t l) (by rw [wst_f, wst_f, e1]) ?_
    unfold MF.wst
    by_cases c : 0 < l
    · simp only [if_pos c, e1, e2]
    · simp only [if_neg c, e1, e2]
theorem Rule.wok_fold (R : Rule n r) : ∀ (w : List Int) {s : Ws}, (∀ l ∈ w, Lt n l) → Wok n s → Wok n (w.foldl (MF.wst r) s)
  | [], s, _, h => h
  | l :: w, s, hw, h => R.wok_fold w (fun x hx => hw x (List.mem_cons_of_mem _ hx)) (R.wst h (hw l List.mem_cons_self))
theorem ad_ad {v : List Int} (hv : v.length = n) {d : Int} (hd : Rg n d) : ad (ad v d 1) d (-1) = v := ext_ap (n := n) (ad_len.trans (ad_len.trans hv)) hv fun j hj => by
  rw [ap_ad (ad_len.trans hv) hd hj, ap_ad hv hd hd, ap_ad hv hd hj, if_pos rfl]
  by_cases e : j = d
  · subst e; rw [if_pos rfl]; omega
  · rw [if_neg e, if_neg e]
theorem ad_comm {v : List Int} (hv : v.length = n) {d e : Int} (hd : Rg n d) (he : Rg n e) : ad (ad v d 1) e 1 = ad (ad v e 1) d 1 := ext_ap (n := n) (ad_len.trans (ad_len.trans hv)) (ad_len.trans (ad_len.trans hv)) fun j hj => by
  rw [ap_ad (ad_len.trans hv) he hj, ap_ad hv hd he, ap_ad hv hd hj, ap_ad (ad_len.trans hv) hd hj, ap_ad hv he hd, ap_ad hv he hj]
  by_cases e1 : j = d <;> by_cases e2 : j = e
  · subst e1; subst e2; simp
  · subst e1; rw [if_neg e2, if_pos rfl, if_pos rfl, if_neg e2]
  · subst e2; rw [if_pos rfl, if_neg e1, if_neg e1, if_pos rfl]
  · rw [if_neg e2, if_neg e1, if_neg e1, if_neg e2]
theorem Rule.pair (R : Rule n r) {w u : List Int} (hw : ∀ l ∈ w, Lt n l) {x : Int} (hx : Rg n x) : (wl n r (w ++ (x + 1) :: -(x + 1) :: u)).v = (wl n r (w ++ u)).v := by
  unfold wl
  rw [List.foldl_append, List.foldl_append]
  have ok := R.wok_fold w hw (wok0 n)
  generalize List.foldl (MF.wst r) ⟨rng n, zer n, []⟩ w = s at ok
  obtain ⟨a, b⟩ := hx
  have hx : Rg n x := ⟨a, b⟩
  have hr := R.row x hx
  have e1 : ((x + 1).natAbs : Int) - 1 = x := by omega
  have e2 : ((-(x + 1)).natAbs : Int) - 1 = x := by omega
  have hb := hr.bk_mem hx
  show (u.foldl (MF.wst r) (MF.wst r (MF.wst r s (x + 1)) (-(x + 1)))).v = _
  refine fold_v u ?_ ?_
  · rw [wst_f, wst_f]
    unfold frL
    rw [if_pos (show 0 < x + 1 by omega), if_neg (show ¬ 0 < -(x + 1) by omega), e1, e2, cmp_assoc hr.len hr.bk.len fun i hi => hr.bk.ap_mem hi]
    have : cmp (rw_ r x) (bk (rw_ r x)) = rng n := ext_ap (n := n) (cmp_len.trans hr.bk.len) (rng_len n) fun j hj => by rw [ap_cmp hr.bk.len hj, hr.ab hj, ap_rng hj]
    rw [this, cmp_rng ok.f.len]
  · unfold MF.wst
    simp only [if_pos (show 0 < x + 1 by omega), if_neg (show ¬ 0 < -(x + 1) by omega), e1, e2]
    rw [ap_cmp hr.len hb, hr.ab hx]
    exact ad_ad ok.v (ok.f.ap_mem hx)
theorem Rule.metw (R : Rule n r) {w u : List Int} (hw : ∀ l ∈ w, Lt n l) {x y : Int} (hx : Rg n x) (hy : Rg n y) : (wl n r (w ++ (mu r x y + 1) :: (mw r x y + 1) :: u)).v = (wl n r (w ++ (x + 1) :: (y + 1) :: u)).v := by
  unfold wl
  rw [List.foldl_append, List.foldl_append]
  have ok := R.wok_fold w hw (wok0 n)
  generalize List.foldl (MF.wst r) ⟨rng n, zer n, []⟩ w = s at ok
  have hu : Rg n (mu r x y) := (R.row x hx).ap_mem hy
  have hv : Rg n (mw r x y) := R.cy hu hx
  have px := R.row x hx
  have pu := R.row _ hu
  have py := R.row y hy
  have pv := R.row _ hv
  have e : ∀ {z : Int}, Rg n z → ((z + 1).natAbs : Int) - 1 = z := fun {z} hz => by have := hz.1; omega
  have c : ∀ {z : Int}, Rg n z → 0 < z + 1 := fun {z} hz => by have := hz.1; omega
  have ey : cyc r x (mu r x y) = y := px.ba hy
  have sw := R.swap hx hu
  rw [ey] at sw
  show (u.foldl (MF.wst r) (MF.wst r (MF.wst r s (mu r x y + 1)) (mw r x y + 1))).v = (u.foldl (MF.wst r) (MF.wst r (MF.wst r s (x + 1)) (y + 1))).v
  refine fold_v u ?_ ?_
  · rw [wst_f, wst_f, wst_f, wst_f]
    unfold frL
    rw [if_pos (c hu), if_pos (c hv), if_pos (c hx), if_pos (c hy), e hu, e hv, e hx, e hy]
    rw [cmp_assoc pu.len pv.len fun i hi => pv.ap_mem hi, cmp_assoc px.len py.len fun i hi => py.ap_mem hi, sw]; rfl
  · unfold MF.wst
    simp only [if_pos (c hu), if_pos (c hv), if_pos (c hx), if_pos (c hy), e hu, e hv, e hx, e hy]
    have a1 : ap (cmp s.f (rw_ r (mu r x y))) (mw r x y) = ap s.f x := by
      rw [ap_cmp pu.len hv]; congr 1; exact pu.ab hx
    have a2 : ap (cmp s.f (rw_ r x)) y = ap s.f (mu r x y) := ap_cmp px.len hy
    rw [a1, a2]
    exact ad_comm ok.v (ok.f.ap_mem hu) (ok.f.ap_mem hx)
end
end MF
end

section
set_option maxHeartbeats 4000000
namespace MF
/-! words as a group, the told word of a point -/
section
variable {n : Nat} {r : List (List Int)}
abbrev ws0 (n : Nat) : Ws := ⟨rng n, zer n, []⟩
theorem ad_unt {d m : Int} (hd : Rg n d) : ad (zer n) d m = sml m (unt n d) := ext_ap (n := n) (ad_len.trans (zlen n)) (sml_len.trans unt_len) fun j hj => by
  rw [ap_ad (zlen n) hd hj, ap_sml unt_len hj, ap_unt hj, ap_zer hd, ap_zer hj]
  by_cases e : j = d
  · rw [if_pos e, if_pos e]; omega
  · rw [if_neg e, if_neg e]; omega
theorem z_one {x : Int} {f : List Int} : stZ n r x 1 f = stF r f x := by
  unfold stZ
  rw [if_pos (by decide)]; rfl
theorem z_mone {x : Int} {f : List Int} : stZ n r x (-1) f = bkS n r f x := by
  unfold stZ
  rw [if_neg (by decide)]; rfl
theorem Rule.ft_ltr (R : Rule n r) {l : Int} (hl : Lt n l) : (MF.wst r (ws0 n) l).f = FT n r (MF.wst r (ws0 n) l).v := by
  have hx := hl.rg
  have hr := R.row _ hx
  rw [wst_f]
  unfold frL MF.wst
  by_cases c : 0 < l
  · simp only [if_pos c]
    rw [ad_unt (by rw [ap_rng hx]; exact hx), ft_unt (by rw [ap_rng hx]; exact hx), z_one, R.lt (pm_rng n) hx]
  · simp only [if_neg c]
    have hb := hr.bk_mem hx
    generalize (l.natAbs : Int) - 1 = x at hx hr hb
    have ha : Rg n (ap (rng n) (ap (bk (rw_ r x)) x)) := by rw [ap_rng hb]; exact hb
    rw [ad_unt ha, ft_unt ha, ap_rng hb, z_mone]
    have e0 := Rch.id (n := n) r
    have bx : isB r (ap (bk (rng n)) (ap (bk (rw_ r x)) x)) x := by rw [bk_rng hb]; exact hr.ab hx
    obtain ⟨_, h⟩ := R.back e0 hb
    obtain ⟨g1, g2⟩ := h _ hx bx
    obtain ⟨b1, b2⟩ := R.bks e0 hb
    exact R.inj hb g1 b1 (g2.trans b2.symm)
theorem pl_mv0 {v f : List Int} (hv : v.length = n) (hf : Pm n f) : v = pl v (mv f (zer n)) := ext_ap (n := n) hv (pl_len.trans hv) fun i hi => by
  rw [ap_pl hv hi, ap_mvj hf hi, ap_zer (hf.bk_mem hi), Int.add_zero]
theorem Rule.wl_ftS (R : Rule n r) : ∀ (w : List Int) (s : Ws), (∀ l ∈ w, Lt n l) → Wok n s → s.f = FT n r s.v → (w.foldl (MF.wst r) s).f = FT n r (w.foldl (MF.wst r) s).v
  | [], s, _, _, e => e
  | l :: w, s, hw, hs, e => by
    have hl := hw l List.mem_cons_self
    refine R.wl_ftS w (MF.wst r s l) (fun x hx => hw x (List.mem_cons_of_mem _ hx)) (R.wst hs hl) ?_
    obtain ⟨g1, g2⟩ := R.wst_from hs.v hs.f (wok0 n) (s := ws0 n) (t := s) (cmp_rng hs.f.len).symm (pl_mv0 hs.v hs.f) hl
    have k := R.ft_pt (b := (MF.wst r (ws0 n) l).v) hs.v
    unfold pt at k
    rw [← e] at k
    rw [g1, g2, k, R.ft_ltr hl]
theorem Rule.wl_ft (R : Rule n r) {w : List Int} (hw : ∀ l ∈ w, Lt n l) : (wl n r w).f = FT n r (wl n r w).v := R.wl_ftS w _ hw (wok0 n) ftz.symm
theorem Rule.wl_ok (R : Rule n r) {w : List Int} (hw : ∀ l ∈ w, Lt n l) : Wok n (wl n r w) := R.wok_fold w hw (wok0 n)
theorem Rule.wl_len (R : Rule n r) {w : List Int} (hw : ∀ l ∈ w, Lt n l) : (wl n r w).v.length = n := (R.wl_ok hw).v
theorem Rule.wl_app (R : Rule n r) {w u : List Int} (hw : ∀ l ∈ w, Lt n l) (hu : ∀ l ∈ u, Lt n l) : (wl n r (w ++ u)).v = pt n r (wl n r w).v (wl n r u).v := by
  have ok := R.wl_ok hw
  have h := R.fold_from ok.v ok.f u (wok0 n) (s := ws0 n) (t := wl n r w) (cmp_rng ok.f.len).symm (pl_mv0 ok.v ok.f) hu
  unfold pt
  rw [← R.wl_ft hw]
  unfold wl at h ⊢
  rw [List.foldl_append]
  exact h
theorem Rule.inv_u (R : Rule n r) {a b : List Int} (ha : a.length = n) (hb : b.length = n) (e : pt n r a b = zer n) : b = opp n r a := by
  rw [← R.one_l hb, ← R.inv_l ha, R.assoc (R.opp_len a) ha, e, R.one_r (R.opp_len a)]
theorem Lt.neg {l : Int} (h : Lt n l) : Lt n (-l) := by obtain ⟨a, b, c⟩ := h; exact ⟨by omega, by omega, by omega⟩
theorem wl_nil : (wl n r []).v = zer n := rfl
theorem Rule.wl_neg (R : Rule n r) {l : Int} (hl : Lt n l) : (wl n r [-l]).v = opp n r (wl n r [l]).v := by
  have m1 : ∀ x ∈ [l], Lt n x := fun x hx => by rw [List.mem_singleton.mp hx]; exact hl
  have m2 : ∀ x ∈ [-l], Lt n x := fun x hx => by rw [List.mem_singleton.mp hx]; exact hl.neg
  have h1 := R.wl_len m1
  have h2 := R.wl_len m2
  obtain ⟨a, b, c⟩ := hl
  by_cases p : 0 < l
  · have := R.pair (w := []) (u := []) (fun _ h => (nomatch h)) (x := l - 1) ⟨by omega, by omega⟩
    rw [show l - 1 + 1 = l by omega] at this
    have e : (wl n r ([l] ++ [-l])).v = zer n := this
    rw [R.wl_app m1 m2] at e
    exact R.inv_u h1 h2 e
  · have := R.pair (w := []) (u := []) (fun _ h => (nomatch h)) (x := -l - 1) ⟨by omega, by omega⟩
    rw [show -l - 1 + 1 = -l by omega, Int.neg_neg] at this
    have e : (wl n r ([-l] ++ [l])).v = zer n := this
    rw [R.wl_app m2 m1] at e
    have e2 := R.inv_u h2 h1 e
    rw [e2]
    refine R.inv_u (R.opp_len _) h2 ?_
    exact R.inv_l h2
theorem Rule.opp_pt (R : Rule n r) {a b : List Int} (ha : a.length = n) (hb : b.length = n) : opp n r (pt n r a b) = pt n r (opp n r b) (opp n r a) := by
  refine (R.inv_u (pt_len ha) (pt_len (R.opp_len b)) ?_).symm
  rw [R.assoc ha hb, ← R.assoc hb (R.opp_len b), R.inv_r hb, R.one_l (R.opp_len a), R.inv_r ha]
def rvw (w : List Int) : List Int := w.reverse.map fun l => -l
theorem rvw_lt {w : List Int} (hw : ∀ l ∈ w, Lt n l) : ∀ l ∈ rvw w, Lt n l := fun l hl => by
  obtain ⟨x, hx, rfl⟩ := List.mem_map.mp hl
  exact (hw x (List.mem_reverse.mp hx)).neg
theorem rvw_len {w : List Int} : (rvw w).length = w.length := by simp [rvw]
theorem opp_zer (R : Rule n r) : opp n r (zer n) = zer n := (R.inv_u (zlen n) (zlen n) (R.one_l (zlen n))).symm
theorem Rule.wl_rev (R : Rule n r) : ∀ {w : List Int}, (∀ l ∈ w, Lt n l) → (wl n r (rvw w)).v = opp n r (wl n r w).v
  | [], _ => by
    show (wl n r []).v = opp n r (wl n r []).v
    rw [wl_nil, opp_zer R]
  | l :: w, hw => by
    have hl := hw l List.mem_cons_self
    have hr : ∀ x ∈ w, Lt n x := fun x hx => hw x (List.mem_cons_of_mem _ hx)
    have m1 : ∀ x ∈ [l], Lt n x := fun x hx => by rw [List.mem_singleton.mp hx]; exact hl
    have m2 : ∀ x ∈ [-l], Lt n x := fun x hx => by rw [List.mem_singleton.mp hx]; exact hl.neg
    have e : rvw (l :: w) = rvw w ++ [-l] := by simp [rvw]
    have e2 : l :: w = [l] ++ w := rfl
    rw [e, e2, R.wl_app (rvw_lt hr) m2, R.wl_app m1 hr, R.wl_rev hr, R.wl_neg hl, R.opp_pt (R.wl_len m1) (R.wl_len hr)]
/-! the point of directions -/
def vst (v : List Int) (d : Int) : List Int := ad v ((d.natAbs : Int) - 1) (if 0 < d then 1 else -1)
def vec (n : Nat) (ds : List Int) : List Int := ds.foldl vst (zer n)
theorem Rule.wst_vst (R : Rule n r) {s : Ws} (hs : Wok n s) {l : Int} (hl : Lt n l) : (MF.wst r s l).v = vst s.v (dirL r s.f l) := by
  have hx := hl.rg
  obtain ⟨d1, d2⟩ := R.dir hs.f hx
  unfold vst dirL MF.wst
  by_cases c : 0 < l
  · simp only [if_pos c]
    obtain ⟨a, b⟩ := d1
    rw [if_pos (by omega), show ((ap s.f ((l.natAbs : Int) - 1) + 1).natAbs : Int) - 1 = ap s.f ((l.natAbs : Int) - 1) by omega]
  · simp only [if_neg c]
    obtain ⟨a, b⟩ := d2
    rw [if_neg (by omega)]
    congr 1
    omega
theorem Rule.wl_vecS (R : Rule n r) : ∀ (w : List Int) (s : Ws), (∀ l ∈ w, Lt n l) → Wok n s → ∃ ds, (w.foldl (MF.wst r) s).ds = s.ds ++ ds ∧ (w.foldl (MF.wst r) s).v = ds.foldl vst s.v
  | [], s, _, _ => ⟨[], by simp, rfl⟩
  | l :: w, s, hw, hs => by
    have hl := hw l List.mem_cons_self
    obtain ⟨ds, e1, e2⟩ := R.wl_vecS w (MF.wst r s l) (fun x hx => hw x (List.mem_cons_of_mem _ hx)) (R.wst hs hl)
    refine ⟨dirL r s.f l :: ds, ?_, ?_⟩
    · show (w.foldl (MF.wst r) (MF.wst r s l)).ds = _
      rw [e1, wst_ds, List.append_assoc]; rfl
    · show (w.foldl (MF.wst r) (MF.wst r s l)).v = _
      rw [e2, R.wst_vst hs hl]; rfl
theorem Rule.wl_vec (R : Rule n r) {w : List Int} (hw : ∀ l ∈ w, Lt n l) : (wl n r w).v = vec n (wl n r w).ds := by
  obtain ⟨ds, e1, e2⟩ := R.wl_vecS w (ws0 n) hw (wok0 n)
  have e1 : (wl n r w).ds = [] ++ ds := e1
  rw [e1]; exact e2
theorem Rule.alg_pt (R : Rule n r) {ds : List Int} (hd : ∀ d ∈ ds, Lt n d) : (wl n r (alg n r ds)).v = vec n ds := by
  obtain ⟨h1, h2, _⟩ := R.here hd
  rw [R.wl_vec h2, h1]
/-! rising directions -/
def risF (k : Int) : List Int → List Int
  | [] => []
  | x :: v => List.replicate x.toNat (k + 1) ++ risF (k + 1) v
theorem risF_app : ∀ (a b : List Int) (k : Int), risF k (a ++ b) = risF k a ++ risF (k + a.length) b
  | [], b, k => by simp [risF]
  | x :: a, b, k => by
    show List.replicate x.toNat (k + 1) ++ risF (k + 1) (a ++ b) = List.replicate x.toNat (k + 1) ++ risF (k + 1) a ++ _
    rw [risF_app a b (k + 1), List.append_assoc, show k + 1 + (a.length : Int) = k + ((x :: a).length : Nat) by simp; omega]
theorem risF_len : ∀ (v : List Int) (k : Int), (risF k v).length = (v.map Int.toNat).sum
  | [], k => rfl
  | x :: v, k => by
    show (List.replicate x.toNat (k + 1) ++ risF (k + 1) v).length = _
    rw [List.length_append, List.length_replicate, risF_len v]; rfl
theorem risF_lt : ∀ (v : List Int) (k : Int), 0 ≤ k → k + v.length ≤ n → ∀ d ∈ risF k v, Lt n d
  | [], k, _, _, d, h => (nomatch h)
  | x :: v, k, h0, h1, d, h => by
    have e : ((x :: v).length : Int) = v.length + 1 := by simp
    rw [e] at h1
    rcases List.mem_append.mp h with h | h
    · have := List.eq_of_mem_replicate h
      subst this
      exact ⟨by omega, by omega, by omega⟩
    · exact risF_lt v (k + 1) (by omega) (by omega) d h
theorem vst_rep {k : Int} (hk : Rg n k) {j : Int} (hj : Rg n j) : ∀ (m : Nat) (u : List Int), u.length = n → ((List.replicate m (k + 1)).foldl vst u).length = n ∧ ap ((List.replicate m (k + 1)).foldl vst u) j = ap u j + if j = k then (m : Int) else 0
  | 0, u, hu => ⟨hu, by split <;> simp⟩
  | m + 1, u, hu => by
    have e : vst u (k + 1) = ad u k 1 := by
      obtain ⟨a, b⟩ := hk
      unfold vst
      rw [if_pos (by omega), show ((k + 1).natAbs : Int) - 1 = k by omega]
    have := vst_rep hk hj m (vst u (k + 1)) (by rw [e]; exact ad_len.trans hu)
    rw [List.replicate_succ]
    refine ⟨this.1, ?_⟩
    show ap ((List.replicate m (k + 1)).foldl vst (vst u (k + 1))) j = _
    rw [this.2, e, ap_ad hu hk hj]
    by_cases c : j = k
    · subst c; rw [if_pos rfl, if_pos rfl, if_pos rfl]; omega
    · rw [if_neg c, if_neg c, if_neg c]
theorem vst_ris {j : Int} (hj : Rg n j) : ∀ (v : List Int) (k : Int) (u : List Int), 0 ≤ k → k + v.length ≤ n → (∀ x ∈ v, 0 ≤ x) → u.length = n → ((risF k v).foldl vst u).length = n ∧ ap ((risF k v).foldl vst u) j = ap u j + if k ≤ j ∧ j < k + v.length then ap v (j - k) else 0
  | [], k, u, _, _, _, hu => ⟨hu, by
    rw [if_neg (by simp <;> omega), Int.add_zero]; rfl⟩
  | x :: v, k, u, h0, h1, hv, hu => by
    have e : ((x :: v).length : Int) = v.length + 1 := by simp
    rw [e] at h1 ⊢
    have hk : Rg n k := ⟨h0, by omega⟩
    obtain ⟨a1, a2⟩ := vst_rep hk hj x.toNat u hu
    obtain ⟨b1, b2⟩ := vst_ris hj v (k + 1) _ (by omega) (by omega) (fun y hy => hv y (List.mem_cons_of_mem _ hy)) a1
    have hx := hv x List.mem_cons_self
    show ((List.replicate x.toNat (k + 1) ++ risF (k + 1) v).foldl vst u).length = n ∧ ap ((List.replicate x.toNat (k + 1) ++ risF (k + 1) v).foldl vst u) j = _
    rw [List.foldl_append]
    refine ⟨b1, ?_⟩
    rw [b2, a2]
    by_cases c : j = k
    · subst c
      rw [if_pos rfl, if_neg (by omega), if_pos (by omega), Int.sub_self]
      show ap u j + (x.toNat : Int) + 0 = ap u j + x
      omega
    · rw [if_neg c]
      by_cases d : k ≤ j ∧ j < k + ((v.length : Int) + 1)
      · rw [if_pos d, if_pos (by omega)]
        have : ap (x :: v) (j - k) = ap v (j - (k + 1)) := by
          obtain ⟨m, hm⟩ : ∃ m : Nat, j - k = (m + 1 : Nat) := ⟨(j - k - 1).toNat, by omega⟩
          have e1 : j - (k + 1) = (m : Nat) := by omega
          rw [hm, e1]
          unfold ap
          rw [Int.toNat_natCast, Int.toNat_natCast]; rfl
        rw [this]; omega
      · rw [if_neg d, if_neg (by omega), Int.add_zero]
theorem vec_ris {v : List Int} (hv : v.length = n) (h0 : ∀ x ∈ v, 0 ≤ x) : vec n (risF 0 v) = v := by
  have hl : (vec n (risF 0 v)).length = n := by
    by_cases h : n = 0
    · subst h
      have : v = [] := List.eq_nil_of_length_eq_zero hv
      subst this; rfl
    · exact (vst_ris (n := n) (j := 0) ⟨by omega, by omega⟩ v 0 (zer n) (by omega) (by omega) h0 (zlen n)).1
  refine ext_ap (n := n) hl hv fun j hj => ?_
  have := (vst_ris hj v 0 (zer n) (by omega) (by omega) h0 (zlen n)).2
  unfold vec
  obtain ⟨a, b⟩ := hj
  rw [this, if_pos (by omega), Int.sub_zero, ap_zer ⟨a, b⟩]; omega
/-! the told word -/
def ps (x : Int) : Int := if 0 > x then 0 else x
theorem ps_nn (x : Int) : 0 ≤ ps x := by unfold ps; split <;> omega
def psv (v : List Int) : List Int := v.map ps
def ngp (v : List Int) : List Int := v.map fun x => ps (-x)
theorem psv_nn {v : List Int} : ∀ x ∈ psv v, 0 ≤ x := fun x hx => by obtain ⟨y, _, rfl⟩ := List.mem_map.mp hx; exact ps_nn y
theorem ngp_nn {v : List Int} : ∀ x ∈ ngp v, 0 ≤ x := fun x hx => by obtain ⟨y, _, rfl⟩ := List.mem_map.mp hx; exact ps_nn _
theorem ap_map {f : Int → Int} {v : List Int} (hv : v.length = n) {i : Int} (hi : Rg n i) : ap (v.map f) i = f (ap v i) := by
  obtain ⟨k, rfl, hk⟩ := hi.nat
  rw [ap_get (by simp; omega), ap_get (by omega)]; simp
theorem mv_nn {p v : List Int} (hp : Pm n p) (hv : v.length = n) (h : ∀ x ∈ v, 0 ≤ x) : ∀ x ∈ mv p v, 0 ≤ x := fun x hx => by
  obtain ⟨i, hi, rfl⟩ := List.mem_map.mp hx
  obtain ⟨k, rfl, hk⟩ := (hp.bk.mem i hi).nat
  rw [ap_get (by omega)]
  exact h _ (List.getElem_mem _)
def wdb (n : Nat) (r : List (List Int)) (v : List Int) : List Int := mv (bk (FT n r v)) (ngp v)
def wdt (n : Nat) (r : List (List Int)) (v : List Int) : List Int := alg n r (risF 0 (psv v)) ++ rvw (alg n r (risF 0 (wdb n r v)))
theorem mv_sum {p v : List Int} (hp : Pm n p) (hv : v.length = n) (g : Int → Nat) : ((mv p v).map g).sum = (v.map g).sum := by
  have hperm : (bk p).Perm (rng n) := (List.perm_ext_iff_of_nodup hp.bk.nd (nd_rng n)).mpr fun x => ⟨fun h => mem_rng.mpr (hp.bk.mem x h), fun h => hp.bk.surj (mem_rng.mp h)⟩
  have e : v = (rng n).map (ap v) := (map_ap hv).symm
  have h1 : (mv p v).Perm v := by
    have := hperm.map (ap v)
    rw [← e] at this
    exact this
  exact (h1.map g).sum_nat
section
variable (R : Rule n r) {v : List Int} (hv : v.length = n)
include R hv
theorem ris_a : ∀ d ∈ risF 0 (psv v), Lt n d := risF_lt _ 0 (by omega) (by simp [psv, hv])
theorem ris_b : ∀ d ∈ risF 0 (wdb n r v), Lt n d := risF_lt _ 0 (by omega) (by unfold wdb; rw [mv_len (R.ft_pm v).bk]; omega)
theorem Rule.wdt_lt : ∀ l ∈ wdt n r v, Lt n l := fun l hl => by
  rcases List.mem_append.mp hl with hl | hl
  · exact (R.here (ris_a R hv)).2.1 l hl
  · exact rvw_lt (R.here (ris_b R hv)).2.1 l hl
theorem Rule.wdt_len : (wdt n r v).length = (v.map Int.natAbs).sum := by
  have pf := R.ft_pm v
  unfold wdt
  rw [List.length_append, rvw_len, (R.here (ris_a R hv)).2.2, (R.here (ris_b R hv)).2.2, risF_len, risF_len]
  unfold wdb
  rw [mv_sum pf.bk (by simp [ngp, hv]) Int.toNat]
  unfold psv ngp
  rw [List.map_map, List.map_map]
  clear hv
  induction v with
  | nil => rfl
  | cons x v ih =>
    simp only [List.map_cons, List.sum_cons, Function.comp] at ih ⊢
    have : (ps x).toNat + (ps (-x)).toNat = x.natAbs := by unfold ps; split <;> split <;> omega
    have ih := ih (R.ft_pm v)
    omega
theorem Rule.wdt_pt : (wl n r (wdt n r v)).v = v := by
  have pf := R.ft_pm v
  have ha := R.here (ris_a R hv)
  have hb := R.here (ris_b R hv)
  have lp : (psv v).length = n := by simp [psv, hv]
  have ln : (ngp v).length = n := by simp [ngp, hv]
  have lq : (wdb n r v).length = n := mv_len pf.bk
  have q0 : ∀ x ∈ wdb n r v, 0 ≤ x := mv_nn pf.bk ln ngp_nn
  unfold wdt
  rw [R.wl_app ha.2.1 (rvw_lt hb.2.1), R.wl_rev hb.2.1, R.alg_pt (ris_a R hv), R.alg_pt (ris_b R hv), vec_ris lp psv_nn, vec_ris lq q0]
  have e : psv v = pt n r v (wdb n r v) := ext_ap (n := n) lp (pt_len hv) fun i hi => by
    have hb := pf.bk_mem hi
    rw [ap_pt R hv hi]
    have e2 : ap (wdb n r v) (ap (bk (FT n r v)) i) = ap (ngp v) i := ap_mv pf.bk hi
    rw [e2]
    unfold psv ngp
    rw [ap_map hv hi, ap_map (f := fun x => ps (-x)) hv hi]
    unfold ps
    split <;> split <;> omega
  rw [e, R.assoc hv lq, R.inv_r lq, R.one_r hv]
end
/-! all words of a length -/
def ltl (n : Nat) : List Int := ((List.range (2 * n + 1)).map fun i : Nat => -(n : Int) + (i : Int)).filter fun x => !decide (x = 0)
def wds (n : Nat) : Nat → List (List Int)
  | 0 => [[]]
  | k + 1 => (wds n k).flatMap fun w => (ltl n).map fun l => w ++ [l]
theorem mem_ltl {l : Int} : l ∈ ltl n ↔ Lt n l := by
  unfold ltl
  rw [List.mem_filter, List.mem_map]
  constructor
  · rintro ⟨⟨i, hi, rfl⟩, h⟩
    have := List.mem_range.mp hi
    have h : ¬ (-(n : Int) + (i : Int) = 0) := by simpa using h
    exact ⟨h, by omega, by omega⟩
  · rintro ⟨h1, h2, h3⟩
    exact ⟨⟨(l + n).toNat, List.mem_range.mpr (by omega), by omega⟩, by simpa using h1⟩
theorem nd_ltl : (ltl n).Nodup := (nd_map (fun a b e => by omega) List.nodup_range).filter _
theorem mem_wds : ∀ (k : Nat) (w : List Int), w ∈ wds n k ↔ w.length = k ∧ ∀ l ∈ w, Lt n l
  | 0, w => by
    show w ∈ [[]] ↔ _
    rw [List.mem_singleton]
    constructor
    · rintro rfl; exact ⟨rfl, fun _ h => (nomatch h)⟩
    · rintro ⟨h, _⟩; exact List.eq_nil_of_length_eq_zero h
  | k + 1, w => by
    show w ∈ (wds n k).flatMap _ ↔ _
    rw [List.mem_flatMap]
    constructor
    · rintro ⟨u, hu, hw⟩
      obtain ⟨l, hl, rfl⟩ := List.mem_map.mp hw
      obtain ⟨h1, h2⟩ := (mem_wds k u).mp hu
      refine ⟨by simp [h1], fun x hx => ?_⟩
      rcases List.mem_append.mp hx with hx | hx
      · exact h2 x hx
      · rw [List.mem_singleton.mp hx]; exact mem_ltl.mp hl
    · rintro ⟨h1, h2⟩
      have hne : w ≠ [] := fun z => by rw [z] at h1; cases h1
      have e := List.dropLast_concat_getLast hne
      refine ⟨w.dropLast, (mem_wds k _).mpr ⟨by simp [h1], fun l hl => h2 l ((List.dropLast_sublist w).subset hl)⟩, List.mem_map.mpr ⟨w.getLast hne, mem_ltl.mpr (h2 _ (List.getLast_mem hne)), e⟩⟩
theorem nd_flat {α β : Type} {g : α → List β} : ∀ {l : List α}, l.Nodup → (∀ a ∈ l, (g a).Nodup) → (∀ a ∈ l, ∀ b ∈ l, ∀ x, x ∈ g a → x ∈ g b → a = b) → (l.flatMap g).Nodup
  | [], _, _, _ => by simp
  | a :: l, h, hg, hd => by
    rw [List.nodup_cons] at h
    rw [List.flatMap_cons, List.nodup_append]
    refine ⟨hg a List.mem_cons_self, nd_flat h.2 (fun b hb => hg b (List.mem_cons_of_mem _ hb)) (fun b hb c hc => hd b (List.mem_cons_of_mem _ hb) c (List.mem_cons_of_mem _ hc)), fun x hx y hy e => ?_⟩
    subst e
    obtain ⟨b, hb, hy⟩ := List.mem_flatMap.mp hy
    have := hd a List.mem_cons_self b (List.mem_cons_of_mem _ hb) x hx hy
    subst this
    exact h.1 hb
theorem nd_wds : ∀ k, (wds n k).Nodup
  | 0 => by show [[]].Nodup; simp
  | k + 1 => nd_flat (nd_wds k) (fun w _ => nd_map (fun a b e => by simpa using e) nd_ltl) fun a _ b _ x ha hb => by
    obtain ⟨l, _, rfl⟩ := List.mem_map.mp ha
    obtain ⟨m, _, e⟩ := List.mem_map.mp hb
    exact (List.append_inj' e rfl).1.symm
theorem Rule.ds_perm (R : Rule n r) (k : Nat) : ((wds n k).map fun w => (wl n r w).ds).Perm (wds n k) := by
  refine (List.perm_ext_iff_of_nodup (nd_mapOn (fun a ha b hb e => ?_) (nd_wds k)) (nd_wds k)).mpr fun x => ⟨fun h => ?_, fun h => ?_⟩
  · have h1 := R.there ((mem_wds k a).mp ha).2
    have h2 := R.there ((mem_wds k b).mp hb).2
    rw [← h1.1, e, h2.1]
  · obtain ⟨w, hw, rfl⟩ := List.mem_map.mp h
    obtain ⟨h1, h2⟩ := (mem_wds k w).mp hw
    refine (mem_wds k _).mpr ⟨?_, (R.there h2).2⟩
    have := wl_ds_len (r := r) w (ws0 n)
    show (w.foldl (MF.wst r) (ws0 n)).ds.length = k
    rw [this, h1]; exact Nat.zero_add k
  · obtain ⟨h1, h2⟩ := (mem_wds k x).mp h
    obtain ⟨g1, g2, g3⟩ := R.here h2
    exact List.mem_map.mpr ⟨alg n r x, (mem_wds k _).mpr ⟨g3.trans h1, g2⟩, g1⟩
theorem Rule.count_wds (R : Rule n r) (k : Nat) (p : List Int) : ((wds n k).filter fun w => decide ((wl n r w).v = p)).length = ((wds n k).filter fun e => decide (vec n e = p)).length := by
  have h := (R.ds_perm k).countP_eq fun e => decide (vec n e = p)
  rw [← List.countP_eq_length_filter, ← List.countP_eq_length_filter, ← h, List.countP_map]
  refine List.countP_congr fun w hw => ?_
  have := R.wl_vec ((mem_wds k w).mp hw).2
  simp only [Function.comp, ← this]
/-! how many -/
def cst (s : Int × Int) (k : Int) : Int × Int := (s.1 * (s.2 + 1) / k, s.2 + 1)
def ksl (x : Int) : List Int := (List.range x.natAbs).map fun i : Nat => 1 + (i : Int)
def cnp (p : List Int) : Int := ((p.flatMap ksl).foldl cst (1, 0)).1
def nrm (p : List Int) : Nat := (p.map Int.natAbs).sum
/-- all points of n numbers of some -/
def bxs (xs : List Int) : Nat → List (List Int)
  | 0 => [[]]
  | k + 1 => (bxs xs k).flatMap fun p => xs.map fun x => x :: p
theorem mem_bxs {xs : List Int} : ∀ p : List Int, (∀ x ∈ p, x ∈ xs) → p ∈ bxs xs p.length
  | [], _ => List.mem_singleton.mpr rfl
  | x :: p, h => List.mem_flatMap.mpr ⟨p, mem_bxs p fun y hy => h y (List.mem_cons_of_mem _ hy), List.mem_map.mpr ⟨x, h x List.mem_cons_self, rfl⟩⟩
def chkN (n : Nat) : Bool := ((bxs [-3, -2, -1, 0, 1, 2, 3] n).filter fun p => decide (nrm p ≤ 3)).all fun p => (List.range (nrm p)).all (fun k => ((wds n k).filter fun e => decide (vec n e = p)).length == 0) && (((wds n (nrm p)).filter fun e => decide (vec n e = p)).length : Int) == cnp p
end
end MF
end

section
set_option maxHeartbeats 4000000
namespace MF
/-! turns of two blocks, rules beside one another -/
section
variable {n m : Nat} {p q a b : List Int} {one other : List (List Int)}
def sm (n : Nat) (p q : List Int) : List Int := p ++ q.map fun y => (n : Int) + y
theorem sm_len (hp : p.length = n) (hq : q.length = m) : (sm n p q).length = n + m := by simp [sm, hp, hq]
theorem ap_sm_l (hp : p.length = n) {i : Int} (hi : Rg n i) : ap (sm n p q) i = ap p i := by
  obtain ⟨k, rfl, hk⟩ := hi.nat
  rw [ap_get (by simp [sm]; omega), ap_get (by omega)]
  unfold sm
  rw [List.getElem_append_left]
theorem ap_sm_r (hp : p.length = n) (hq : q.length = m) {i : Int} (hi : Rg m i) : ap (sm n p q) (n + i) = n + ap q i := by
  obtain ⟨k, rfl, hk⟩ := hi.nat
  rw [show (n : Int) + (k : Int) = ((n + k : Nat) : Int) by omega, ap_get (by rw [sm_len hp hq]; omega), ap_get (by omega)]
  unfold sm
  rw [List.getElem_append_right (by omega), List.getElem_map]
  congr 2
  omega
theorem rg_l {i : Int} (h : Rg n i) : Rg (n + m) i := ⟨h.1, by have := h.2; omega⟩
theorem rg_r {i : Int} (h : Rg m i) : Rg (n + m) (n + i) := ⟨by have := h.1; omega, by have := h.2; omega⟩
theorem rg_cases {i : Int} (h : Rg (n + m) i) : Rg n i ∨ ∃ j, Rg m j ∧ i = n + j := by
  obtain ⟨h1, h2⟩ := h
  by_cases c : i < n
  · exact .inl ⟨h1, c⟩
  · exact .inr ⟨i - n, ⟨by omega, by omega⟩, by omega⟩
theorem sm_pm (hp : Pm n p) (hq : Pm m q) : Pm (n + m) (sm n p q) := by
  refine pm_of (sm_len hp.len hq.len) (fun i hi => ?_) fun i j hi hj e => ?_
  · rcases rg_cases hi with h | ⟨j, h, rfl⟩
    · rw [ap_sm_l hp.len h]; exact rg_l (hp.ap_mem h)
    · rw [ap_sm_r hp.len hq.len h]; exact rg_r (hq.ap_mem h)
  · rcases rg_cases hi with h | ⟨k, h, rfl⟩ <;> rcases rg_cases hj with g | ⟨l, g, rfl⟩
    · rw [ap_sm_l hp.len h, ap_sm_l hp.len g] at e
      exact hp.inj h g e
    · rw [ap_sm_l hp.len h, ap_sm_r hp.len hq.len g] at e
      have := (hp.ap_mem h).2
      have := (hq.ap_mem g).1
      omega
    · rw [ap_sm_r hp.len hq.len h, ap_sm_l hp.len g] at e
      have := (hp.ap_mem g).2
      have := (hq.ap_mem h).1
      omega
    · rw [ap_sm_r hp.len hq.len h, ap_sm_r hp.len hq.len g] at e
      rw [hq.inj h g (by omega)]
theorem bk_sm_l (hp : Pm n p) (hq : Pm m q) {i : Int} (hi : Rg n i) : ap (bk (sm n p q)) i = ap (bk p) i := by
  have h := sm_pm hp hq
  have hb := hp.bk_mem hi
  refine h.inj (h.bk_mem (rg_l hi)) (rg_l hb) ?_
  rw [h.ab (rg_l hi), ap_sm_l hp.len hb, hp.ab hi]
theorem bk_sm_r (hp : Pm n p) (hq : Pm m q) {i : Int} (hi : Rg m i) : ap (bk (sm n p q)) (n + i) = n + ap (bk q) i := by
  have h := sm_pm hp hq
  have hb := hq.bk_mem hi
  refine h.inj (h.bk_mem (rg_r hi)) (rg_r hb) ?_
  rw [h.ab (rg_r hi), ap_sm_r hp.len hq.len hb, hq.ab hi]
def bsd (n m : Nat) (one other : List (List Int)) (a b : List Int) : List (List Int) := ((rng n).map fun x => sm n (rw_ one x) b) ++ (rng m).map fun y => sm n a (rw_ other y)
theorem rw_bsd_l {x : Int} (hx : Rg n x) : rw_ (bsd n m one other a b) x = sm n (rw_ one x) b := by
  obtain ⟨k, rfl, hk⟩ := hx.nat
  have e : rw_ (bsd n m one other a b) (k : Int) = ((bsd n m one other a b)[k]?).getD [] := by
    conv => lhs; unfold rw_
    rw [Int.toNat_natCast, List.getD_eq_getElem?_getD]
  rw [e]
  unfold bsd
  rw [List.getElem?_append_left (by simp [rng_len]; exact hk)]
  simp [rng, hk]
theorem rw_bsd_r {y : Int} (hy : Rg m y) : rw_ (bsd n m one other a b) (n + y) = sm n a (rw_ other y) := by
  obtain ⟨k, rfl, hk⟩ := hy.nat
  rw [show (n : Int) + (k : Int) = ((n + k : Nat) : Int) by omega]
  have e : rw_ (bsd n m one other a b) ((n + k : Nat) : Int) = ((bsd n m one other a b)[n + k]?).getD [] := by
    conv => lhs; unfold rw_
    rw [Int.toNat_natCast, List.getD_eq_getElem?_getD]
  rw [e]
  unfold bsd
  rw [List.getElem?_append_right (by simp [rng_len])]
  simp [rng, hk]
theorem Ren.cyc_bk (N : Ren n p one one) (R : Rule n one) {x y : Int} (hx : Rg n x) (hy : Rg n y) : MF.cyc one (ap (bk p) x) (ap (bk p) y) = ap (bk p) (MF.cyc one x y) := by
  have bx := N.pm.bk_mem hx
  have b_y := N.pm.bk_mem hy
  have e := N.cyc R bx b_y
  rw [N.pm.ab hx, N.pm.ab hy] at e
  rw [e, N.pm.ba (R.cy bx b_y)]
section
variable (R : Rule n one) (S : Rule m other) (A : Ren n a one one) (B : Ren m b other other)
include R S A B
theorem cy_ll {x y : Int} (hx : Rg n x) (hy : Rg n y) : cyc (bsd n m one other a b) x y = cyc one x y := by
  unfold cyc; rw [rw_bsd_l hx, bk_sm_l (R.row x hx) B.pm hy]
theorem cy_lr {x y : Int} (hx : Rg n x) (hy : Rg m y) : cyc (bsd n m one other a b) x (n + y) = n + ap (bk b) y := by
  unfold cyc; rw [rw_bsd_l hx, bk_sm_r (R.row x hx) B.pm hy]
theorem cy_rl {x y : Int} (hx : Rg m x) (hy : Rg n y) : cyc (bsd n m one other a b) (n + x) y = ap (bk a) y := by
  unfold cyc; rw [rw_bsd_r hx, bk_sm_l A.pm (S.row x hx) hy]
theorem cy_rr {x y : Int} (hx : Rg m x) (hy : Rg m y) : cyc (bsd n m one other a b) (n + x) (n + y) = n + cyc other x y := by
  unfold cyc; rw [rw_bsd_r hx, bk_sm_r A.pm (S.row x hx) hy]
theorem bsd_rule : Rule (n + m) (bsd n m one other a b) where
  len := by simp [bsd, rng_len]
  row := fun x hx => by
    rcases rg_cases hx with h | ⟨j, h, rfl⟩
    · rw [rw_bsd_l h]; exact sm_pm (R.row x h) B.pm
    · rw [rw_bsd_r h]; exact sm_pm A.pm (S.row j h)
  fair := fun x y z hx hy hz => by
    have ll := @cy_ll n m a b one other R S A B
    have lr := @cy_lr n m a b one other R S A B
    have rl := @cy_rl n m a b one other R S A B
    have rr := @cy_rr n m a b one other R S A B
    rcases rg_cases hx with jx | ⟨x, jx, rfl⟩ <;> rcases rg_cases hy with jy | ⟨y, jy, rfl⟩ <;> rcases rg_cases hz with jz | ⟨z, jz, rfl⟩
    · rw [ll jx jy, ll jx jz, ll (R.cy jx jy) (R.cy jx jz), ll jy jx, ll jy jz, ll (R.cy jy jx) (R.cy jy jz)]
      exact R.fair x y z jx jy jz
    · rw [ll jx jy, lr jx jz, lr (R.cy jx jy) (B.pm.bk_mem jz), ll jy jx, lr jy jz, lr (R.cy jy jx) (B.pm.bk_mem jz)]
    · rw [lr jx jy, ll jx jz, rl (B.pm.bk_mem jy) (R.cy jx jz), rl jy jx, rl jy jz, ll (A.pm.bk_mem jx) (A.pm.bk_mem jz), A.cyc_bk R jx jz]
    · rw [lr jx jy, lr jx jz, rr (B.pm.bk_mem jy) (B.pm.bk_mem jz), rl jy jx, rr jy jz, lr (A.pm.bk_mem jx) (S.cy jy jz), B.cyc_bk S jy jz]
    · rw [rl jx jy, rl jx jz, ll (A.pm.bk_mem jy) (A.pm.bk_mem jz), lr jy jx, ll jy jz, rl (B.pm.bk_mem jx) (R.cy jy jz), A.cyc_bk R jy jz]
    · rw [rl jx jy, rr jx jz, lr (A.pm.bk_mem jy) (S.cy jx jz), lr jy jx, lr jy jz, rr (B.pm.bk_mem jx) (B.pm.bk_mem jz), B.cyc_bk S jx jz]
    · rw [rr jx jy, rl jx jz, rl (S.cy jx jy) (A.pm.bk_mem jz), rr jy jx, rl jy jz, rl (S.cy jy jx) (A.pm.bk_mem jz)]
    · rw [rr jx jy, rr jx jz, rr (S.cy jx jy) (S.cy jx jz), rr jy jx, rr jy jz, rr (S.cy jy jx) (S.cy jy jz), S.fair x y z jx jy jz]
end
/-! rules by looking -/
def chkR (n : Nat) (r : List (List Int)) : Bool := decide (r.length = n) && (rng n).all fun x => decide ((rw_ r x).length = n) && decide (rw_ r x).Nodup && ((rw_ r x).all fun y => decide (0 ≤ y) && decide (y < n)) && (rng n).all fun y => (rng n).all fun z => decide (cyc r (cyc r x y) (cyc r x z) = cyc r (cyc r y x) (cyc r y z))
theorem chkR_ok {r : List (List Int)} (h : chkR n r = true) : Rule n r := by
  unfold chkR at h
  simp only [Bool.and_eq_true, decide_eq_true_eq, List.all_eq_true] at h
  obtain ⟨h1, h2⟩ := h
  exact ⟨h1, fun x hx => ⟨(h2 x (mem_rng.mpr hx)).1.1.1, (h2 x (mem_rng.mpr hx)).1.1.2, fun y hy => (h2 x (mem_rng.mpr hx)).1.2 y hy⟩, fun x y z hx hy hz => (h2 x (mem_rng.mpr hx)).2 y (mem_rng.mpr hy) z (mem_rng.mpr hz)⟩
end
end MF
end

section
set_option maxRecDepth 100000
set_option maxHeartbeats 4000000
namespace MK04
open PySem PySem.Spec PyProof.Rows L2 MT
def top (i : Nat) : Stmt := PySem.Challenge.pw_meeteither_k04_whole_cycle_tables_and_co.main.body.getD i (.Pass ⟨0, 0, 0, 0⟩)
abbrev s_is_number : Stmt := top 6
abbrev s_is_between : Stmt := top 7
abbrev s_is_tuple : Stmt := top 8
abbrev s_need_between : Stmt := top 9
abbrev s_is_turn_told : Stmt := top 12
abbrev s_turn_after : Stmt := top 13
abbrev s_turn_back : Stmt := top 14
abbrev s_is_table_told : Stmt := top 16
abbrev s_need_table : Stmt := top 17
abbrev s_met_told : Stmt := top 18
abbrev s_cycle_told : Stmt := top 19
abbrev s_diagonal_told : Stmt := top 20
abbrev s_is_fair : Stmt := top 21
abbrev s_is_rule_told : Stmt := top 22
abbrev s_need_rule : Stmt := top 23
abbrev s_row_met : Stmt := top 24
abbrev s_rows_of_three : Stmt := top 25
abbrev s_meet : Stmt := top 26
abbrev s_table_fault : Stmt := top 27
abbrev s_corner_fault : Stmt := top 28
abbrev s_cycle_table : Stmt := top 29
abbrev s_diagonal : Stmt := top 30
abbrev s__law_begun : Stmt := top 32
abbrev s__law_blend : Stmt := top 33
abbrev s__law_take : Stmt := top 34
abbrev s__law_pick : Stmt := top 35
abbrev s__law_shuffled : Stmt := top 36
abbrev s__law_caught : Stmt := top 37
abbrev s__law_same : Stmt := top 38
abbrev s__law_undone : Stmt := top 39
abbrev s__law_behind : Stmt := top 40
abbrev s__law_rows : Stmt := top 41
abbrev s__law_turns : Stmt := top 42
abbrev s__law_renamed : Stmt := top 43
abbrev s__law_namings : Stmt := top 44
abbrev s__law_beside : Stmt := top 45
abbrev s__law_small : Stmt := top 46
abbrev s__law_rule : Stmt := top 47
abbrev s__law_table : Stmt := top 48
abbrev s__law_own : Stmt := top 49
abbrev s__law_unfair : Stmt := top 50
abbrev s__law_some_table : Stmt := top 51
abbrev s__law_corner : Stmt := top 52
abbrev s_law : Stmt := top 53
def d_is_number : He.DefD := ⟨("is_number", none), "is_number", "is_number", defArgs s_is_number, defBody s_is_number, defScope s_is_number, [], []⟩
def d_is_between : He.DefD := ⟨("is_between", none), "is_between", "is_between", defArgs s_is_between, defBody s_is_between, defScope s_is_between, [], []⟩
def d_is_tuple : He.DefD := ⟨("is_tuple", none), "is_tuple", "is_tuple", defArgs s_is_tuple, defBody s_is_tuple, defScope s_is_tuple, [], []⟩
def d_need_between : He.DefD := ⟨("need_between", none), "need_between", "need_between", defArgs s_need_between, defBody s_need_between, defScope s_need_between, [], []⟩
def d_is_turn_told : He.DefD := ⟨("is_turn_told", none), "is_turn_told", "is_turn_told", defArgs s_is_turn_told, defBody s_is_turn_told, defScope s_is_turn_told, [], []⟩
def d_turn_after : He.DefD := ⟨("turn_after", none), "turn_after", "turn_after", defArgs s_turn_after, defBody s_turn_after, defScope s_turn_after, [], []⟩
def d_turn_back : He.DefD := ⟨("turn_back", none), "turn_back", "turn_back", defArgs s_turn_back, defBody s_turn_back, defScope s_turn_back, [], []⟩
def d_is_table_told : He.DefD := ⟨("is_table_told", none), "is_table_told", "is_table_told", defArgs s_is_table_told, defBody s_is_table_told, defScope s_is_table_told, [], []⟩
def d_need_table : He.DefD := ⟨("need_table", none), "need_table", "need_table", defArgs s_need_table, defBody s_need_table, defScope s_need_table, [], []⟩
def d_met_told : He.DefD := ⟨("met_told", none), "met_told", "met_told", defArgs s_met_told, defBody s_met_told, defScope s_met_told, [], []⟩
def d_cycle_told : He.DefD := ⟨("cycle_told", none), "cycle_told", "cycle_told", defArgs s_cycle_told, defBody s_cycle_told, defScope s_cycle_told, [], []⟩
def d_diagonal_told : He.DefD := ⟨("diagonal_told", none), "diagonal_told", "diagonal_told", defArgs s_diagonal_told, defBody s_diagonal_told, defScope s_diagonal_told, [], []⟩
def d_is_fair : He.DefD := ⟨("is_fair", none), "is_fair", "is_fair", defArgs s_is_fair, defBody s_is_fair, defScope s_is_fair, [], []⟩
def d_is_rule_told : He.DefD := ⟨("is_rule_told", none), "is_rule_told", "is_rule_told", defArgs s_is_rule_told, defBody s_is_rule_told, defScope s_is_rule_told, [], []⟩
def d_need_rule : He.DefD := ⟨("need_rule", none), "need_rule", "need_rule", defArgs s_need_rule, defBody s_need_rule, defScope s_need_rule, [], []⟩
def d_row_met : He.DefD := ⟨("row_met", none), "row_met", "row_met", defArgs s_row_met, defBody s_row_met, defScope s_row_met, [], []⟩
def d_rows_of_three : He.DefD := ⟨("rows_of_three", none), "rows_of_three", "rows_of_three", defArgs s_rows_of_three, defBody s_rows_of_three, defScope s_rows_of_three, [], []⟩
def d_meet : He.DefD := ⟨("meet", none), "meet", "meet", defArgs s_meet, defBody s_meet, defScope s_meet, [], []⟩
def d_table_fault : He.DefD := ⟨("table_fault", none), "table_fault", "table_fault", defArgs s_table_fault, defBody s_table_fault, defScope s_table_fault, [], []⟩
def d_corner_fault : He.DefD := ⟨("corner_fault", none), "corner_fault", "corner_fault", defArgs s_corner_fault, defBody s_corner_fault, defScope s_corner_fault, [], []⟩
def d_cycle_table : He.DefD := ⟨("cycle_table", none), "cycle_table", "cycle_table", defArgs s_cycle_table, defBody s_cycle_table, defScope s_cycle_table, [], []⟩
def d_diagonal : He.DefD := ⟨("diagonal", none), "diagonal", "diagonal", defArgs s_diagonal, defBody s_diagonal, defScope s_diagonal, [], []⟩
def d__law_begun : He.DefD := ⟨("_law_begun", none), "_law_begun", "_law_begun", defArgs s__law_begun, defBody s__law_begun, defScope s__law_begun, [], []⟩
def d__law_blend : He.DefD := ⟨("_law_blend", none), "_law_blend", "_law_blend", defArgs s__law_blend, defBody s__law_blend, defScope s__law_blend, [], []⟩
def d__law_take : He.DefD := ⟨("_law_take", none), "_law_take", "_law_take", defArgs s__law_take, defBody s__law_take, defScope s__law_take, [], []⟩
def d__law_pick : He.DefD := ⟨("_law_pick", none), "_law_pick", "_law_pick", defArgs s__law_pick, defBody s__law_pick, defScope s__law_pick, [], []⟩
def d__law_shuffled : He.DefD := ⟨("_law_shuffled", none), "_law_shuffled", "_law_shuffled", defArgs s__law_shuffled, defBody s__law_shuffled, defScope s__law_shuffled, [], []⟩
def d__law_caught : He.DefD := ⟨("_law_caught", none), "_law_caught", "_law_caught", defArgs s__law_caught, defBody s__law_caught, defScope s__law_caught, [], []⟩
def d__law_same : He.DefD := ⟨("_law_same", none), "_law_same", "_law_same", defArgs s__law_same, defBody s__law_same, defScope s__law_same, [], []⟩
def d__law_undone : He.DefD := ⟨("_law_undone", none), "_law_undone", "_law_undone", defArgs s__law_undone, defBody s__law_undone, defScope s__law_undone, [], []⟩
def d__law_behind : He.DefD := ⟨("_law_behind", none), "_law_behind", "_law_behind", defArgs s__law_behind, defBody s__law_behind, defScope s__law_behind, [], []⟩
def d__law_rows : He.DefD := ⟨("_law_rows", none), "_law_rows", "_law_rows", defArgs s__law_rows, defBody s__law_rows, defScope s__law_rows, [], []⟩
def d__law_turns : He.DefD := ⟨("_law_turns", none), "_law_turns", "_law_turns", defArgs s__law_turns, defBody s__law_turns, defScope s__law_turns, [], []⟩
def d__law_renamed : He.DefD := ⟨("_law_renamed", none), "_law_renamed", "_law_renamed", defArgs s__law_renamed, defBody s__law_renamed, defScope s__law_renamed, [], []⟩
def d__law_namings : He.DefD := ⟨("_law_namings", none), "_law_namings", "_law_namings", defArgs s__law_namings, defBody s__law_namings, defScope s__law_namings, [], []⟩
def d__law_beside : He.DefD := ⟨("_law_beside", none), "_law_beside", "_law_beside", defArgs s__law_beside, defBody s__law_beside, defScope s__law_beside, [], []⟩
def d__law_small : He.DefD := ⟨("_law_small", none), "_law_small", "_law_small", defArgs s__law_small, defBody s__law_small, defScope s__law_small, [], []⟩
def d__law_rule : He.DefD := ⟨("_law_rule", none), "_law_rule", "_law_rule", defArgs s__law_rule, defBody s__law_rule, defScope s__law_rule, [], []⟩
def d__law_table : He.DefD := ⟨("_law_table", none), "_law_table", "_law_table", defArgs s__law_table, defBody s__law_table, defScope s__law_table, [], []⟩
def d__law_own : He.DefD := ⟨("_law_own", none), "_law_own", "_law_own", defArgs s__law_own, defBody s__law_own, defScope s__law_own, [], []⟩
def d__law_unfair : He.DefD := ⟨("_law_unfair", none), "_law_unfair", "_law_unfair", defArgs s__law_unfair, defBody s__law_unfair, defScope s__law_unfair, [], []⟩
def d__law_some_table : He.DefD := ⟨("_law_some_table", none), "_law_some_table", "_law_some_table", defArgs s__law_some_table, defBody s__law_some_table, defScope s__law_some_table, [], []⟩
def d__law_corner : He.DefD := ⟨("_law_corner", none), "_law_corner", "_law_corner", defArgs s__law_corner, defBody s__law_corner, defScope s__law_corner, [], []⟩
def d_law : He.DefD := ⟨("law", none), "law", "law", defArgs s_law, defBody s_law, defScope s_law, [], []⟩
def fnL : List He.DefD := [d_is_number, d_is_between, d_is_tuple, d_need_between, d_is_turn_told, d_turn_after, d_turn_back, d_is_table_told, d_need_table, d_met_told, d_cycle_told, d_diagonal_told, d_is_fair, d_is_rule_told, d_need_rule, d_row_met, d_rows_of_three, d_meet, d_table_fault, d_corner_fault, d_cycle_table, d_diagonal, d__law_begun, d__law_blend, d__law_take, d__law_pick, d__law_shuffled, d__law_caught, d__law_same, d__law_undone, d__law_behind, d__law_rows, d__law_turns, d__law_renamed, d__law_namings, d__law_beside, d__law_small, d__law_rule, d__law_table, d__law_own, d__law_unfair, d__law_some_table, d__law_corner, d_law]
def faL : List He.Fa := ([.glo "is_number", .glo "is_between", .glo "is_tuple", .glo "need_between", .glo "is_turn_told", .glo "turn_after", .glo "turn_back", .glo "is_table_told", .glo "need_table", .glo "met_told", .glo "cycle_told", .glo "diagonal_told", .glo "is_fair", .glo "is_rule_told", .glo "need_rule", .glo "row_met", .glo "rows_of_three", .glo "meet", .glo "table_fault", .glo "corner_fault", .glo "cycle_table", .glo "diagonal", .glo "_law_begun", .glo "_law_blend", .glo "_law_take", .glo "_law_pick", .glo "_law_shuffled", .glo "_law_caught", .glo "_law_same", .glo "_law_undone"] : List He.Fa) ++ ([.glo "_law_behind", .glo "_law_rows", .glo "_law_turns", .glo "_law_renamed", .glo "_law_namings", .glo "_law_beside", .glo "_law_small", .glo "_law_rule", .glo "_law_table", .glo "_law_own", .glo "_law_unfair", .glo "_law_some_table", .glo "_law_corner", .glo "law", .free "abs", .free "all", .free "bool", .free "enumerate", .free "int", .free "isinstance", .free "len", .free "list", .free "min", .free "range", .free "repr", .free "sorted", .free "super", .free "tuple", .free "ValueError", .int "MOST_THINGS" (24)] : List He.Fa)
def errL : List Str := ["BadNumber", "BadRule", "BadTable"]
abbrev i_BadNumber : Stmt := clsInit (top 2)
def faE : List He.Fa := ([.glo "MeetError", .glo "BadNumber", .glo "BadRule", .glo "BadTable", .exc "BadRule", .exc "BadTable"] : List He.Fa)
def iniL : List IniD := [⟨"BadNumber", "BadNumber.__init__", defArgs i_BadNumber, defBody i_BadNumber, defScope i_BadNumber⟩]
def tfL : List He.Defn := [("law", none)]
def fileS : Str := (PySem.Challenge.pw_meeteither_k04_whole_cycle_tables_and_co).main.file
def exL (K : PySem.W.Frag) : Bool := (tabNd tfL K && (errB errL K && supB K "BadNumber" "BadNumber.__init__" fileS "part"))
structure CgF (K : PySem.W.Frag) (mg : Str → Option Value) : Prop where
  ex : ∃ fd, FunD K "_law_caught" "_law_caught" (defArgs s__law_caught) (defBody s__law_caught) (defScope s__law_caught) [] [] (He.ga K "_law_caught") fd
  hm : mg "_law_caught" = some (.ref (He.ga K "_law_caught"))
  me : mg "MeetError" = some (.ref (He.ga K "MeetError"))
theorem iniE_BadNumber {P : Program} (h1 : P.main.file = fileS) (h2 : (P.main.scope.names.lookup ("super" : Str)).isSome = false) : IniE P (defArgs i_BadNumber) (defBody i_BadNumber) (defScope i_BadNumber) fileS "part" :=
  ⟨_, _, _, _, _, _, _, _, _, _, _, _, _, rfl, ⟨h1, h2, by rfl, fun _ _ _ _ _ _ _ _ _ _ _ => rfl, by rfl, by rfl, by rfl, by decide +kernel, by decide +kernel, by decide +kernel, by decide +kernel, by decide +kernel, fun en e => by cases en; cases e; exact ⟨_, rfl⟩, fun en e => by cases en; cases e; rfl, fun en e => by cases en; cases e; rfl, fun en e => by cases en; cases e; rfl, by decide +kernel, by decide +kernel⟩⟩
structure Fx (K : PySem.W.Frag) (mg : Str → Option Value) (P : Program) : Prop where
  f_ValueError : mg "ValueError" = none
  f_abs : mg "abs" = none
  f_all : mg "all" = none
  f_bool : mg "bool" = none
  f_enumerate : mg "enumerate" = none
  f_int : mg "int" = none
  f_isinstance : mg "isinstance" = none
  f_len : mg "len" = none
  f_list : mg "list" = none
  f_min : mg "min" = none
  f_range : mg "range" = none
  f_repr : mg "repr" = none
  f_sorted : mg "sorted" = none
  f_super : mg "super" = none
  f_tuple : mg "tuple" = none
  f_MOST_THINGS : ∃ t, mg "MOST_THINGS" = some (.int 24 t)
  errs : ErrF errL K
  cg : CgF K mg
  c_BadNumber : mg "BadNumber" = some (.ref (He.ga K "BadNumber"))
  c_BadRule : mg "BadRule" = some (.ref (He.ga K "BadRule"))
  c_BadTable : mg "BadTable" = some (.ref (He.ga K "BadTable"))
  e_BadRule : PySem.W.excIn K (He.ga K "BadRule") He.veBase "ValueError.__new__" = true ∧ PySem.W.keepIn K (.ref (He.ga K "BadRule")) = true ∧ PySem.W.subIn K (.ref (He.ga K "BadRule")) (.type "BaseException") = some true ∧ PySem.W.typeIn K (.ref (He.ga K "BadRule")) = some (.type "type")
  e_BadTable : PySem.W.excIn K (He.ga K "BadTable") He.veBase "ValueError.__new__" = true ∧ PySem.W.keepIn K (.ref (He.ga K "BadTable")) = true ∧ PySem.W.subIn K (.ref (He.ga K "BadTable")) (.type "BaseException") = some true ∧ PySem.W.typeIn K (.ref (He.ga K "BadTable")) = some (.type "type")
  s_BadNumber : SupC K (He.ga K "BadNumber") (He.ma K (He.ga K "BadNumber") "__init__") "BadNumber.__init__" (defArgs i_BadNumber) (defBody i_BadNumber) (defScope i_BadNumber) fileS ∧ PySem.W.findIn K (.ref (He.ga K "BadNumber")) "part" = some none
  u_BadNumber : IniE P (defArgs i_BadNumber) (defBody i_BadNumber) (defScope i_BadNumber) fileS "part"
  one : True
/-! the draws -/
abbrev N__law_begun : List Str := ["script", "large", "cell"]
theorem sc__law_begun : FnScope N__law_begun ["script"] (defScope s__law_begun) := ⟨by rfl, by rfl, by rfl, by decide +kernel, by rfl, by decide +kernel, by decide +kernel⟩
def bgT (K : PySem.W.Frag) (E : XK) : TS := tSeq (tAsg (tLc (iList K (tVar 0)) (tgOfR K false (tg1 2) [2]) (ttOf K B0 (asB (dBin (oCmp fun i j => decide (j ≤ i)) (dUn oAbs (dNm 2)) (dBin oPow (dC (.int 10)) (dC (.int 18)))))) (tOf K B0 .s (dBin oSub (dUn oAbs (dNm 2)) (dBin oPow (dC (.int 10)) (dC (.int 18))))) [2]) (gName 1))
  (tRet (tDisp [(tC (.str "large"), tVar 1), (tC (.str "cells"), tLc (iList K (tVar 0)) (tgOfR K false (tg1 2) [2]) (ttOf K B0 bYes) (tOf K B0 .s (dUn oAbs (dNm 2))) [2]), (tC (.str "rest"), tC (.int 0)), (tC (.str lapKey), tC (.int 0))]))
theorem der__law_begun {X : Cx} {B : Bd} {E : XK} (hfn : ∀ y, X.fn y = true) (fx : Fx X.K X.mg X.prog) (cf : Cf X B N__law_begun (defScope s__law_begun) 0) : PSs X (defBody s__law_begun) (bgT X.K E) :=
  pss_cons (ps_setLc (own := [("cell", 2)]) cf.calm cf.nd (st_of cf 1 (by decide +kernel)).1 (loc_of cf (by decide +kernel)) (swi_of cf (by intro en hS; cases en; cases hS; rfl)) (pi_list (nm cf 0 (by decide +kernel))) (blk_of cf (by decide +kernel))
      (fun s1 H1 C1 l1 p1 => (pt1_nm (pg_name (i := 2) (Cf.blk cf _ s1 H1 C1 l1 p1).nd (st_of (Cf.blk cf _ s1 H1 C1 l1 p1) 2 (by decide +kernel)).1 (st_of (Cf.blk cf _ s1 H1 C1 l1 p1) 2 (by decide +kernel)).2 (.inr (loc_of (Cf.blk cf _ s1 H1 C1 l1 p1) (by decide +kernel))))))
      (fun s1 H1 C1 l1 p1 => (pts_1 (pb_cmp op_ge (od_i0 fun _ _ => rfl) (nomark _) (so (pd_abs (gl (Cf.blk cf _ s1 H1 C1 l1 p1) (by decide +kernel)) fx.f_abs (so (pd_nm (nm (Cf.blk cf _ s1 H1 C1 l1 p1) 2 (by decide +kernel)))))) (so (pd_pow (so pd_int) (so pd_int))))))
      (fun s1 H1 C1 l1 p1 => (pd_sub (so (pd_abs (gl (Cf.blk cf _ s1 H1 C1 l1 p1) (by decide +kernel)) fx.f_abs (so (pd_nm (nm (Cf.blk cf _ s1 H1 C1 l1 p1) 2 (by decide +kernel)))))) (so (pd_pow (so pd_int) (so pd_int))))) (by intro _; rfl))
    (pss_one (ps_ret (pe_disp (pps_cons pe_str (nm cf 1 (by decide +kernel)) (pps_cons pe_str (pe_lc (own := [("cell", 2)]) cf.calm cf.nd (pi_list (nm cf 0 (by decide +kernel))) (blk_of cf (by decide +kernel))
      (fun s1 H1 C1 l1 p1 => (pt1_nm (pg_name (i := 2) (Cf.blk cf _ s1 H1 C1 l1 p1).nd (st_of (Cf.blk cf _ s1 H1 C1 l1 p1) 2 (by decide +kernel)).1 (st_of (Cf.blk cf _ s1 H1 C1 l1 p1) 2 (by decide +kernel)).2 (.inr (loc_of (Cf.blk cf _ s1 H1 C1 l1 p1) (by decide +kernel))))))
      (fun s1 H1 C1 l1 p1 => pts_no) (fun s1 H1 C1 l1 p1 => (pd_abs (gl (Cf.blk cf _ s1 H1 C1 l1 p1) (by decide +kernel)) fx.f_abs (so (pd_nm (nm (Cf.blk cf _ s1 H1 C1 l1 p1) 2 (by decide +kernel)))))) (by intro _; rfl)) (pps_cons pe_str pe_int (pps_cons pe_str pe_int pps_nil)))) (by rfl) (by rfl) (by intro z; cases z) (by decide))))
theorem cal__law_begun {P : Program} {w : World} {K : PySem.W.Frag} {mg : Str → Option Value} {base : Heap} {f : Addr} {fd : FuncData} (F : FunD K "_law_begun" "_law_begun" (defArgs s__law_begun) (defBody s__law_begun) (defScope s__law_begun) [] [] f fd) (g : mg "_law_begun" = some (.ref f)) (fx : Fx K mg P) : CalS P w K mg base "_law_begun" 1 (spBegun K) := by
  refine ⟨f, fd, ["script"], fng_of F sc__law_begun (fun vs H Q E h => ?_) (fun cdv A outer s H vs Q E hcd hr hg h => ?_), g, F.kp, F.bindsN fun _ _ _ _ _ _ us hl => match us, hl with | [_], _ => rfl⟩
  · obtain ⟨a, ns, rfl, _⟩ := h; rfl
  · have cf : Cf (cxOf (L2.CX P w) P w K mg base N__law_begun "_law_begun" (defScope s__law_begun) f cdv A outer s H E) B0 N__law_begun (defScope s__law_begun) 0 := ⟨rfl, rfl, sc__law_begun.nd, rfl, hr, hg, passes_of rfl, E, passes_call (takes_of rfl rfl rfl rfl) fun _ _ _ _ h => h, fun _ _ _ _ _ _ z => z.elim, takes_of rfl rfl rfl rfl⟩
    refine ⟨_, der__law_begun (E := E) (fun _ => rfl) fx cf, ?_⟩
    obtain ⟨a, ns, rfl, hS, hz, hQ⟩ := h
    have hp : CPow 10 18 := ⟨by decide, by decide, by decide⟩
    simp only [bgT, tSeq, tAsg]
    refine sc_lc (σ := L2.start N__law_begun [V.ref a]) (i := 0) (j := 2) rfl (by show 2 < 3; decide) hz hS (fun n P hP => ?_) (fun n P hP => ?_) fun D ms H' nD hk hD hl => ?_
    · exact ⟨hp, hP _⟩
    · exact ⟨hp, hP _⟩
    · show gName 1 (V.ref D) _ H' _
      refine begun_ret (H0 := H) (i := 0) (j := 2) (a := a) (l := D) (ns := ns) (ms := ms) rfl rfl (by show 2 < 3; decide) hz hS hk nD hD (fun n P hP => hP _) (fun n P hP => hP _) hQ
def sp__law_blend : MT.Spec := fun args P er => args = [.dr] ∧ ∀ n : Int, P (.int n)
def sp__law_take : MT.Spec := fun args P er => ∃ n : Int, args = [.dr, .d (.int n)] ∧ 0 < n ∧ n < 1000000 ∧ ∀ k : Int, 0 ≤ k → k < n → P (.int k)

theorem px_law_caught {X : Cx} {B : Bd} {N : List Str} {sc : Scope} {lv k : Nat} {T : List (Addr × Str)} {c P : Addr} {params : Arguments} {body : Expr} {scope : Scope} {md : List Slot → W PyData} {lpos p pos : Pos} (cf : Cf X B N sc lv) (lf : Lf X B T c P) (ef : ErrF errL X.K) (cg : CgF X.K X.mg) (hk : k + 2 ≤ lv) (hg : Gl X "_law_caught") (Ls : LamX.lamSB sc scope = true)
    (hdef : defaultsOf params X.env = ([], [])) (hbind : ∀ (q : Str) (cl : List (Str × Addr)) (pm cv ctv : Value), bindArgs (PySem.W.kla_fn "<lambda>" q params body scope cl pm cv ctv) ⟨[], []⟩ = pure [])
    (der : ∀ (A : Around) (outer : List Env) (s : Shared) (H : Hp) (E : XK) (er : Exn → Prop) (f cc : Addr), Cf (LamX.lamCx X A outer s H E scope f cc) (bdOf X.K (· = T) er E) N scope k → PD (LamX.lamCx X A outer s H E scope f cc) (bdOf X.K (· = T) er E) .s body md) : PX X B (.Call (.Name "_law_caught" p) [.Lambda params body scope lpos] [] pos) (dCaught errL md) := by
  obtain ⟨fd, F⟩ := cg.ex
  have bd : L2.Binds X.K fd ["work"] [] := F.bindsN fun _ _ _ _ _ _ us hl => match us, hl with | [_], _ => rfl
  exact px_caught (p14 := p) (a := "work") (m := "caught") (n := "error") cf lf ef hk F hg cg.hm bd ⟨by rfl, by rfl, by rfl, by decide +kernel, by rfl, by decide +kernel, by decide +kernel⟩ (by decide +kernel) (by decide +kernel) (by decide +kernel) (by decide +kernel) cg.me Ls hdef hbind der (by decide +kernel)
abbrev N_is_number : List Str := ["thing"]
def fb_is_number : WS := (dRet (dAnd (dUn (oIsi isI) (dNm 0)) (dNot (dUn (oIsi isBl) (dNm 0)))))
def sp_is_number : MT.Spec := bodyW 1 fb_is_number
theorem sc_is_number : FnScope N_is_number ["thing"] (defScope s_is_number) := ⟨by rfl, by rfl, by rfl, by decide +kernel, by rfl, by decide +kernel, by decide +kernel⟩
theorem der_is_number {X : Cx} {B : Bd} (hfn : ∀ y, X.fn y = true) (fx : Fx X.K X.mg X.prog) (cf : Cf X B N_is_number (defScope s_is_number) 0) :
    SDs X B (defBody s_is_number) (fb_is_number) :=
  (sd_one (sd_ret (sw (pd_and (pd_isi kit_int (gl cf (by decide +kernel)) fx.f_isinstance (gl cf (by decide +kernel)) fx.f_int PyProof.Rows.boot_int (so (pd_nm (nm cf 0 (by decide +kernel))))) (pd_one (pd_not (pd_isi kit_bool (gl cf (by decide +kernel)) fx.f_isinstance (gl cf (by decide +kernel)) fx.f_bool boot_bool' (so (pd_nm (nm cf 0 (by decide +kernel)))))))))))
theorem cal_is_number {P : Program} {w : World} {K : PySem.W.Frag} {mg : Str → Option Value} {base : Heap} {f : Addr} {fd : FuncData} (F : FunD K "is_number" "is_number" (defArgs s_is_number) (defBody s_is_number) (defScope s_is_number) [] [] f fd) (g : mg "is_number" = some (.ref f)) (fx : Fx K mg P) : Cal P w K mg base "is_number" 1 1 sp_is_number :=
  cal_of F g sc_is_number (F.bindsN fun _ _ _ _ _ _ us hl => match us, hl with | [_], _ => rfl) (by decide) (fun X B h1 h2 h3 h4 h5 hfn cf => by subst h1 h2 h3 h4 h5; exact der_is_number hfn fx cf) (fun args P er h => h)
abbrev N_is_between : List Str := ["thing", "low", "high"]
def fb_is_between : WS := (dRet (dAnd (dCall 1 sp_is_number (dCons (dNm 0) dNil)) (dChain (oCmp fun i j => decide (i ≤ j)) (oCmp fun i j => decide (i ≤ j)) (dNm 1) (dNm 0) (dNm 2))))
def sp_is_between : MT.Spec := bodyW 3 fb_is_between
theorem sc_is_between : FnScope N_is_between ["thing", "low", "high"] (defScope s_is_between) := ⟨by rfl, by rfl, by rfl, by decide +kernel, by rfl, by decide +kernel, by decide +kernel⟩
theorem der_is_between {X : Cx} {B : Bd} (hfn : ∀ y, X.fn y = true) (fx : Fx X.K X.mg X.prog) (cf : Cf X B N_is_between (defScope s_is_between) 1) (c_is_number : Cal X.prog X.w X.K X.mg X.base "is_number" 1 1 sp_is_number) :
    SDs X B (defBody s_is_between) (fb_is_between) :=
  (sd_one (sd_ret (sw (pd_and (pd_call cf (by rfl) c_is_number (by decide) (gl cf (by decide +kernel)) (pl_cons (pd_nm (nm cf 0 (by decide +kernel))) pl_nil) (by decide +kernel)) (pd_one (pd_chain op_le op_le (od_i0 fun _ _ => rfl) (od_i0 fun _ _ => rfl) (so (pd_nm (nm cf 1 (by decide +kernel)))) (so (pd_nm (nm cf 0 (by decide +kernel)))) (so (pd_nm (nm cf 2 (by decide +kernel))))))))))
theorem cal_is_between {P : Program} {w : World} {K : PySem.W.Frag} {mg : Str → Option Value} {base : Heap} {f : Addr} {fd : FuncData} (F : FunD K "is_between" "is_between" (defArgs s_is_between) (defBody s_is_between) (defScope s_is_between) [] [] f fd) (g : mg "is_between" = some (.ref f)) (fx : Fx K mg P) (c_is_number : Cal P w K mg base "is_number" 1 1 sp_is_number) : Cal P w K mg base "is_between" 2 3 sp_is_between :=
  cal_of F g sc_is_between (F.bindsN fun _ _ _ _ _ _ us hl => match us, hl with | [_, _, _], _ => rfl) (by decide) (fun X B h1 h2 h3 h4 h5 hfn cf => by subst h1 h2 h3 h4 h5; exact der_is_between hfn fx cf c_is_number) (fun args P er h => h)
abbrev N_is_tuple : List Str := ["thing", "size"]
def fb_is_tuple : WS := (dRet (dAnd (dUn (oIsi isT) (dNm 0)) (dBin oEq (dUn oLen (dNm 0)) (dNm 1))))
def sp_is_tuple : MT.Spec := bodyW 2 fb_is_tuple
theorem sc_is_tuple : FnScope N_is_tuple ["thing", "size"] (defScope s_is_tuple) := ⟨by rfl, by rfl, by rfl, by decide +kernel, by rfl, by decide +kernel, by decide +kernel⟩
theorem der_is_tuple {X : Cx} {B : Bd} (hfn : ∀ y, X.fn y = true) (fx : Fx X.K X.mg X.prog) (cf : Cf X B N_is_tuple (defScope s_is_tuple) 0) :
    SDs X B (defBody s_is_tuple) (fb_is_tuple) :=
  (sd_one (sd_ret (sw (pd_and (pd_isi kit_tuple (gl cf (by decide +kernel)) fx.f_isinstance (gl cf (by decide +kernel)) fx.f_tuple PyProof.Rows.boot_tuple (so (pd_nm (nm cf 0 (by decide +kernel))))) (pd_one (pd_cmp (op_eqD cf.u4) od_eq (nomark _) (so (pd_len (gl cf (by decide +kernel)) fx.f_len (so (pd_nm (nm cf 0 (by decide +kernel)))))) (so (pd_nm (nm cf 1 (by decide +kernel))))))))))
theorem cal_is_tuple {P : Program} {w : World} {K : PySem.W.Frag} {mg : Str → Option Value} {base : Heap} {f : Addr} {fd : FuncData} (F : FunD K "is_tuple" "is_tuple" (defArgs s_is_tuple) (defBody s_is_tuple) (defScope s_is_tuple) [] [] f fd) (g : mg "is_tuple" = some (.ref f)) (fx : Fx K mg P) : Cal P w K mg base "is_tuple" 1 2 sp_is_tuple :=
  cal_of F g sc_is_tuple (F.bindsN fun _ _ _ _ _ _ us hl => match us, hl with | [_, _], _ => rfl) (by decide) (fun X B h1 h2 h3 h4 h5 hfn cf => by subst h1 h2 h3 h4 h5; exact der_is_tuple hfn fx cf) (fun args P er h => h)
abbrev N_need_between : List Str := ["number", "low", "high", "part"]
def fb_need_between : WS := (dIfS (bNot (asB (dCall 3 sp_is_between (dCons (dNm 0) (dCons (dNm 1) (dCons (dNm 2) dNil)))))) (dRaiseF "BadNumber" "part" (dNm 3)) dNext)
def sp_need_between : MT.Spec := bodyW 4 fb_need_between
theorem sc_need_between : FnScope N_need_between ["number", "low", "high", "part"] (defScope s_need_between) := ⟨by rfl, by rfl, by rfl, by decide +kernel, by rfl, by decide +kernel, by decide +kernel⟩
theorem der_need_between {X : Cx} {B : Bd} (hfn : ∀ y, X.fn y = true) (fx : Fx X.K X.mg X.prog) (cf : Cf X B N_need_between (defScope s_need_between) 2) (c_is_between : Cal X.prog X.w X.K X.mg X.base "is_between" 2 3 sp_is_between) :
    SDs X B (defBody s_need_between) (fb_need_between) :=
  (sd_one (sd_if (pb_not (pb_val (pd_call cf (by rfl) c_is_between (by decide) (gl cf (by decide +kernel)) (pl_cons (pd_nm (nm cf 0 (by decide +kernel))) (pl_cons (pd_nm (nm cf 1 (by decide +kernel))) (pl_cons (pd_nm (nm cf 2 (by decide +kernel))) pl_nil))) (by decide +kernel)))) (sd_one (sd_raiseF cf (by decide) fx.s_BadNumber.1 fx.u_BadNumber fx.s_BadNumber.2 fx.f_super (gl cf (by decide +kernel)) fx.c_BadNumber (by decide +kernel) (pd_nm (nm cf 3 (by decide +kernel))))) sd_nil))
theorem cal_need_between {P : Program} {w : World} {K : PySem.W.Frag} {mg : Str → Option Value} {base : Heap} {f : Addr} {fd : FuncData} (F : FunD K "need_between" "need_between" (defArgs s_need_between) (defBody s_need_between) (defScope s_need_between) [] [] f fd) (g : mg "need_between" = some (.ref f)) (fx : Fx K mg P) (c_is_between : Cal P w K mg base "is_between" 2 3 sp_is_between) : Cal P w K mg base "need_between" 3 4 sp_need_between :=
  cal_of F g sc_need_between (F.bindsN fun _ _ _ _ _ _ us hl => match us, hl with | [_, _, _, _], _ => rfl) (by decide) (fun X B h1 h2 h3 h4 h5 hfn cf => by subst h1 h2 h3 h4 h5; exact der_need_between hfn fx cf c_is_between) (fun args P er h => h)
abbrev N_is_turn_told : List Str := ["n", "thing", "one"]
def fb_is_turn_told : WS := (dSeq (dIfS (bOr (bNot (asB (dCall 2 sp_is_tuple (dCons (dNm 1) (dCons (dNm 0) dNil))))) (bNot (asB (dUn oAll (dLc (dItems (dNm 1)) (tg1 2) bYes (dCall 3 sp_is_between (dCons (dNm 2) (dCons (dC (.int 0)) (dCons (dBin oSub (dNm 0) (dC (.int 1))) dNil)))) [2]))))) (dRet (dC (.bool false))) dNext)
  (dRet (dBin oEq (dLenDc (dItems (dNm 1)) (tg1 2) (dNm 2) (dC (.bool true)) [2]) (dNm 0))))
def sp_is_turn_told : MT.Spec := bodyW 3 fb_is_turn_told
theorem sc_is_turn_told : FnScope N_is_turn_told ["n", "thing"] (defScope s_is_turn_told) := ⟨by rfl, by rfl, by rfl, by decide +kernel, by rfl, by decide +kernel, by decide +kernel⟩
theorem der_is_turn_told {X : Cx} {B : Bd} (hfn : ∀ y, X.fn y = true) (fx : Fx X.K X.mg X.prog) (cf : Cf X B N_is_turn_told (defScope s_is_turn_told) 2) (c_is_tuple : Cal X.prog X.w X.K X.mg X.base "is_tuple" 1 2 sp_is_tuple) (c_is_between : Cal X.prog X.w X.K X.mg X.base "is_between" 2 3 sp_is_between) :
    SDs X B (defBody s_is_turn_told) (fb_is_turn_told) :=
  (sd_cons (sd_if (pb_w (pbw_or (pb_not (pb_val (pd_call cf (by rfl) c_is_tuple (by decide) (gl cf (by decide +kernel)) (pl_cons (pd_nm (nm cf 1 (by decide +kernel))) (pl_cons (pd_nm (nm cf 0 (by decide +kernel))) pl_nil)) (by decide +kernel)))) (pbw_or1 (pb_not (pb_val (pd_all cf.calm (gl cf (by decide +kernel)) fx.f_all (so (pd_lc (.inl rfl) cf.calm cf.nd (pit_seq (.inl rfl) (pd_nm (nm cf 1 (by decide +kernel)))) (blk_of cf (by decide +kernel)) (fun s1 H1 C1 l1 p1 => (pt1_nm (pg_name (i := 2) (Cf.blk cf _ s1 H1 C1 l1 p1).nd (st_of (Cf.blk cf _ s1 H1 C1 l1 p1) 2 (by decide +kernel)).1 (st_of (Cf.blk cf _ s1 H1 C1 l1 p1) 2 (by decide +kernel)).2 (by first | exact .inr (loc_of (Cf.blk cf _ s1 H1 C1 l1 p1) (by decide +kernel)) | exact .inl (fnc_of (by decide +kernel)))))) (by decide) (fun s1 H1 C1 l1 p1 => pts_no) (fun s1 H1 C1 l1 p1 => (pd_call (Cf.blk cf _ s1 H1 C1 l1 p1) (by rfl) c_is_between (by decide) (gl (Cf.blk cf _ s1 H1 C1 l1 p1) (by decide +kernel)) (pl_cons (pd_nm (nm (Cf.blk cf _ s1 H1 C1 l1 p1) 2 (by decide +kernel))) (pl_cons pd_int (pl_cons (pd_sub (so (pd_nm (nm (Cf.blk cf _ s1 H1 C1 l1 p1) 0 (by decide +kernel)))) (so pd_int)) pl_nil))) (by decide +kernel))) (own := [("one", 2)]))))))))) (sd_one (sd_ret (sw pd_bl))) sd_nil) (sd_one (sd_ret (sw (pd_cmp (op_eqD cf.u4) od_eq (nomark _) (so (pd_lenDc (.inl rfl) cf.calm cf.nd (gl cf (by decide +kernel)) fx.f_len (pit_seq (.inl rfl) (pd_nm (nm cf 1 (by decide +kernel)))) (blk_of cf (by decide +kernel)) (fun s1 H1 C1 l1 p1 => (pt1_nm (pg_name (i := 2) (Cf.blk cf _ s1 H1 C1 l1 p1).nd (st_of (Cf.blk cf _ s1 H1 C1 l1 p1) 2 (by decide +kernel)).1 (st_of (Cf.blk cf _ s1 H1 C1 l1 p1) 2 (by decide +kernel)).2 (by first | exact .inr (loc_of (Cf.blk cf _ s1 H1 C1 l1 p1) (by decide +kernel)) | exact .inl (fnc_of (by decide +kernel)))))) (by decide) (fun s1 H1 C1 l1 p1 => (pd_nm (nm (Cf.blk cf _ s1 H1 C1 l1 p1) 2 (by decide +kernel)))) (fun s1 H1 C1 l1 p1 => pd_bl) (own := [("one", 2)]))) (so (pd_nm (nm cf 0 (by decide +kernel)))))))))
theorem cal_is_turn_told {P : Program} {w : World} {K : PySem.W.Frag} {mg : Str → Option Value} {base : Heap} {f : Addr} {fd : FuncData} (F : FunD K "is_turn_told" "is_turn_told" (defArgs s_is_turn_told) (defBody s_is_turn_told) (defScope s_is_turn_told) [] [] f fd) (g : mg "is_turn_told" = some (.ref f)) (fx : Fx K mg P) (c_is_tuple : Cal P w K mg base "is_tuple" 1 2 sp_is_tuple) (c_is_between : Cal P w K mg base "is_between" 2 3 sp_is_between) : Cal P w K mg base "is_turn_told" 3 2 sp_is_turn_told :=
  cal_of F g sc_is_turn_told (F.bindsN fun _ _ _ _ _ _ us hl => match us, hl with | [_, _], _ => rfl) (by decide) (fun X B h1 h2 h3 h4 h5 hfn cf => by subst h1 h2 h3 h4 h5; exact der_is_turn_told hfn fx cf c_is_tuple c_is_between) (fun args P er h => h)
abbrev N_turn_after : List Str := ["p", "q", "one"]
def fb_turn_after : WS := (dRet (dUn oTuple (dLc (dItems (dNm 1)) (tg1 2) bYes (dBin oIx (dNm 0) (dNm 2)) [2])))
def sp_turn_after : MT.Spec := bodyW 3 fb_turn_after
theorem sc_turn_after : FnScope N_turn_after ["p", "q"] (defScope s_turn_after) := ⟨by rfl, by rfl, by rfl, by decide +kernel, by rfl, by decide +kernel, by decide +kernel⟩
theorem der_turn_after {X : Cx} {B : Bd} (hfn : ∀ y, X.fn y = true) (fx : Fx X.K X.mg X.prog) (cf : Cf X B N_turn_after (defScope s_turn_after) 0) :
    SDs X B (defBody s_turn_after) (fb_turn_after) :=
  (sd_one (sd_ret (sw (pd_tuple (gl cf (by decide +kernel)) fx.f_tuple (so (pd_lc (.inl rfl) cf.calm cf.nd (pit_seq (.inl rfl) (pd_nm (nm cf 1 (by decide +kernel)))) (blk_of cf (by decide +kernel)) (fun s1 H1 C1 l1 p1 => (pt1_nm (pg_name (i := 2) (Cf.blk cf _ s1 H1 C1 l1 p1).nd (st_of (Cf.blk cf _ s1 H1 C1 l1 p1) 2 (by decide +kernel)).1 (st_of (Cf.blk cf _ s1 H1 C1 l1 p1) 2 (by decide +kernel)).2 (by first | exact .inr (loc_of (Cf.blk cf _ s1 H1 C1 l1 p1) (by decide +kernel)) | exact .inl (fnc_of (by decide +kernel)))))) (by decide) (fun s1 H1 C1 l1 p1 => pts_no) (fun s1 H1 C1 l1 p1 => (pd_ix (so (pd_nm (nm (Cf.blk cf _ s1 H1 C1 l1 p1) 0 (by decide +kernel)))) (so (pd_nm (nm (Cf.blk cf _ s1 H1 C1 l1 p1) 2 (by decide +kernel)))))) (own := [("one", 2)])))))))
theorem cal_turn_after {P : Program} {w : World} {K : PySem.W.Frag} {mg : Str → Option Value} {base : Heap} {f : Addr} {fd : FuncData} (F : FunD K "turn_after" "turn_after" (defArgs s_turn_after) (defBody s_turn_after) (defScope s_turn_after) [] [] f fd) (g : mg "turn_after" = some (.ref f)) (fx : Fx K mg P) : Cal P w K mg base "turn_after" 1 2 sp_turn_after :=
  cal_of F g sc_turn_after (F.bindsN fun _ _ _ _ _ _ us hl => match us, hl with | [_, _], _ => rfl) (by decide) (fun X B h1 h2 h3 h4 h5 hfn cf => by subst h1 h2 h3 h4 h5; exact der_turn_after hfn fx cf) (fun args P er h => h)
abbrev N_turn_back : List Str := ["p", "found", "at", "one"]
def fb_turn_back : WS := (dSeq (dOwn 1 (fBin repOf (dLst (dCons (dC (.int 0)) dNil)) (dUn oLen (dNm 0))))
  (dSeq (dFor (dEnum (dNm 0)) (tgT ((tg1 2) :: (tg1 3) :: [])) (dPut 1 (dNm 2) (dNm 3)))
  (dRet (dUn oTuple (dOw 1)))))
def sp_turn_back : MT.Spec := bodyW 4 fb_turn_back
theorem sc_turn_back : FnScope N_turn_back ["p"] (defScope s_turn_back) := ⟨by rfl, by rfl, by rfl, by decide +kernel, by rfl, by decide +kernel, by decide +kernel⟩
theorem der_turn_back {X : Cx} {B : Bd} (hfn : ∀ y, X.fn y = true) (fx : Fx X.K X.mg X.prog) (cf : Cf X B N_turn_back (defScope s_turn_back) 0) :
    SDs X B (defBody s_turn_back) (fb_turn_back) :=
  (sd_cons (sd_own cf.nd (st_of cf 1 (by decide +kernel)).1 (st_of cf 1 (by decide +kernel)).2 (pf_rep (so (pd_lst (pl_cons pd_int pl_nil))) (so (pd_len (gl cf (by decide +kernel)) fx.f_len (so (pd_nm (nm cf 0 (by decide +kernel))))))) (.inl (hfn _))) (sd_cons (sd_for cf.ps cf.calm (pit_enum (.inl rfl) (gl cf (by decide +kernel)) fx.f_enumerate (pd_nm (nm cf 0 (by decide +kernel)))) (pt1_tup cf.calm (pts_cn (pt1_nm (pg_name (i := 2) cf.nd (st_of cf 2 (by decide +kernel)).1 (st_of cf 2 (by decide +kernel)).2 (.inl (hfn _)))) (pts_cn (pt1_nm (pg_name (i := 3) cf.nd (st_of cf 3 (by decide +kernel)).1 (st_of cf 3 (by decide +kernel)).2 (.inl (hfn _)))) pts_nl))) (sd_one (sd_put (ps_asg (pd_nm (nm cf 2 (by decide +kernel))) (pg_sub (nm cf 1 (by decide +kernel)) (so (pd_nm (nm cf 3 (by decide +kernel)))) set_list))))) (sd_one (sd_ret (sw (pd_tuple (gl cf (by decide +kernel)) fx.f_tuple (pd_ow (nm cf 1 (by decide +kernel)))))))))
theorem cal_turn_back {P : Program} {w : World} {K : PySem.W.Frag} {mg : Str → Option Value} {base : Heap} {f : Addr} {fd : FuncData} (F : FunD K "turn_back" "turn_back" (defArgs s_turn_back) (defBody s_turn_back) (defScope s_turn_back) [] [] f fd) (g : mg "turn_back" = some (.ref f)) (fx : Fx K mg P) : Cal P w K mg base "turn_back" 1 1 sp_turn_back :=
  cal_of F g sc_turn_back (F.bindsN fun _ _ _ _ _ _ us hl => match us, hl with | [_], _ => rfl) (by decide) (fun X B h1 h2 h3 h4 h5 hfn cf => by subst h1 h2 h3 h4 h5; exact der_turn_back hfn fx cf) (fun args P er h => h)
abbrev N_is_table_told : List Str := ["thing", "one"]
def fb_is_table_told : WS := (dSeq (dIfS (bOr (bNot (asB (dUn (oIsi isT) (dNm 0)))) (bNot (asB (dChain (oCmp fun i j => decide (i ≤ j)) (oCmp fun i j => decide (i ≤ j)) (dC (.int 1)) (dUn oLen (dNm 0)) (dC (.int (24))))))) (dRet (dC (.bool false))) dNext)
  (dRet (dUn oAll (dLc (dItems (dNm 0)) (tg1 1) bYes (dCall 2 sp_is_turn_told (dCons (dUn oLen (dNm 0)) (dCons (dNm 1) dNil))) [1]))))
def sp_is_table_told : MT.Spec := bodyW 2 fb_is_table_told
theorem sc_is_table_told : FnScope N_is_table_told ["thing"] (defScope s_is_table_told) := ⟨by rfl, by rfl, by rfl, by decide +kernel, by rfl, by decide +kernel, by decide +kernel⟩
theorem der_is_table_told {X : Cx} {B : Bd} (hfn : ∀ y, X.fn y = true) (fx : Fx X.K X.mg X.prog) (cf : Cf X B N_is_table_told (defScope s_is_table_told) 3) (c_is_turn_told : Cal X.prog X.w X.K X.mg X.base "is_turn_told" 3 2 sp_is_turn_told) :
    SDs X B (defBody s_is_table_told) (fb_is_table_told) :=
  (sd_cons (sd_if (pb_w (pbw_or (pb_not (pb_val (pd_isi kit_tuple (gl cf (by decide +kernel)) fx.f_isinstance (gl cf (by decide +kernel)) fx.f_tuple PyProof.Rows.boot_tuple (so (pd_nm (nm cf 0 (by decide +kernel))))))) (pbw_or1 (pb_not (pb_chain op_le op_le (od_i0 fun _ _ => rfl) (od_i0 fun _ _ => rfl) (so pd_int) (so (pd_len (gl cf (by decide +kernel)) fx.f_len (so (pd_nm (nm cf 0 (by decide +kernel)))))) (so (pd_gint (gl cf (by decide +kernel)) fx.f_MOST_THINGS (by decide +kernel)))))))) (sd_one (sd_ret (sw pd_bl))) sd_nil) (sd_one (sd_ret (sw (pd_all cf.calm (gl cf (by decide +kernel)) fx.f_all (so (pd_lc (.inl rfl) cf.calm cf.nd (pit_seq (.inl rfl) (pd_nm (nm cf 0 (by decide +kernel)))) (blk_of cf (by decide +kernel)) (fun s1 H1 C1 l1 p1 => (pt1_nm (pg_name (i := 1) (Cf.blk cf _ s1 H1 C1 l1 p1).nd (st_of (Cf.blk cf _ s1 H1 C1 l1 p1) 1 (by decide +kernel)).1 (st_of (Cf.blk cf _ s1 H1 C1 l1 p1) 1 (by decide +kernel)).2 (by first | exact .inr (loc_of (Cf.blk cf _ s1 H1 C1 l1 p1) (by decide +kernel)) | exact .inl (fnc_of (by decide +kernel)))))) (by decide) (fun s1 H1 C1 l1 p1 => pts_no) (fun s1 H1 C1 l1 p1 => (pd_call (Cf.blk cf _ s1 H1 C1 l1 p1) (by rfl) c_is_turn_told (by decide) (gl (Cf.blk cf _ s1 H1 C1 l1 p1) (by decide +kernel)) (pl_cons (pd_len (gl (Cf.blk cf _ s1 H1 C1 l1 p1) (by decide +kernel)) fx.f_len (so (pd_nm (nm (Cf.blk cf _ s1 H1 C1 l1 p1) 0 (by decide +kernel))))) (pl_cons (pd_nm (nm (Cf.blk cf _ s1 H1 C1 l1 p1) 1 (by decide +kernel))) pl_nil)) (by decide +kernel))) (own := [("one", 1)]))))))))
theorem cal_is_table_told {P : Program} {w : World} {K : PySem.W.Frag} {mg : Str → Option Value} {base : Heap} {f : Addr} {fd : FuncData} (F : FunD K "is_table_told" "is_table_told" (defArgs s_is_table_told) (defBody s_is_table_told) (defScope s_is_table_told) [] [] f fd) (g : mg "is_table_told" = some (.ref f)) (fx : Fx K mg P) (c_is_turn_told : Cal P w K mg base "is_turn_told" 3 2 sp_is_turn_told) : Cal P w K mg base "is_table_told" 4 1 sp_is_table_told :=
  cal_of F g sc_is_table_told (F.bindsN fun _ _ _ _ _ _ us hl => match us, hl with | [_], _ => rfl) (by decide) (fun X B h1 h2 h3 h4 h5 hfn cf => by subst h1 h2 h3 h4 h5; exact der_is_table_told hfn fx cf c_is_turn_told) (fun args P er h => h)
abbrev N_need_table : List Str := ["table"]
def fb_need_table : WS := (dIfS (bNot (asB (dCall 1 sp_is_table_told (dCons (dNm 0) dNil)))) (dRaise "BadTable") dNext)
def sp_need_table : MT.Spec := bodyW 1 fb_need_table
theorem sc_need_table : FnScope N_need_table ["table"] (defScope s_need_table) := ⟨by rfl, by rfl, by rfl, by decide +kernel, by rfl, by decide +kernel, by decide +kernel⟩
theorem der_need_table {X : Cx} {B : Bd} (hfn : ∀ y, X.fn y = true) (fx : Fx X.K X.mg X.prog) (cf : Cf X B N_need_table (defScope s_need_table) 4) (c_is_table_told : Cal X.prog X.w X.K X.mg X.base "is_table_told" 4 1 sp_is_table_told) :
    SDs X B (defBody s_need_table) (fb_need_table) :=
  (sd_one (sd_if (pb_not (pb_val (pd_call cf (by rfl) c_is_table_told (by decide) (gl cf (by decide +kernel)) (pl_cons (pd_nm (nm cf 0 (by decide +kernel))) pl_nil) (by decide +kernel)))) (sd_one (sd_raise cf fx.e_BadTable.1 fx.e_BadTable.2.1 fx.e_BadTable.2.2.1 fx.e_BadTable.2.2.2 (gl cf (by decide +kernel)) fx.c_BadTable (by decide +kernel))) sd_nil))
theorem cal_need_table {P : Program} {w : World} {K : PySem.W.Frag} {mg : Str → Option Value} {base : Heap} {f : Addr} {fd : FuncData} (F : FunD K "need_table" "need_table" (defArgs s_need_table) (defBody s_need_table) (defScope s_need_table) [] [] f fd) (g : mg "need_table" = some (.ref f)) (fx : Fx K mg P) (c_is_table_told : Cal P w K mg base "is_table_told" 4 1 sp_is_table_told) : Cal P w K mg base "need_table" 5 1 sp_need_table :=
  cal_of F g sc_need_table (F.bindsN fun _ _ _ _ _ _ us hl => match us, hl with | [_], _ => rfl) (by decide) (fun X B h1 h2 h3 h4 h5 hfn cf => by subst h1 h2 h3 h4 h5; exact der_need_table hfn fx cf c_is_table_told) (fun args P er h => h)
abbrev N_met_told : List Str := ["table", "x", "y", "a"]
def fb_met_told : WS := (dSeq (dSet 3 (dBin oIx (dBin oIx (dNm 0) (dNm 1)) (dNm 2)))
  (dRet (dTup (dCons (dNm 3) (dCons (dTM oTIdx (dBin oIx (dNm 0) (dNm 3)) (dNm 1)) dNil)))))
def sp_met_told : MT.Spec := bodyW 4 fb_met_told
theorem sc_met_told : FnScope N_met_told ["table", "x", "y"] (defScope s_met_told) := ⟨by rfl, by rfl, by rfl, by decide +kernel, by rfl, by decide +kernel, by decide +kernel⟩
theorem der_met_told {X : Cx} {B : Bd} (hfn : ∀ y, X.fn y = true) (fx : Fx X.K X.mg X.prog) (cf : Cf X B N_met_told (defScope s_met_told) 0) :
    SDs X B (defBody s_met_told) (fb_met_told) :=
  (sd_cons (sd_set cf.nd (st_of cf 3 (by decide +kernel)).1 (st_of cf 3 (by decide +kernel)).2 (pd_ix (so (pd_ix (so (pd_nm (nm cf 0 (by decide +kernel)))) (so (pd_nm (nm cf 1 (by decide +kernel)))))) (so (pd_nm (nm cf 2 (by decide +kernel))))) (.inl (hfn _))) (sd_one (sd_ret (sw (pd_tup (pl_cons (pd_nm (nm cf 3 (by decide +kernel))) (pl_cons (pd_tindex (so (pd_ix (so (pd_nm (nm cf 0 (by decide +kernel)))) (so (pd_nm (nm cf 3 (by decide +kernel)))))) (so (pd_nm (nm cf 1 (by decide +kernel))))) pl_nil)))))))
theorem cal_met_told {P : Program} {w : World} {K : PySem.W.Frag} {mg : Str → Option Value} {base : Heap} {f : Addr} {fd : FuncData} (F : FunD K "met_told" "met_told" (defArgs s_met_told) (defBody s_met_told) (defScope s_met_told) [] [] f fd) (g : mg "met_told" = some (.ref f)) (fx : Fx K mg P) : Cal P w K mg base "met_told" 1 3 sp_met_told :=
  cal_of F g sc_met_told (F.bindsN fun _ _ _ _ _ _ us hl => match us, hl with | [_, _, _], _ => rfl) (by decide) (fun X B h1 h2 h3 h4 h5 hfn cf => by subst h1 h2 h3 h4 h5; exact der_met_told hfn fx cf) (fun args P er h => h)
abbrev N_cycle_told : List Str := ["table", "one"]
def fb_cycle_told : WS := (dRet (dUn oTuple (dLc (dItems (dNm 0)) (tg1 1) bYes (dCall 1 sp_turn_back (dCons (dNm 1) dNil)) [1])))
def sp_cycle_told : MT.Spec := bodyW 2 fb_cycle_told
theorem sc_cycle_told : FnScope N_cycle_told ["table"] (defScope s_cycle_told) := ⟨by rfl, by rfl, by rfl, by decide +kernel, by rfl, by decide +kernel, by decide +kernel⟩
theorem der_cycle_told {X : Cx} {B : Bd} (hfn : ∀ y, X.fn y = true) (fx : Fx X.K X.mg X.prog) (cf : Cf X B N_cycle_told (defScope s_cycle_told) 1) (c_turn_back : Cal X.prog X.w X.K X.mg X.base "turn_back" 1 1 sp_turn_back) :
    SDs X B (defBody s_cycle_told) (fb_cycle_told) :=
  (sd_one (sd_ret (sw (pd_tuple (gl cf (by decide +kernel)) fx.f_tuple (so (pd_lc (.inl rfl) cf.calm cf.nd (pit_seq (.inl rfl) (pd_nm (nm cf 0 (by decide +kernel)))) (blk_of cf (by decide +kernel)) (fun s1 H1 C1 l1 p1 => (pt1_nm (pg_name (i := 1) (Cf.blk cf _ s1 H1 C1 l1 p1).nd (st_of (Cf.blk cf _ s1 H1 C1 l1 p1) 1 (by decide +kernel)).1 (st_of (Cf.blk cf _ s1 H1 C1 l1 p1) 1 (by decide +kernel)).2 (by first | exact .inr (loc_of (Cf.blk cf _ s1 H1 C1 l1 p1) (by decide +kernel)) | exact .inl (fnc_of (by decide +kernel)))))) (by decide) (fun s1 H1 C1 l1 p1 => pts_no) (fun s1 H1 C1 l1 p1 => (pd_call (Cf.blk cf _ s1 H1 C1 l1 p1) (by rfl) c_turn_back (by decide) (gl (Cf.blk cf _ s1 H1 C1 l1 p1) (by decide +kernel)) (pl_cons (pd_nm (nm (Cf.blk cf _ s1 H1 C1 l1 p1) 1 (by decide +kernel))) pl_nil) (by decide +kernel))) (own := [("one", 1)])))))))
theorem cal_cycle_told {P : Program} {w : World} {K : PySem.W.Frag} {mg : Str → Option Value} {base : Heap} {f : Addr} {fd : FuncData} (F : FunD K "cycle_told" "cycle_told" (defArgs s_cycle_told) (defBody s_cycle_told) (defScope s_cycle_told) [] [] f fd) (g : mg "cycle_told" = some (.ref f)) (fx : Fx K mg P) (c_turn_back : Cal P w K mg base "turn_back" 1 1 sp_turn_back) : Cal P w K mg base "cycle_told" 2 1 sp_cycle_told :=
  cal_of F g sc_cycle_told (F.bindsN fun _ _ _ _ _ _ us hl => match us, hl with | [_], _ => rfl) (by decide) (fun X B h1 h2 h3 h4 h5 hfn cf => by subst h1 h2 h3 h4 h5; exact der_cycle_told hfn fx cf c_turn_back) (fun args P er h => h)
abbrev N_diagonal_told : List Str := ["rule", "x", "one"]
def fb_diagonal_told : WS := (dRet (dUn oTuple (dLc (dEnum (dNm 0)) (tgT ((tg1 1) :: (tg1 2) :: [])) bYes (dTM oTIdx (dNm 2) (dNm 1)) [1, 2])))
def sp_diagonal_told : MT.Spec := bodyW 3 fb_diagonal_told
theorem sc_diagonal_told : FnScope N_diagonal_told ["rule"] (defScope s_diagonal_told) := ⟨by rfl, by rfl, by rfl, by decide +kernel, by rfl, by decide +kernel, by decide +kernel⟩
theorem der_diagonal_told {X : Cx} {B : Bd} (hfn : ∀ y, X.fn y = true) (fx : Fx X.K X.mg X.prog) (cf : Cf X B N_diagonal_told (defScope s_diagonal_told) 0) :
    SDs X B (defBody s_diagonal_told) (fb_diagonal_told) :=
  (sd_one (sd_ret (sw (pd_tuple (gl cf (by decide +kernel)) fx.f_tuple (so (pd_lc (.inl rfl) cf.calm cf.nd (pit_enum (.inl rfl) (gl cf (by decide +kernel)) fx.f_enumerate (pd_nm (nm cf 0 (by decide +kernel)))) (blk_of cf (by decide +kernel)) (fun s1 H1 C1 l1 p1 => (pt1_tup (Cf.blk cf _ s1 H1 C1 l1 p1).calm (pts_cn (pt1_nm (pg_name (i := 1) (Cf.blk cf _ s1 H1 C1 l1 p1).nd (st_of (Cf.blk cf _ s1 H1 C1 l1 p1) 1 (by decide +kernel)).1 (st_of (Cf.blk cf _ s1 H1 C1 l1 p1) 1 (by decide +kernel)).2 (by first | exact .inr (loc_of (Cf.blk cf _ s1 H1 C1 l1 p1) (by decide +kernel)) | exact .inl (fnc_of (by decide +kernel))))) (pts_cn (pt1_nm (pg_name (i := 2) (Cf.blk cf _ s1 H1 C1 l1 p1).nd (st_of (Cf.blk cf _ s1 H1 C1 l1 p1) 2 (by decide +kernel)).1 (st_of (Cf.blk cf _ s1 H1 C1 l1 p1) 2 (by decide +kernel)).2 (by first | exact .inr (loc_of (Cf.blk cf _ s1 H1 C1 l1 p1) (by decide +kernel)) | exact .inl (fnc_of (by decide +kernel))))) pts_nl)))) (by decide) (fun s1 H1 C1 l1 p1 => pts_no) (fun s1 H1 C1 l1 p1 => (pd_tindex (so (pd_nm (nm (Cf.blk cf _ s1 H1 C1 l1 p1) 2 (by decide +kernel)))) (so (pd_nm (nm (Cf.blk cf _ s1 H1 C1 l1 p1) 1 (by decide +kernel)))))) (own := [("x", 1), ("one", 2)])))))))
theorem cal_diagonal_told {P : Program} {w : World} {K : PySem.W.Frag} {mg : Str → Option Value} {base : Heap} {f : Addr} {fd : FuncData} (F : FunD K "diagonal_told" "diagonal_told" (defArgs s_diagonal_told) (defBody s_diagonal_told) (defScope s_diagonal_told) [] [] f fd) (g : mg "diagonal_told" = some (.ref f)) (fx : Fx K mg P) : Cal P w K mg base "diagonal_told" 1 1 sp_diagonal_told :=
  cal_of F g sc_diagonal_told (F.bindsN fun _ _ _ _ _ _ us hl => match us, hl with | [_], _ => rfl) (by decide) (fun X B h1 h2 h3 h4 h5 hfn cf => by subst h1 h2 h3 h4 h5; exact der_diagonal_told hfn fx cf) (fun args P er h => h)
abbrev N_is_fair : List Str := ["table", "cycle", "many", "x", "y", "one", "other", "z"]
def fb_is_fair : WS := (dSeq (dPars [1, 2] (vCons (slOf (dCall 1 sp_cycle_told (dCons (dNm 0) dNil))) (vCons (slOf (dUn oLen (dNm 0))) vNil)))
  (dSeq (dFor (dRng1 (dNm 2)) (tg1 3) (dFor (dRng1 (dNm 3)) (tg1 4) (dSeq (dPars [5, 6] (vCons (slOf (dBin oIx (dNm 1) (dBin oIx (dBin oIx (dNm 1) (dNm 3)) (dNm 4)))) (vCons (slOf (dBin oIx (dNm 1) (dBin oIx (dBin oIx (dNm 1) (dNm 4)) (dNm 3)))) vNil)))
  (dIfS (bNot (asB (dUn oAll (dLc (dRng1 (dNm 2)) (tg1 7) bYes (dBin oEq (dBin oIx (dNm 5) (dBin oIx (dBin oIx (dNm 1) (dNm 3)) (dNm 7))) (dBin oIx (dNm 6) (dBin oIx (dBin oIx (dNm 1) (dNm 4)) (dNm 7)))) [7])))) (dRet (dC (.bool false))) dNext))))
  (dRet (dC (.bool true)))))
def sp_is_fair : MT.Spec := bodyW 8 fb_is_fair
theorem sc_is_fair : FnScope N_is_fair ["table"] (defScope s_is_fair) := ⟨by rfl, by rfl, by rfl, by decide +kernel, by rfl, by decide +kernel, by decide +kernel⟩
theorem der_is_fair {X : Cx} {B : Bd} (hfn : ∀ y, X.fn y = true) (fx : Fx X.K X.mg X.prog) (cf : Cf X B N_is_fair (defScope s_is_fair) 2) (c_cycle_told : Cal X.prog X.w X.K X.mg X.base "cycle_told" 2 1 sp_cycle_told) :
    SDs X B (defBody s_is_fair) (fb_is_fair) :=
  (sd_cons (sd_parT (is := [1, 2]) (by decide) (ps_asg (pe_tup (vl_d (pd_call cf (by rfl) c_cycle_told (by decide) (gl cf (by decide +kernel)) (pl_cons (pd_nm (nm cf 0 (by decide +kernel))) pl_nil) (by decide +kernel)) (vl_d (pd_len (gl cf (by decide +kernel)) fx.f_len (so (pd_nm (nm cf 0 (by decide +kernel))))) vl_nil))) (pg_tup cf.calm (pgs_cons (pg_name (i := 1) cf.nd (st_of cf 1 (by decide +kernel)).1 (st_of cf 1 (by decide +kernel)).2 (.inl (hfn _))) (pgs_cons (pg_name (i := 2) cf.nd (st_of cf 2 (by decide +kernel)).1 (st_of cf 2 (by decide +kernel)).2 (.inl (hfn _))) pgs_nil))) (by rfl) (swp_of cf (by intro en hS; cases en; cases hS; rfl)))) (sd_cons (sd_for cf.ps cf.calm (pit_r1 (gl cf (by decide +kernel)) fx.f_range (so (pd_nm (nm cf 2 (by decide +kernel))))) (pt1_nm (pg_name (i := 3) cf.nd (st_of cf 3 (by decide +kernel)).1 (st_of cf 3 (by decide +kernel)).2 (.inl (hfn _)))) (sd_one (sd_for cf.ps cf.calm (pit_r1 (gl cf (by decide +kernel)) fx.f_range (so (pd_nm (nm cf 3 (by decide +kernel))))) (pt1_nm (pg_name (i := 4) cf.nd (st_of cf 4 (by decide +kernel)).1 (st_of cf 4 (by decide +kernel)).2 (.inl (hfn _)))) (sd_cons (sd_parT (is := [5, 6]) (by decide) (ps_asg (pe_tup (vl_d (pd_ix (so (pd_nm (nm cf 1 (by decide +kernel)))) (so (pd_ix (so (pd_ix (so (pd_nm (nm cf 1 (by decide +kernel)))) (so (pd_nm (nm cf 3 (by decide +kernel)))))) (so (pd_nm (nm cf 4 (by decide +kernel))))))) (vl_d (pd_ix (so (pd_nm (nm cf 1 (by decide +kernel)))) (so (pd_ix (so (pd_ix (so (pd_nm (nm cf 1 (by decide +kernel)))) (so (pd_nm (nm cf 4 (by decide +kernel)))))) (so (pd_nm (nm cf 3 (by decide +kernel))))))) vl_nil))) (pg_tup cf.calm (pgs_cons (pg_name (i := 5) cf.nd (st_of cf 5 (by decide +kernel)).1 (st_of cf 5 (by decide +kernel)).2 (.inl (hfn _))) (pgs_cons (pg_name (i := 6) cf.nd (st_of cf 6 (by decide +kernel)).1 (st_of cf 6 (by decide +kernel)).2 (.inl (hfn _))) pgs_nil))) (by rfl) (swp_of cf (by intro en hS; cases en; cases hS; rfl)))) (sd_one (sd_if (pb_not (pb_val (pd_all cf.calm (gl cf (by decide +kernel)) fx.f_all (so (pd_lc (.inl rfl) cf.calm cf.nd (pit_r1 (gl cf (by decide +kernel)) fx.f_range (so (pd_nm (nm cf 2 (by decide +kernel))))) (blk_of cf (by decide +kernel)) (fun s1 H1 C1 l1 p1 => (pt1_nm (pg_name (i := 7) (Cf.blk cf _ s1 H1 C1 l1 p1).nd (st_of (Cf.blk cf _ s1 H1 C1 l1 p1) 7 (by decide +kernel)).1 (st_of (Cf.blk cf _ s1 H1 C1 l1 p1) 7 (by decide +kernel)).2 (by first | exact .inr (loc_of (Cf.blk cf _ s1 H1 C1 l1 p1) (by decide +kernel)) | exact .inl (fnc_of (by decide +kernel)))))) (by decide) (fun s1 H1 C1 l1 p1 => pts_no) (fun s1 H1 C1 l1 p1 => (pd_cmp (op_eqD (Cf.blk cf _ s1 H1 C1 l1 p1).u4) od_eq (nomark _) (so (pd_ix (so (pd_nm (nm (Cf.blk cf _ s1 H1 C1 l1 p1) 5 (by decide +kernel)))) (so (pd_ix (so (pd_ix (so (pd_nm (nm (Cf.blk cf _ s1 H1 C1 l1 p1) 1 (by decide +kernel)))) (so (pd_nm (nm (Cf.blk cf _ s1 H1 C1 l1 p1) 3 (by decide +kernel)))))) (so (pd_nm (nm (Cf.blk cf _ s1 H1 C1 l1 p1) 7 (by decide +kernel)))))))) (so (pd_ix (so (pd_nm (nm (Cf.blk cf _ s1 H1 C1 l1 p1) 6 (by decide +kernel)))) (so (pd_ix (so (pd_ix (so (pd_nm (nm (Cf.blk cf _ s1 H1 C1 l1 p1) 1 (by decide +kernel)))) (so (pd_nm (nm (Cf.blk cf _ s1 H1 C1 l1 p1) 4 (by decide +kernel)))))) (so (pd_nm (nm (Cf.blk cf _ s1 H1 C1 l1 p1) 7 (by decide +kernel)))))))))) (own := [("z", 7)])))))) (sd_one (sd_ret (sw pd_bl))) sd_nil)))))) (sd_one (sd_ret (sw pd_bl)))))
theorem cal_is_fair {P : Program} {w : World} {K : PySem.W.Frag} {mg : Str → Option Value} {base : Heap} {f : Addr} {fd : FuncData} (F : FunD K "is_fair" "is_fair" (defArgs s_is_fair) (defBody s_is_fair) (defScope s_is_fair) [] [] f fd) (g : mg "is_fair" = some (.ref f)) (fx : Fx K mg P) (c_cycle_told : Cal P w K mg base "cycle_told" 2 1 sp_cycle_told) : Cal P w K mg base "is_fair" 3 1 sp_is_fair :=
  cal_of F g sc_is_fair (F.bindsN fun _ _ _ _ _ _ us hl => match us, hl with | [_], _ => rfl) (by decide) (fun X B h1 h2 h3 h4 h5 hfn cf => by subst h1 h2 h3 h4 h5; exact der_is_fair hfn fx cf c_cycle_told) (fun args P er h => h)
abbrev N_is_rule_told : List Str := ["thing"]
def fb_is_rule_told : WS := (dRet (dAnd (dCall 1 sp_is_table_told (dCons (dNm 0) dNil)) (dCall 1 sp_is_fair (dCons (dNm 0) dNil))))
def sp_is_rule_told : MT.Spec := bodyW 1 fb_is_rule_told
theorem sc_is_rule_told : FnScope N_is_rule_told ["thing"] (defScope s_is_rule_told) := ⟨by rfl, by rfl, by rfl, by decide +kernel, by rfl, by decide +kernel, by decide +kernel⟩
theorem der_is_rule_told {X : Cx} {B : Bd} (hfn : ∀ y, X.fn y = true) (fx : Fx X.K X.mg X.prog) (cf : Cf X B N_is_rule_told (defScope s_is_rule_told) 4) (c_is_table_told : Cal X.prog X.w X.K X.mg X.base "is_table_told" 4 1 sp_is_table_told) (c_is_fair : Cal X.prog X.w X.K X.mg X.base "is_fair" 3 1 sp_is_fair) :
    SDs X B (defBody s_is_rule_told) (fb_is_rule_told) :=
  (sd_one (sd_ret (sw (pd_and (pd_call cf (by rfl) c_is_table_told (by decide) (gl cf (by decide +kernel)) (pl_cons (pd_nm (nm cf 0 (by decide +kernel))) pl_nil) (by decide +kernel)) (pd_one (pd_call cf (by rfl) c_is_fair (by decide) (gl cf (by decide +kernel)) (pl_cons (pd_nm (nm cf 0 (by decide +kernel))) pl_nil) (by decide +kernel)))))))
theorem cal_is_rule_told {P : Program} {w : World} {K : PySem.W.Frag} {mg : Str → Option Value} {base : Heap} {f : Addr} {fd : FuncData} (F : FunD K "is_rule_told" "is_rule_told" (defArgs s_is_rule_told) (defBody s_is_rule_told) (defScope s_is_rule_told) [] [] f fd) (g : mg "is_rule_told" = some (.ref f)) (fx : Fx K mg P) (c_is_table_told : Cal P w K mg base "is_table_told" 4 1 sp_is_table_told) (c_is_fair : Cal P w K mg base "is_fair" 3 1 sp_is_fair) : Cal P w K mg base "is_rule_told" 5 1 sp_is_rule_told :=
  cal_of F g sc_is_rule_told (F.bindsN fun _ _ _ _ _ _ us hl => match us, hl with | [_], _ => rfl) (by decide) (fun X B h1 h2 h3 h4 h5 hfn cf => by subst h1 h2 h3 h4 h5; exact der_is_rule_told hfn fx cf c_is_table_told c_is_fair) (fun args P er h => h)
abbrev N_need_rule : List Str := ["rule"]
def fb_need_rule : WS := (dIfS (bNot (asB (dCall 1 sp_is_rule_told (dCons (dNm 0) dNil)))) (dRaise "BadRule") dNext)
def sp_need_rule : MT.Spec := bodyW 1 fb_need_rule
theorem sc_need_rule : FnScope N_need_rule ["rule"] (defScope s_need_rule) := ⟨by rfl, by rfl, by rfl, by decide +kernel, by rfl, by decide +kernel, by decide +kernel⟩
theorem der_need_rule {X : Cx} {B : Bd} (hfn : ∀ y, X.fn y = true) (fx : Fx X.K X.mg X.prog) (cf : Cf X B N_need_rule (defScope s_need_rule) 5) (c_is_rule_told : Cal X.prog X.w X.K X.mg X.base "is_rule_told" 5 1 sp_is_rule_told) :
    SDs X B (defBody s_need_rule) (fb_need_rule) :=
  (sd_one (sd_if (pb_not (pb_val (pd_call cf (by rfl) c_is_rule_told (by decide) (gl cf (by decide +kernel)) (pl_cons (pd_nm (nm cf 0 (by decide +kernel))) pl_nil) (by decide +kernel)))) (sd_one (sd_raise cf fx.e_BadRule.1 fx.e_BadRule.2.1 fx.e_BadRule.2.2.1 fx.e_BadRule.2.2.2 (gl cf (by decide +kernel)) fx.c_BadRule (by decide +kernel))) sd_nil))
theorem cal_need_rule {P : Program} {w : World} {K : PySem.W.Frag} {mg : Str → Option Value} {base : Heap} {f : Addr} {fd : FuncData} (F : FunD K "need_rule" "need_rule" (defArgs s_need_rule) (defBody s_need_rule) (defScope s_need_rule) [] [] f fd) (g : mg "need_rule" = some (.ref f)) (fx : Fx K mg P) (c_is_rule_told : Cal P w K mg base "is_rule_told" 5 1 sp_is_rule_told) : Cal P w K mg base "need_rule" 6 1 sp_need_rule :=
  cal_of F g sc_need_rule (F.bindsN fun _ _ _ _ _ _ us hl => match us, hl with | [_], _ => rfl) (by decide) (fun X B h1 h2 h3 h4 h5 hfn cf => by subst h1 h2 h3 h4 h5; exact der_need_rule hfn fx cf c_is_rule_told) (fun args P er h => h)
abbrev N_row_met : List Str := ["table", "row", "i", "a", "b"]
def fb_row_met : WS := (dSeq (dUnp (tgT ((tg1 3) :: (tg1 4) :: [])) (dCall 3 sp_met_told (dCons (dNm 0) (dCons (dBin oIx (dNm 1) (dNm 2)) (dCons (dBin oIx (dNm 1) (dBin oAdd (dNm 2) (dC (.int 1)))) dNil)))))
  (dRet (dIf (asB (dBin oEq (dNm 2) (dC (.int 0)))) (dTup (dCons (dNm 3) (dCons (dNm 4) (dCons (dBin oIx (dNm 1) (dC (.int 2))) dNil)))) (dTup (dCons (dBin oIx (dNm 1) (dC (.int 0))) (dCons (dNm 3) (dCons (dNm 4) dNil)))))))
def sp_row_met : MT.Spec := bodyW 5 fb_row_met
theorem sc_row_met : FnScope N_row_met ["table", "row", "i"] (defScope s_row_met) := ⟨by rfl, by rfl, by rfl, by decide +kernel, by rfl, by decide +kernel, by decide +kernel⟩
theorem der_row_met {X : Cx} {B : Bd} (hfn : ∀ y, X.fn y = true) (fx : Fx X.K X.mg X.prog) (cf : Cf X B N_row_met (defScope s_row_met) 1) (c_met_told : Cal X.prog X.w X.K X.mg X.base "met_told" 1 3 sp_met_told) :
    SDs X B (defBody s_row_met) (fb_row_met) :=
  (sd_cons (sd_unp (pd_call cf (by rfl) c_met_told (by decide) (gl cf (by decide +kernel)) (pl_cons (pd_nm (nm cf 0 (by decide +kernel))) (pl_cons (pd_ix (so (pd_nm (nm cf 1 (by decide +kernel)))) (so (pd_nm (nm cf 2 (by decide +kernel))))) (pl_cons (pd_ix (so (pd_nm (nm cf 1 (by decide +kernel)))) (so (pd_add (so (pd_nm (nm cf 2 (by decide +kernel)))) (so pd_int)))) pl_nil))) (by decide +kernel)) (pt1_tup cf.calm (pts_cn (pt1_nm (pg_name (i := 3) cf.nd (st_of cf 3 (by decide +kernel)).1 (st_of cf 3 (by decide +kernel)).2 (.inl (hfn _)))) (pts_cn (pt1_nm (pg_name (i := 4) cf.nd (st_of cf 4 (by decide +kernel)).1 (st_of cf 4 (by decide +kernel)).2 (.inl (hfn _)))) pts_nl)))) (sd_one (sd_ret (pd_if (pb_cmp (op_eqD cf.u4) od_eq (nomark _) (so (pd_nm (nm cf 2 (by decide +kernel)))) (so pd_int)) (sw (pd_tup (pl_cons (pd_nm (nm cf 3 (by decide +kernel))) (pl_cons (pd_nm (nm cf 4 (by decide +kernel))) (pl_cons (pd_ix (so (pd_nm (nm cf 1 (by decide +kernel)))) (so pd_int)) pl_nil))))) (sw (pd_tup (pl_cons (pd_ix (so (pd_nm (nm cf 1 (by decide +kernel)))) (so pd_int)) (pl_cons (pd_nm (nm cf 3 (by decide +kernel))) (pl_cons (pd_nm (nm cf 4 (by decide +kernel))) pl_nil)))))))))
theorem cal_row_met {P : Program} {w : World} {K : PySem.W.Frag} {mg : Str → Option Value} {base : Heap} {f : Addr} {fd : FuncData} (F : FunD K "row_met" "row_met" (defArgs s_row_met) (defBody s_row_met) (defScope s_row_met) [] [] f fd) (g : mg "row_met" = some (.ref f)) (fx : Fx K mg P) (c_met_told : Cal P w K mg base "met_told" 1 3 sp_met_told) : Cal P w K mg base "row_met" 2 3 sp_row_met :=
  cal_of F g sc_row_met (F.bindsN fun _ _ _ _ _ _ us hl => match us, hl with | [_, _, _], _ => rfl) (by decide) (fun X B h1 h2 h3 h4 h5 hfn cf => by subst h1 h2 h3 h4 h5; exact der_row_met hfn fx cf c_met_told) (fun args P er h => h)
abbrev N_rows_of_three : List Str := ["table", "things", "x", "y", "z"]
def fb_rows_of_three : WS := (dRows3 1 2 3 4 (dUn oLen (dNm 0)))
def sp_rows_of_three : MT.Spec := bodyW 5 fb_rows_of_three
theorem sc_rows_of_three : FnScope N_rows_of_three ["table"] (defScope s_rows_of_three) := ⟨by rfl, by rfl, by rfl, by decide +kernel, by rfl, by decide +kernel, by decide +kernel⟩
theorem der_rows_of_three {X : Cx} {B : Bd} (hfn : ∀ y, X.fn y = true) (fx : Fx X.K X.mg X.prog) (cf : Cf X B N_rows_of_three (defScope s_rows_of_three) 0) :
    SDs X B (defBody s_rows_of_three) (fb_rows_of_three) :=
  (sds_rows3 (own := [("x", 2), ("y", 3), ("z", 4)]) cf.calm cf.nd (st_of cf 1 (by decide +kernel)).1 (st_of cf 1 (by decide +kernel)).2 (.inl (hfn _)) (gl cf (by decide +kernel)) fx.f_range (pd_len (gl cf (by decide +kernel)) fx.f_len (so (pd_nm (nm cf 0 (by decide +kernel))))) (by rfl) (by rfl) (nm cf 1 (by decide +kernel)) (blk_of cf (by decide +kernel)) (by rfl) (fun s1 H1 C1 l1 p1 pp => (nm (Cf.blk cf _ s1 H1 C1 l1 p1) 1 (by decide +kernel))) (fun s1 H1 C1 l1 p1 pp => ⟨(nm (Cf.blk cf _ s1 H1 C1 l1 p1) 2 (by decide +kernel)), (nm (Cf.blk cf _ s1 H1 C1 l1 p1) 3 (by decide +kernel)), (nm (Cf.blk cf _ s1 H1 C1 l1 p1) 4 (by decide +kernel))⟩) (fun s1 H1 C1 l1 p1 pp => ⟨(pg_name (i := 2) (Cf.blk cf _ s1 H1 C1 l1 p1).nd (st_of (Cf.blk cf _ s1 H1 C1 l1 p1) 2 (by decide +kernel)).1 (st_of (Cf.blk cf _ s1 H1 C1 l1 p1) 2 (by decide +kernel)).2 (by first | exact .inr (loc_of (Cf.blk cf _ s1 H1 C1 l1 p1) (by decide +kernel)) | exact .inl (fnc_of (by decide +kernel)))), (pg_name (i := 3) (Cf.blk cf _ s1 H1 C1 l1 p1).nd (st_of (Cf.blk cf _ s1 H1 C1 l1 p1) 3 (by decide +kernel)).1 (st_of (Cf.blk cf _ s1 H1 C1 l1 p1) 3 (by decide +kernel)).2 (by first | exact .inr (loc_of (Cf.blk cf _ s1 H1 C1 l1 p1) (by decide +kernel)) | exact .inl (fnc_of (by decide +kernel)))), (pg_name (i := 4) (Cf.blk cf _ s1 H1 C1 l1 p1).nd (st_of (Cf.blk cf _ s1 H1 C1 l1 p1) 4 (by decide +kernel)).1 (st_of (Cf.blk cf _ s1 H1 C1 l1 p1) 4 (by decide +kernel)).2 (by first | exact .inr (loc_of (Cf.blk cf _ s1 H1 C1 l1 p1) (by decide +kernel)) | exact .inl (fnc_of (by decide +kernel))))⟩) (by decide) (by decide) (by decide))
theorem cal_rows_of_three {P : Program} {w : World} {K : PySem.W.Frag} {mg : Str → Option Value} {base : Heap} {f : Addr} {fd : FuncData} (F : FunD K "rows_of_three" "rows_of_three" (defArgs s_rows_of_three) (defBody s_rows_of_three) (defScope s_rows_of_three) [] [] f fd) (g : mg "rows_of_three" = some (.ref f)) (fx : Fx K mg P) : Cal P w K mg base "rows_of_three" 1 1 sp_rows_of_three :=
  cal_of F g sc_rows_of_three (F.bindsN fun _ _ _ _ _ _ us hl => match us, hl with | [_], _ => rfl) (by decide) (fun X B h1 h2 h3 h4 h5 hfn cf => by subst h1 h2 h3 h4 h5; exact der_rows_of_three hfn fx cf) (fun args P er h => h)
abbrev N_meet : List Str := ["table", "x", "y"]
def fb_meet : WS := (dSeq (dExpr (dCall 1 sp_need_table (dCons (dNm 0) dNil)))
  (dSeq (dExpr (dCall 4 sp_need_between (dCons (dNm 1) (dCons (dC (.int 0)) (dCons (dBin oSub (dUn oLen (dNm 0)) (dC (.int 1))) (dCons (dC (.str "x")) dNil))))))
  (dSeq (dExpr (dCall 4 sp_need_between (dCons (dNm 2) (dCons (dC (.int 0)) (dCons (dBin oSub (dUn oLen (dNm 0)) (dC (.int 1))) (dCons (dC (.str "y")) dNil))))))
  (dRet (dCall 3 sp_met_told (dCons (dNm 0) (dCons (dNm 1) (dCons (dNm 2) dNil))))))))
def sp_meet : MT.Spec := bodyW 3 fb_meet
theorem sc_meet : FnScope N_meet ["table", "x", "y"] (defScope s_meet) := ⟨by rfl, by rfl, by rfl, by decide +kernel, by rfl, by decide +kernel, by decide +kernel⟩
theorem der_meet {X : Cx} {B : Bd} (hfn : ∀ y, X.fn y = true) (fx : Fx X.K X.mg X.prog) (cf : Cf X B N_meet (defScope s_meet) 5) (c_need_table : Cal X.prog X.w X.K X.mg X.base "need_table" 5 1 sp_need_table) (c_need_between : Cal X.prog X.w X.K X.mg X.base "need_between" 3 4 sp_need_between) (c_met_told : Cal X.prog X.w X.K X.mg X.base "met_told" 1 3 sp_met_told) :
    SDs X B (defBody s_meet) (fb_meet) :=
  (sd_cons (sd_expr (pd_call cf (by rfl) c_need_table (by decide) (gl cf (by decide +kernel)) (pl_cons (pd_nm (nm cf 0 (by decide +kernel))) pl_nil) (by decide +kernel))) (sd_cons (sd_expr (pd_call cf (by rfl) c_need_between (by decide) (gl cf (by decide +kernel)) (pl_cons (pd_nm (nm cf 1 (by decide +kernel))) (pl_cons pd_int (pl_cons (pd_sub (so (pd_len (gl cf (by decide +kernel)) fx.f_len (so (pd_nm (nm cf 0 (by decide +kernel)))))) (so pd_int)) (pl_cons pd_str pl_nil)))) (by decide +kernel))) (sd_cons (sd_expr (pd_call cf (by rfl) c_need_between (by decide) (gl cf (by decide +kernel)) (pl_cons (pd_nm (nm cf 2 (by decide +kernel))) (pl_cons pd_int (pl_cons (pd_sub (so (pd_len (gl cf (by decide +kernel)) fx.f_len (so (pd_nm (nm cf 0 (by decide +kernel)))))) (so pd_int)) (pl_cons pd_str pl_nil)))) (by decide +kernel))) (sd_one (sd_ret (sw (pd_call cf (by rfl) c_met_told (by decide) (gl cf (by decide +kernel)) (pl_cons (pd_nm (nm cf 0 (by decide +kernel))) (pl_cons (pd_nm (nm cf 1 (by decide +kernel))) (pl_cons (pd_nm (nm cf 2 (by decide +kernel))) pl_nil))) (by decide +kernel))))))))
theorem cal_meet {P : Program} {w : World} {K : PySem.W.Frag} {mg : Str → Option Value} {base : Heap} {f : Addr} {fd : FuncData} (F : FunD K "meet" "meet" (defArgs s_meet) (defBody s_meet) (defScope s_meet) [] [] f fd) (g : mg "meet" = some (.ref f)) (fx : Fx K mg P) (c_need_table : Cal P w K mg base "need_table" 5 1 sp_need_table) (c_need_between : Cal P w K mg base "need_between" 3 4 sp_need_between) (c_met_told : Cal P w K mg base "met_told" 1 3 sp_met_told) : Cal P w K mg base "meet" 6 3 sp_meet :=
  cal_of F g sc_meet (F.bindsN fun _ _ _ _ _ _ us hl => match us, hl with | [_, _, _], _ => rfl) (by decide) (fun X B h1 h2 h3 h4 h5 hfn cf => by subst h1 h2 h3 h4 h5; exact der_meet hfn fx cf c_need_table c_need_between c_met_told) (fun args P er h => h)
abbrev N_table_fault : List Str := ["table", "row", "one"]
def fb_table_fault : WS := (dSeq (dExpr (dCall 1 sp_need_table (dCons (dNm 0) dNil)))
  (dSeq (dIfS (asB (dCall 1 sp_is_fair (dCons (dNm 0) dNil))) (dRet (dC .none)) dNext)
  (dSeq (dFor (dItems (dCall 1 sp_rows_of_three (dCons (dNm 0) dNil))) (tg1 1) (dSeq (dSet 2 (dCall 3 sp_row_met (dCons (dNm 0) (dCons (dCall 3 sp_row_met (dCons (dNm 0) (dCons (dCall 3 sp_row_met (dCons (dNm 0) (dCons (dNm 1) (dCons (dC (.int 0)) dNil)))) (dCons (dC (.int 1)) dNil)))) (dCons (dC (.int 0)) dNil)))))
  (dIfS (asB (dBin oNe (dNm 2) (dCall 3 sp_row_met (dCons (dNm 0) (dCons (dCall 3 sp_row_met (dCons (dNm 0) (dCons (dCall 3 sp_row_met (dCons (dNm 0) (dCons (dNm 1) (dCons (dC (.int 1)) dNil)))) (dCons (dC (.int 0)) dNil)))) (dCons (dC (.int 1)) dNil)))))) (dRet (dTup (dCons (dC (.str "three")) (dStar (dNm 1) dNil)))) dNext)))
  (dRet (dC .none)))))
def sp_table_fault : MT.Spec := bodyW 3 fb_table_fault
theorem sc_table_fault : FnScope N_table_fault ["table"] (defScope s_table_fault) := ⟨by rfl, by rfl, by rfl, by decide +kernel, by rfl, by decide +kernel, by decide +kernel⟩
theorem der_table_fault {X : Cx} {B : Bd} (hfn : ∀ y, X.fn y = true) (fx : Fx X.K X.mg X.prog) (cf : Cf X B N_table_fault (defScope s_table_fault) 5) (c_need_table : Cal X.prog X.w X.K X.mg X.base "need_table" 5 1 sp_need_table) (c_is_fair : Cal X.prog X.w X.K X.mg X.base "is_fair" 3 1 sp_is_fair) (c_rows_of_three : Cal X.prog X.w X.K X.mg X.base "rows_of_three" 1 1 sp_rows_of_three) (c_row_met : Cal X.prog X.w X.K X.mg X.base "row_met" 2 3 sp_row_met) :
    SDs X B (defBody s_table_fault) (fb_table_fault) :=
  (sd_cons (sd_expr (pd_call cf (by rfl) c_need_table (by decide) (gl cf (by decide +kernel)) (pl_cons (pd_nm (nm cf 0 (by decide +kernel))) pl_nil) (by decide +kernel))) (sd_cons (sd_if (pb_val (pd_call cf (by rfl) c_is_fair (by decide) (gl cf (by decide +kernel)) (pl_cons (pd_nm (nm cf 0 (by decide +kernel))) pl_nil) (by decide +kernel))) (sd_one (sd_ret (sw pd_non))) sd_nil) (sd_cons (sd_for cf.ps cf.calm (pit_seq (.inl rfl) (pd_call cf (by rfl) c_rows_of_three (by decide) (gl cf (by decide +kernel)) (pl_cons (pd_nm (nm cf 0 (by decide +kernel))) pl_nil) (by decide +kernel))) (pt1_nm (pg_name (i := 1) cf.nd (st_of cf 1 (by decide +kernel)).1 (st_of cf 1 (by decide +kernel)).2 (.inl (hfn _)))) (sd_cons (sd_set cf.nd (st_of cf 2 (by decide +kernel)).1 (st_of cf 2 (by decide +kernel)).2 (pd_call cf (by rfl) c_row_met (by decide) (gl cf (by decide +kernel)) (pl_cons (pd_nm (nm cf 0 (by decide +kernel))) (pl_cons (pd_call cf (by rfl) c_row_met (by decide) (gl cf (by decide +kernel)) (pl_cons (pd_nm (nm cf 0 (by decide +kernel))) (pl_cons (pd_call cf (by rfl) c_row_met (by decide) (gl cf (by decide +kernel)) (pl_cons (pd_nm (nm cf 0 (by decide +kernel))) (pl_cons (pd_nm (nm cf 1 (by decide +kernel))) (pl_cons pd_int pl_nil))) (by decide +kernel)) (pl_cons pd_int pl_nil))) (by decide +kernel)) (pl_cons pd_int pl_nil))) (by decide +kernel)) (.inl (hfn _))) (sd_one (sd_if (pb_cmp (op_neD cf.u4) od_ne (nomark _) (so (pd_nm (nm cf 2 (by decide +kernel)))) (so (pd_call cf (by rfl) c_row_met (by decide) (gl cf (by decide +kernel)) (pl_cons (pd_nm (nm cf 0 (by decide +kernel))) (pl_cons (pd_call cf (by rfl) c_row_met (by decide) (gl cf (by decide +kernel)) (pl_cons (pd_nm (nm cf 0 (by decide +kernel))) (pl_cons (pd_call cf (by rfl) c_row_met (by decide) (gl cf (by decide +kernel)) (pl_cons (pd_nm (nm cf 0 (by decide +kernel))) (pl_cons (pd_nm (nm cf 1 (by decide +kernel))) (pl_cons pd_int pl_nil))) (by decide +kernel)) (pl_cons pd_int pl_nil))) (by decide +kernel)) (pl_cons pd_int pl_nil))) (by decide +kernel)))) (sd_one (sd_ret (sw (pd_tup (pl_cons pd_str (pl_star (pd_nm (nm cf 1 (by decide +kernel))) pl_nil)))))) sd_nil)))) (sd_one (sd_ret (sw pd_non))))))
theorem cal_table_fault {P : Program} {w : World} {K : PySem.W.Frag} {mg : Str → Option Value} {base : Heap} {f : Addr} {fd : FuncData} (F : FunD K "table_fault" "table_fault" (defArgs s_table_fault) (defBody s_table_fault) (defScope s_table_fault) [] [] f fd) (g : mg "table_fault" = some (.ref f)) (fx : Fx K mg P) (c_need_table : Cal P w K mg base "need_table" 5 1 sp_need_table) (c_is_fair : Cal P w K mg base "is_fair" 3 1 sp_is_fair) (c_rows_of_three : Cal P w K mg base "rows_of_three" 1 1 sp_rows_of_three) (c_row_met : Cal P w K mg base "row_met" 2 3 sp_row_met) : Cal P w K mg base "table_fault" 6 1 sp_table_fault :=
  cal_of F g sc_table_fault (F.bindsN fun _ _ _ _ _ _ us hl => match us, hl with | [_], _ => rfl) (by decide) (fun X B h1 h2 h3 h4 h5 hfn cf => by subst h1 h2 h3 h4 h5; exact der_table_fault hfn fx cf c_need_table c_is_fair c_rows_of_three c_row_met) (fun args P er h => h)
abbrev N_corner_fault : List Str := ["table", "cycle", "x", "u"]
def fb_corner_fault : WS := (dSeq (dExpr (dCall 1 sp_need_table (dCons (dNm 0) dNil)))
  (dSeq (dSet 1 (dCall 1 sp_cycle_told (dCons (dNm 0) dNil)))
  (dSeq (dFor (dRng1 (dUn oLen (dNm 0))) (tg1 2) (dFor (dRng1 (dUn oLen (dNm 0))) (tg1 3) (dIfS (asB (dBin oNe (dCall 2 sp_turn_after (dCons (dBin oIx (dNm 0) (dNm 2)) (dCons (dBin oIx (dNm 0) (dBin oIx (dBin oIx (dNm 1) (dNm 2)) (dNm 3))) dNil))) (dCall 2 sp_turn_after (dCons (dBin oIx (dNm 0) (dNm 3)) (dCons (dBin oIx (dNm 0) (dBin oIx (dBin oIx (dNm 1) (dNm 3)) (dNm 2))) dNil))))) (dRet (dTup (dCons (dC (.str "corner")) (dCons (dNm 2) (dCons (dNm 3) dNil))))) dNext)))
  (dRet (dC .none)))))
def sp_corner_fault : MT.Spec := bodyW 4 fb_corner_fault
theorem sc_corner_fault : FnScope N_corner_fault ["table"] (defScope s_corner_fault) := ⟨by rfl, by rfl, by rfl, by decide +kernel, by rfl, by decide +kernel, by decide +kernel⟩
theorem der_corner_fault {X : Cx} {B : Bd} (hfn : ∀ y, X.fn y = true) (fx : Fx X.K X.mg X.prog) (cf : Cf X B N_corner_fault (defScope s_corner_fault) 5) (c_need_table : Cal X.prog X.w X.K X.mg X.base "need_table" 5 1 sp_need_table) (c_cycle_told : Cal X.prog X.w X.K X.mg X.base "cycle_told" 2 1 sp_cycle_told) (c_turn_after : Cal X.prog X.w X.K X.mg X.base "turn_after" 1 2 sp_turn_after) :
    SDs X B (defBody s_corner_fault) (fb_corner_fault) :=
  (sd_cons (sd_expr (pd_call cf (by rfl) c_need_table (by decide) (gl cf (by decide +kernel)) (pl_cons (pd_nm (nm cf 0 (by decide +kernel))) pl_nil) (by decide +kernel))) (sd_cons (sd_set cf.nd (st_of cf 1 (by decide +kernel)).1 (st_of cf 1 (by decide +kernel)).2 (pd_call cf (by rfl) c_cycle_told (by decide) (gl cf (by decide +kernel)) (pl_cons (pd_nm (nm cf 0 (by decide +kernel))) pl_nil) (by decide +kernel)) (.inl (hfn _))) (sd_cons (sd_for cf.ps cf.calm (pit_r1 (gl cf (by decide +kernel)) fx.f_range (so (pd_len (gl cf (by decide +kernel)) fx.f_len (so (pd_nm (nm cf 0 (by decide +kernel))))))) (pt1_nm (pg_name (i := 2) cf.nd (st_of cf 2 (by decide +kernel)).1 (st_of cf 2 (by decide +kernel)).2 (.inl (hfn _)))) (sd_one (sd_for cf.ps cf.calm (pit_r1 (gl cf (by decide +kernel)) fx.f_range (so (pd_len (gl cf (by decide +kernel)) fx.f_len (so (pd_nm (nm cf 0 (by decide +kernel))))))) (pt1_nm (pg_name (i := 3) cf.nd (st_of cf 3 (by decide +kernel)).1 (st_of cf 3 (by decide +kernel)).2 (.inl (hfn _)))) (sd_one (sd_if (pb_cmp (op_neD cf.u4) od_ne (nomark _) (so (pd_call cf (by rfl) c_turn_after (by decide) (gl cf (by decide +kernel)) (pl_cons (pd_ix (so (pd_nm (nm cf 0 (by decide +kernel)))) (so (pd_nm (nm cf 2 (by decide +kernel))))) (pl_cons (pd_ix (so (pd_nm (nm cf 0 (by decide +kernel)))) (so (pd_ix (so (pd_ix (so (pd_nm (nm cf 1 (by decide +kernel)))) (so (pd_nm (nm cf 2 (by decide +kernel)))))) (so (pd_nm (nm cf 3 (by decide +kernel))))))) pl_nil)) (by decide +kernel))) (so (pd_call cf (by rfl) c_turn_after (by decide) (gl cf (by decide +kernel)) (pl_cons (pd_ix (so (pd_nm (nm cf 0 (by decide +kernel)))) (so (pd_nm (nm cf 3 (by decide +kernel))))) (pl_cons (pd_ix (so (pd_nm (nm cf 0 (by decide +kernel)))) (so (pd_ix (so (pd_ix (so (pd_nm (nm cf 1 (by decide +kernel)))) (so (pd_nm (nm cf 3 (by decide +kernel)))))) (so (pd_nm (nm cf 2 (by decide +kernel))))))) pl_nil)) (by decide +kernel)))) (sd_one (sd_ret (sw (pd_tup (pl_cons pd_str (pl_cons (pd_nm (nm cf 2 (by decide +kernel))) (pl_cons (pd_nm (nm cf 3 (by decide +kernel))) pl_nil))))))) sd_nil))))) (sd_one (sd_ret (sw pd_non))))))
theorem cal_corner_fault {P : Program} {w : World} {K : PySem.W.Frag} {mg : Str → Option Value} {base : Heap} {f : Addr} {fd : FuncData} (F : FunD K "corner_fault" "corner_fault" (defArgs s_corner_fault) (defBody s_corner_fault) (defScope s_corner_fault) [] [] f fd) (g : mg "corner_fault" = some (.ref f)) (fx : Fx K mg P) (c_need_table : Cal P w K mg base "need_table" 5 1 sp_need_table) (c_cycle_told : Cal P w K mg base "cycle_told" 2 1 sp_cycle_told) (c_turn_after : Cal P w K mg base "turn_after" 1 2 sp_turn_after) : Cal P w K mg base "corner_fault" 6 1 sp_corner_fault :=
  cal_of F g sc_corner_fault (F.bindsN fun _ _ _ _ _ _ us hl => match us, hl with | [_], _ => rfl) (by decide) (fun X B h1 h2 h3 h4 h5 hfn cf => by subst h1 h2 h3 h4 h5; exact der_corner_fault hfn fx cf c_need_table c_cycle_told c_turn_after) (fun args P er h => h)
abbrev N_cycle_table : List Str := ["table"]
def fb_cycle_table : WS := (dSeq (dExpr (dCall 1 sp_need_table (dCons (dNm 0) dNil)))
  (dRet (dCall 1 sp_cycle_told (dCons (dNm 0) dNil))))
def sp_cycle_table : MT.Spec := bodyW 1 fb_cycle_table
theorem sc_cycle_table : FnScope N_cycle_table ["table"] (defScope s_cycle_table) := ⟨by rfl, by rfl, by rfl, by decide +kernel, by rfl, by decide +kernel, by decide +kernel⟩
theorem der_cycle_table {X : Cx} {B : Bd} (hfn : ∀ y, X.fn y = true) (fx : Fx X.K X.mg X.prog) (cf : Cf X B N_cycle_table (defScope s_cycle_table) 5) (c_need_table : Cal X.prog X.w X.K X.mg X.base "need_table" 5 1 sp_need_table) (c_cycle_told : Cal X.prog X.w X.K X.mg X.base "cycle_told" 2 1 sp_cycle_told) :
    SDs X B (defBody s_cycle_table) (fb_cycle_table) :=
  (sd_cons (sd_expr (pd_call cf (by rfl) c_need_table (by decide) (gl cf (by decide +kernel)) (pl_cons (pd_nm (nm cf 0 (by decide +kernel))) pl_nil) (by decide +kernel))) (sd_one (sd_ret (sw (pd_call cf (by rfl) c_cycle_told (by decide) (gl cf (by decide +kernel)) (pl_cons (pd_nm (nm cf 0 (by decide +kernel))) pl_nil) (by decide +kernel))))))
theorem cal_cycle_table {P : Program} {w : World} {K : PySem.W.Frag} {mg : Str → Option Value} {base : Heap} {f : Addr} {fd : FuncData} (F : FunD K "cycle_table" "cycle_table" (defArgs s_cycle_table) (defBody s_cycle_table) (defScope s_cycle_table) [] [] f fd) (g : mg "cycle_table" = some (.ref f)) (fx : Fx K mg P) (c_need_table : Cal P w K mg base "need_table" 5 1 sp_need_table) (c_cycle_told : Cal P w K mg base "cycle_told" 2 1 sp_cycle_told) : Cal P w K mg base "cycle_table" 6 1 sp_cycle_table :=
  cal_of F g sc_cycle_table (F.bindsN fun _ _ _ _ _ _ us hl => match us, hl with | [_], _ => rfl) (by decide) (fun X B h1 h2 h3 h4 h5 hfn cf => by subst h1 h2 h3 h4 h5; exact der_cycle_table hfn fx cf c_need_table c_cycle_told) (fun args P er h => h)
abbrev N_diagonal : List Str := ["rule"]
def fb_diagonal : WS := (dSeq (dExpr (dCall 1 sp_need_rule (dCons (dNm 0) dNil)))
  (dRet (dCall 1 sp_diagonal_told (dCons (dNm 0) dNil))))
def sp_diagonal : MT.Spec := bodyW 1 fb_diagonal
theorem sc_diagonal : FnScope N_diagonal ["rule"] (defScope s_diagonal) := ⟨by rfl, by rfl, by rfl, by decide +kernel, by rfl, by decide +kernel, by decide +kernel⟩
theorem der_diagonal {X : Cx} {B : Bd} (hfn : ∀ y, X.fn y = true) (fx : Fx X.K X.mg X.prog) (cf : Cf X B N_diagonal (defScope s_diagonal) 6) (c_need_rule : Cal X.prog X.w X.K X.mg X.base "need_rule" 6 1 sp_need_rule) (c_diagonal_told : Cal X.prog X.w X.K X.mg X.base "diagonal_told" 1 1 sp_diagonal_told) :
    SDs X B (defBody s_diagonal) (fb_diagonal) :=
  (sd_cons (sd_expr (pd_call cf (by rfl) c_need_rule (by decide) (gl cf (by decide +kernel)) (pl_cons (pd_nm (nm cf 0 (by decide +kernel))) pl_nil) (by decide +kernel))) (sd_one (sd_ret (sw (pd_call cf (by rfl) c_diagonal_told (by decide) (gl cf (by decide +kernel)) (pl_cons (pd_nm (nm cf 0 (by decide +kernel))) pl_nil) (by decide +kernel))))))
theorem cal_diagonal {P : Program} {w : World} {K : PySem.W.Frag} {mg : Str → Option Value} {base : Heap} {f : Addr} {fd : FuncData} (F : FunD K "diagonal" "diagonal" (defArgs s_diagonal) (defBody s_diagonal) (defScope s_diagonal) [] [] f fd) (g : mg "diagonal" = some (.ref f)) (fx : Fx K mg P) (c_need_rule : Cal P w K mg base "need_rule" 6 1 sp_need_rule) (c_diagonal_told : Cal P w K mg base "diagonal_told" 1 1 sp_diagonal_told) : Cal P w K mg base "diagonal" 7 1 sp_diagonal :=
  cal_of F g sc_diagonal (F.bindsN fun _ _ _ _ _ _ us hl => match us, hl with | [_], _ => rfl) (by decide) (fun X B h1 h2 h3 h4 h5 hfn cf => by subst h1 h2 h3 h4 h5; exact der_diagonal hfn fx cf c_need_rule c_diagonal_told) (fun args P er h => h)
abbrev N__law_blend : List Str := ["draw", "laps", "found", "prime", "stirred", "cell"]
def fb__law_blend : WS := (dSeq (dPars [1, 2] (vCons (slOf (dBin oAdd (dDrI 0) (dC (.int 1)))) (vCons (slOf (dC (.int 0))) vNil)))
  (dSeq (dDrPut 0 (dNm 1))
  (dSeq (dFor (dItems (dLst (dCons (dC (.int 2147483629)) (dCons (dC (.int 2147483587)) (dCons (dC (.int 2147483579)) dNil))))) (tg1 3) (dSeq (dSet 4 (dBin oMod (dUn oInt (dBin oAdd (dBin oMul (dNm 1) (dC (.int 69621))) (dBin oFdv (dNm 3) (dC (.int 13))))) (dNm 3)))
  (dSeq (dFor (dItems (dDrC 0)) (tg1 5) (dSet 4 (dBin oMod (dUn oInt (dBin oAdd (dBin oAdd (dBin oMul (dNm 4) (dC (.int 48271))) (dUn oInt (dNm 5))) (dC (.int 5)))) (dNm 3))))
  (dSet 2 (dBin oAdd (dBin oMul (dNm 2) (dC (.int 2147483647))) (dBin oMod (dUn oInt (dBin oPow (dNm 4) (dC (.int 5)))) (dNm 3)))))))
  (dRet (dNm 2)))))
theorem blend_in {E : DE} {t f p : Int} (hp : 0 < p) (hp2 : p < 2 ^ 63) (body : WS) (hb : ∀ (nx bk ct : List Slot → Prop) rt er s c, 0 ≤ s → s < p → (∀ s', 0 ≤ s' → s' < p → nx [.dr, .d (.int t), .d (.int f), .d (.int p), .d (.int s'), .d (.int c)]) → body ⟨nx, rt, bk, ct, er⟩ [.dr, .d (.int t), .d (.int f), .d (.int p), .d (.int s), .d (.int c)]) :
    ∀ (ns : List Int) (s : Int) (x : Slot), 0 ≤ s → s < p → (∀ s' y, 0 ≤ s' → s' < p → E.nx [.dr, .d (.int t), .d (.int f), .d (.int p), .d (.int s'), y]) → forW (tg1 5) body (ns.map PyData.int) E [.dr, .d (.int t), .d (.int f), .d (.int p), .d (.int s), x]
  | [], s, x, h1, h2, k => k s x h1 h2
  | n :: ns, s, x, h1, h2, k => ⟨[.dr, .d (.int t), .d (.int f), .d (.int p), .d (.int s), .d (.int n)], rfl, hb _ _ _ _ _ s n h1 h2 fun s' h1 h2 => blend_in hp hp2 body hb ns s' _ h1 h2 k⟩
theorem sem_blend {args : List Slot} {P : PyData → Prop} {er : Exn → Prop} (h : sp__law_blend args P er) : bodyW 6 fb__law_blend args P er := by
  obtain ⟨rfl, hP⟩ := h
  refine ⟨rfl, fun t => ⟨rfl, ⟨_, rfl⟩, rfl, by decide, ?_⟩⟩
  refine forW_inv (fun i env => ∃ f x y z, env = [.dr, .d (.int (t + 1)), .d (.int f), x, y, z]) ⟨0, _, _, _, rfl⟩ ?_ ?_
  · rintro i x env nx hx ⟨f, x2, x3, x4, rfl⟩ hnx
    have hp : ∃ p : Int, x = .int p ∧ 2147483578 < p ∧ p < 2147483648 := by
      match i, hx with
      | 0, hx => cases hx; exact ⟨_, rfl, by decide, by decide⟩
      | 1, hx => cases hx; exact ⟨_, rfl, by decide, by decide⟩
      | 2, hx => cases hx; exact ⟨_, rfl, by decide, by decide⟩
      | i + 3, hx => simp at hx
    obtain ⟨p, rfl, p1, p2⟩ := hp
    have p0 : 0 < p := by omega
    refine ⟨_, rfl, .inr ⟨by decide, by decide⟩, ⟨by decide, by decide⟩, p0, rfl, fun ns => ?_⟩
    refine blend_in p0 (by omega) _ (fun nx' bk ct rt er s c h1 h2 k => ?_) ns _ _ (Int.emod_nonneg _ (by omega)) (Int.emod_lt_of_pos _ p0) fun s y h1 h2 => ?_
    · exact ⟨.inr ⟨by decide, by decide⟩, p0, k _ (Int.emod_nonneg _ (by omega)) (Int.emod_lt_of_pos _ p0)⟩
    · exact ⟨.inr ⟨by decide, by decide⟩, ⟨by decide, by decide, by omega⟩, p0, hnx _ ⟨_, _, _, _, rfl⟩⟩
  · rintro env ⟨f, x, y, z, rfl⟩
    exact hP f

theorem sc__law_blend : FnScope N__law_blend ["draw"] (defScope s__law_blend) := ⟨by rfl, by rfl, by rfl, by decide +kernel, by rfl, by decide +kernel, by decide +kernel⟩
theorem der__law_blend {X : Cx} {B : Bd} (hfn : ∀ y, X.fn y = true) (fx : Fx X.K X.mg X.prog) (cf : Cf X B N__law_blend (defScope s__law_blend) 0) :
    SDs X B (defBody s__law_blend) (fb__law_blend) :=
  (sd_cons (sd_par2 (ps_par (i := 1) (j := 2) cf.calm cf.nd (st_of cf 1 (by decide +kernel)).1 (st_of cf 2 (by decide +kernel)).1 (by decide) (loc_of cf (by decide +kernel)) (loc_of cf (by decide +kernel)) (vl_d (pd_add (so (pd_drI (.inr rfl) (pe_dget cf.u1 (nm cf 0 (by decide +kernel)) pe_str NoSl_str))) (so pd_int)) (vl_d pd_int vl_nil)) (swp_of cf (by intro en hS; cases en; cases hS; rfl)))) (sd_cons (sd_drPut (.inr rfl) (ps_dput cf.u1 (nm cf 0 (by decide +kernel)) pe_str (pd_nm (nm cf 1 (by decide +kernel))) (by rfl))) (sd_cons (sd_for cf.ps cf.calm (pit_seq (.inl rfl) (pd_lst (pl_cons pd_int (pl_cons pd_int (pl_cons pd_int pl_nil))))) (pt1_nm (pg_name (i := 3) cf.nd (st_of cf 3 (by decide +kernel)).1 (st_of cf 3 (by decide +kernel)).2 (.inl (hfn _)))) (sd_cons (sd_set cf.nd (st_of cf 4 (by decide +kernel)).1 (st_of cf 4 (by decide +kernel)).2 (pd_mod (so (pd_int1 (gl cf (by decide +kernel)) fx.f_int (so (pd_add (so (pd_mul (so (pd_nm (nm cf 1 (by decide +kernel)))) (so pd_int))) (so (pd_fdv (so (pd_nm (nm cf 3 (by decide +kernel)))) (so pd_int))))))) (so (pd_nm (nm cf 3 (by decide +kernel))))) (.inl (hfn _))) (sd_cons (sd_for cf.ps cf.calm (pit_seq (.inl rfl) (pd_drC (pe_dget cf.u1 (nm cf 0 (by decide +kernel)) pe_str NoSl_str))) (pt1_nm (pg_name (i := 5) cf.nd (st_of cf 5 (by decide +kernel)).1 (st_of cf 5 (by decide +kernel)).2 (.inl (hfn _)))) (sd_one (sd_set cf.nd (st_of cf 4 (by decide +kernel)).1 (st_of cf 4 (by decide +kernel)).2 (pd_mod (so (pd_int1 (gl cf (by decide +kernel)) fx.f_int (so (pd_add (so (pd_add (so (pd_mul (so (pd_nm (nm cf 4 (by decide +kernel)))) (so pd_int))) (so (pd_int1 (gl cf (by decide +kernel)) fx.f_int (so (pd_nm (nm cf 5 (by decide +kernel)))))))) (so pd_int))))) (so (pd_nm (nm cf 3 (by decide +kernel))))) (.inl (hfn _))))) (sd_one (sd_set cf.nd (st_of cf 2 (by decide +kernel)).1 (st_of cf 2 (by decide +kernel)).2 (pd_add (so (pd_mul (so (pd_nm (nm cf 2 (by decide +kernel)))) (so pd_int))) (so (pd_mod (so (pd_int1 (gl cf (by decide +kernel)) fx.f_int (so (pd_pow (so (pd_nm (nm cf 4 (by decide +kernel)))) (so pd_int))))) (so (pd_nm (nm cf 3 (by decide +kernel))))))) (.inl (hfn _))))))) (sd_one (sd_ret (sw (pd_nm (nm cf 2 (by decide +kernel)))))))))
theorem cal__law_blend {P : Program} {w : World} {K : PySem.W.Frag} {mg : Str → Option Value} {base : Heap} {f : Addr} {fd : FuncData} (F : FunD K "_law_blend" "_law_blend" (defArgs s__law_blend) (defBody s__law_blend) (defScope s__law_blend) [] [] f fd) (g : mg "_law_blend" = some (.ref f)) (fx : Fx K mg P) : Cal P w K mg base "_law_blend" 1 1 sp__law_blend :=
  cal_of F g sc__law_blend (F.bindsN fun _ _ _ _ _ _ us hl => match us, hl with | [_], _ => rfl) (by decide) (fun X B h1 h2 h3 h4 h5 hfn cf => by subst h1 h2 h3 h4 h5; exact der__law_blend hfn fx cf) (fun args P er h => sem_blend h)
abbrev N__law_take : List Str := ["draw", "size", "found"]
def fb__law_take : WS := (dSeq (dDrain 0)
  (dSeq (dIfS (asB (dBin oEq (dDrI 0) (dC (.int 0)))) (dDrPut 0 (dCallD 1 0 sp__law_blend dNil)) dNext)
  (dSeq (dSet 2 (dBin oMod (dUn oInt (dDrI 0)) (dNm 1)))
  (dSeq (dDrPut 0 (dBin oFdv (dUn oInt (dDrI 0)) (dNm 1)))
  (dRet (dNm 2))))))
theorem sem_take {args : List Slot} {P : PyData → Prop} {er : Exn → Prop} (h : sp__law_take args P er) : bodyW 3 fb__law_take args P er := by
  obtain ⟨n, rfl, h1, h2, hP⟩ := h
  have fin : ∀ (E : DE), (∀ k : Int, 0 ≤ k → k < n → E.rt [.dr, .d (.int n), .d (.int k)] (.int k)) → (dSeq (dSet 2 (dBin oMod (dUn oInt (dDrI 0)) (dNm 1)))
    (dSeq (dDrPut 0 (dBin oFdv (dUn oInt (dDrI 0)) (dNm 1))) (dRet (dNm 2)))) E [.dr, .d (.int n), .un] := fun E hE =>
    ⟨rfl, fun t => ⟨h1, rfl, fun t' => ⟨⟨h1, by omega⟩, ⟨_, rfl⟩, rfl, hE _ (Int.emod_nonneg _ (by omega)) (Int.emod_lt_of_pos _ h1)⟩⟩⟩
  refine ⟨rfl, rfl, fun t => ⟨sh_int _, sh_int _, ?_⟩⟩
  show if PyData.eqv (.int t) (.int 0) = true then _ else _
  split
  · exact ⟨rfl, rfl, rfl, fun x => ⟨⟨_, rfl⟩, rfl, fin _ fun k h3 h4 => hP k h3 h4⟩⟩
  · exact fin _ fun k h3 h4 => hP k h3 h4

theorem sc__law_take : FnScope N__law_take ["draw", "size"] (defScope s__law_take) := ⟨by rfl, by rfl, by rfl, by decide +kernel, by rfl, by decide +kernel, by decide +kernel⟩
theorem der__law_take {X : Cx} {B : Bd} (hfn : ∀ y, X.fn y = true) (fx : Fx X.K X.mg X.prog) (cf : Cf X B N__law_take (defScope s__law_take) 1) (c__law_blend : Cal X.prog X.w X.K X.mg X.base "_law_blend" 1 1 sp__law_blend) :
    SDs X B (defBody s__law_take) (fb__law_take) :=
  (sd_cons (sd_drain (ps_while cf.ps (PW.pt (pw_and (pt_cmpR (op_eqD cf.u4) (pe_dget cf.u1 (nm cf 0 (by decide +kernel)) pe_str NoSl_str) pe_int (nomark _)) (pw_and1 (pt_cmpR (op_neD cf.u4) (pe_dget cf.u1 (nm cf 0 (by decide +kernel)) pe_str NoSl_str) (pe_lst pa_nil) (nomark _))))) (pss_one (ps_dput cf.u1 (nm cf 0 (by decide +kernel)) pe_str (pe_bm PySem.F.plainAttrs_list PySem.F.slot_list_pop PySem.F.type_list_pop mt_popAt (pe_dget cf.u1 (nm cf 0 (by decide +kernel)) pe_str NoSl_str) (pa_cons pe_int pa_nil)) (by rfl))))) (sd_cons (sd_if (pb_cmp (op_eqD cf.u4) od_eq (nomark _) (so (pd_drI (.inl rfl) (pe_dget cf.u1 (nm cf 0 (by decide +kernel)) pe_str NoSl_str))) (so pd_int)) (sd_one (sd_drPut (.inl rfl) (ps_dput cf.u1 (nm cf 0 (by decide +kernel)) pe_str (pd_callD cf c__law_blend (by decide) (gl cf (by decide +kernel)) (nm cf 0 (by decide +kernel)) pl_nil (by decide +kernel)) (by rfl)))) sd_nil) (sd_cons (sd_set cf.nd (st_of cf 2 (by decide +kernel)).1 (st_of cf 2 (by decide +kernel)).2 (pd_mod (so (pd_int1 (gl cf (by decide +kernel)) fx.f_int (so (pd_drI (.inl rfl) (pe_dget cf.u1 (nm cf 0 (by decide +kernel)) pe_str NoSl_str))))) (so (pd_nm (nm cf 1 (by decide +kernel))))) (.inl (hfn _))) (sd_cons (sd_drPut (.inl rfl) (ps_dput cf.u1 (nm cf 0 (by decide +kernel)) pe_str (pd_fdv (so (pd_int1 (gl cf (by decide +kernel)) fx.f_int (so (pd_drI (.inl rfl) (pe_dget cf.u1 (nm cf 0 (by decide +kernel)) pe_str NoSl_str))))) (so (pd_nm (nm cf 1 (by decide +kernel))))) (by rfl))) (sd_one (sd_ret (sw (pd_nm (nm cf 2 (by decide +kernel))))))))))
theorem cal__law_take {P : Program} {w : World} {K : PySem.W.Frag} {mg : Str → Option Value} {base : Heap} {f : Addr} {fd : FuncData} (F : FunD K "_law_take" "_law_take" (defArgs s__law_take) (defBody s__law_take) (defScope s__law_take) [] [] f fd) (g : mg "_law_take" = some (.ref f)) (fx : Fx K mg P) (c__law_blend : Cal P w K mg base "_law_blend" 1 1 sp__law_blend) : Cal P w K mg base "_law_take" 2 2 sp__law_take :=
  cal_of F g sc__law_take (F.bindsN fun _ _ _ _ _ _ us hl => match us, hl with | [_, _], _ => rfl) (by decide) (fun X B h1 h2 h3 h4 h5 hfn cf => by subst h1 h2 h3 h4 h5; exact der__law_take hfn fx cf c__law_blend) (fun args P er h => sem_take h)
abbrev N__law_pick : List Str := ["draw", "some"]
def fb__law_pick : WS := (dRet (dBin oIx (dNm 1) (dCallD 2 0 sp__law_take (dCons (dUn oLen (dNm 1)) dNil))))
def sp__law_pick : MT.Spec := bodyW 2 fb__law_pick
theorem sc__law_pick : FnScope N__law_pick ["draw", "some"] (defScope s__law_pick) := ⟨by rfl, by rfl, by rfl, by decide +kernel, by rfl, by decide +kernel, by decide +kernel⟩
theorem der__law_pick {X : Cx} {B : Bd} (hfn : ∀ y, X.fn y = true) (fx : Fx X.K X.mg X.prog) (cf : Cf X B N__law_pick (defScope s__law_pick) 2) (c__law_take : Cal X.prog X.w X.K X.mg X.base "_law_take" 2 2 sp__law_take) :
    SDs X B (defBody s__law_pick) (fb__law_pick) :=
  (sd_one (sd_ret (sw (pd_ix (so (pd_nm (nm cf 1 (by decide +kernel)))) (so (pd_callD cf c__law_take (by decide) (gl cf (by decide +kernel)) (nm cf 0 (by decide +kernel)) (pl_cons (pd_len (gl cf (by decide +kernel)) fx.f_len (so (pd_nm (nm cf 1 (by decide +kernel))))) pl_nil) (by decide +kernel)))))))
theorem cal__law_pick {P : Program} {w : World} {K : PySem.W.Frag} {mg : Str → Option Value} {base : Heap} {f : Addr} {fd : FuncData} (F : FunD K "_law_pick" "_law_pick" (defArgs s__law_pick) (defBody s__law_pick) (defScope s__law_pick) [] [] f fd) (g : mg "_law_pick" = some (.ref f)) (fx : Fx K mg P) (c__law_take : Cal P w K mg base "_law_take" 2 2 sp__law_take) : Cal P w K mg base "_law_pick" 3 2 sp__law_pick :=
  cal_of F g sc__law_pick (F.bindsN fun _ _ _ _ _ _ us hl => match us, hl with | [_, _], _ => rfl) (by decide) (fun X B h1 h2 h3 h4 h5 hfn cf => by subst h1 h2 h3 h4 h5; exact der__law_pick hfn fx cf c__law_take) (fun args P er h => h)
abbrev N__law_shuffled : List Str := ["draw", "some", "left", "found"]
def fb__law_shuffled : WS := (dSeq (dPars [2, 3] (vCons (slOwn (fUn seqOf (dNm 1))) (vCons (slOwn (fLst dNil)) vNil)))
  (dSeq (dWhile (asB (dBin oNe (dOw 2) (dLst dNil))) (dAppPop 3 2 (dCallD 2 0 sp__law_take (dCons (dUn oLen (dOw 2)) dNil))))
  (dRet (dOw 3))))
def sp__law_shuffled : MT.Spec := bodyW 4 fb__law_shuffled
theorem sc__law_shuffled : FnScope N__law_shuffled ["draw", "some"] (defScope s__law_shuffled) := ⟨by rfl, by rfl, by rfl, by decide +kernel, by rfl, by decide +kernel, by decide +kernel⟩
theorem der__law_shuffled {X : Cx} {B : Bd} (hfn : ∀ y, X.fn y = true) (fx : Fx X.K X.mg X.prog) (cf : Cf X B N__law_shuffled (defScope s__law_shuffled) 2) (c__law_take : Cal X.prog X.w X.K X.mg X.base "_law_take" 2 2 sp__law_take) :
    SDs X B (defBody s__law_shuffled) (fb__law_shuffled) :=
  (sd_cons (sd_par2 (ps_par (i := 2) (j := 3) cf.calm cf.nd (st_of cf 2 (by decide +kernel)).1 (st_of cf 3 (by decide +kernel)).1 (by decide) (loc_of cf (by decide +kernel)) (loc_of cf (by decide +kernel)) (vl_own (pf_list (gl cf (by decide +kernel)) fx.f_list (so (pd_nm (nm cf 1 (by decide +kernel))))) (vl_own (pf_lst pl_nil) vl_nil)) (swp_of cf (by intro en hS; cases en; cases hS; rfl)))) (sd_cons (sd_while cf.ps (pb_cmp (op_neD cf.u4) od_ne (nomark _) (pd_ow (nm cf 2 (by decide +kernel))) (so (pd_lst pl_nil))) (sd_one (sd_appPop (pe_bm PySem.F.plainAttrs_list PySem.F.slot_list_append PySem.F.type_list_append mt_append (nm cf 3 (by decide +kernel)) (pa_cons (pe_bm PySem.F.plainAttrs_list PySem.F.slot_list_pop PySem.F.type_list_pop mt_popAt (nm cf 2 (by decide +kernel)) (pa_cons (so (pd_callD cf c__law_take (by decide) (gl cf (by decide +kernel)) (nm cf 0 (by decide +kernel)) (pl_cons (pd_len (gl cf (by decide +kernel)) fx.f_len (pd_ow (nm cf 2 (by decide +kernel)))) pl_nil) (by decide +kernel))) pa_nil)) pa_nil))))) (sd_one (sd_ret (ow (pd_ow (nm cf 3 (by decide +kernel))))))))
theorem cal__law_shuffled {P : Program} {w : World} {K : PySem.W.Frag} {mg : Str → Option Value} {base : Heap} {f : Addr} {fd : FuncData} (F : FunD K "_law_shuffled" "_law_shuffled" (defArgs s__law_shuffled) (defBody s__law_shuffled) (defScope s__law_shuffled) [] [] f fd) (g : mg "_law_shuffled" = some (.ref f)) (fx : Fx K mg P) (c__law_take : Cal P w K mg base "_law_take" 2 2 sp__law_take) : Cal P w K mg base "_law_shuffled" 3 2 sp__law_shuffled :=
  cal_of F g sc__law_shuffled (F.bindsN fun _ _ _ _ _ _ us hl => match us, hl with | [_, _], _ => rfl) (by decide) (fun X B h1 h2 h3 h4 h5 hfn cf => by subst h1 h2 h3 h4 h5; exact der__law_shuffled hfn fx cf c__law_take) (fun args P er h => h)
abbrev N__law_same : List Str := ["told", "due"]
def fb__law_same : WS := (dRet (dBin oEqS (dUn oRepr (dNm 0)) (dUn oRepr (dNm 1))))
def sp__law_same : MT.Spec := bodyW 2 fb__law_same
theorem sc__law_same : FnScope N__law_same ["told", "due"] (defScope s__law_same) := ⟨by rfl, by rfl, by rfl, by decide +kernel, by rfl, by decide +kernel, by decide +kernel⟩
theorem der__law_same {X : Cx} {B : Bd} (hfn : ∀ y, X.fn y = true) (fx : Fx X.K X.mg X.prog) (cf : Cf X B N__law_same (defScope s__law_same) 0) :
    SDs X B (defBody s__law_same) (fb__law_same) :=
  (sd_one (sd_ret (sw (pd_cmp op_eq od_eqS (nomark _) (so (pd_repr cf.u6 cf.gd (gl cf (by decide +kernel)) fx.f_repr (so (pd_nm (nm cf 0 (by decide +kernel)))))) (so (pd_repr cf.u6 cf.gd (gl cf (by decide +kernel)) fx.f_repr (so (pd_nm (nm cf 1 (by decide +kernel))))))))))
theorem cal__law_same {P : Program} {w : World} {K : PySem.W.Frag} {mg : Str → Option Value} {base : Heap} {f : Addr} {fd : FuncData} (F : FunD K "_law_same" "_law_same" (defArgs s__law_same) (defBody s__law_same) (defScope s__law_same) [] [] f fd) (g : mg "_law_same" = some (.ref f)) (fx : Fx K mg P) : Cal P w K mg base "_law_same" 1 2 sp__law_same :=
  cal_of F g sc__law_same (F.bindsN fun _ _ _ _ _ _ us hl => match us, hl with | [_, _], _ => rfl) (by decide) (fun X B h1 h2 h3 h4 h5 hfn cf => by subst h1 h2 h3 h4 h5; exact der__law_same hfn fx cf) (fun args P er h => h)
abbrev N__law_undone : List Str := ["turn", "k"]
def fb__law_undone : WS := (dRet (dUn oTuple (dLc (dRng1 (dUn oLen (dNm 0))) (tg1 1) bYes (dTM oTIdx (dNm 0) (dNm 1)) [1])))
def sp__law_undone : MT.Spec := bodyW 2 fb__law_undone
theorem sc__law_undone : FnScope N__law_undone ["turn"] (defScope s__law_undone) := ⟨by rfl, by rfl, by rfl, by decide +kernel, by rfl, by decide +kernel, by decide +kernel⟩
theorem der__law_undone {X : Cx} {B : Bd} (hfn : ∀ y, X.fn y = true) (fx : Fx X.K X.mg X.prog) (cf : Cf X B N__law_undone (defScope s__law_undone) 0) :
    SDs X B (defBody s__law_undone) (fb__law_undone) :=
  (sd_one (sd_ret (sw (pd_tuple (gl cf (by decide +kernel)) fx.f_tuple (so (pd_lc (.inl rfl) cf.calm cf.nd (pit_r1 (gl cf (by decide +kernel)) fx.f_range (so (pd_len (gl cf (by decide +kernel)) fx.f_len (so (pd_nm (nm cf 0 (by decide +kernel))))))) (blk_of cf (by decide +kernel)) (fun s1 H1 C1 l1 p1 => (pt1_nm (pg_name (i := 1) (Cf.blk cf _ s1 H1 C1 l1 p1).nd (st_of (Cf.blk cf _ s1 H1 C1 l1 p1) 1 (by decide +kernel)).1 (st_of (Cf.blk cf _ s1 H1 C1 l1 p1) 1 (by decide +kernel)).2 (by first | exact .inr (loc_of (Cf.blk cf _ s1 H1 C1 l1 p1) (by decide +kernel)) | exact .inl (fnc_of (by decide +kernel)))))) (by decide) (fun s1 H1 C1 l1 p1 => pts_no) (fun s1 H1 C1 l1 p1 => (pd_tindex (so (pd_nm (nm (Cf.blk cf _ s1 H1 C1 l1 p1) 0 (by decide +kernel)))) (so (pd_nm (nm (Cf.blk cf _ s1 H1 C1 l1 p1) 1 (by decide +kernel)))))) (own := [("k", 1)])))))))
theorem cal__law_undone {P : Program} {w : World} {K : PySem.W.Frag} {mg : Str → Option Value} {base : Heap} {f : Addr} {fd : FuncData} (F : FunD K "_law_undone" "_law_undone" (defArgs s__law_undone) (defBody s__law_undone) (defScope s__law_undone) [] [] f fd) (g : mg "_law_undone" = some (.ref f)) (fx : Fx K mg P) : Cal P w K mg base "_law_undone" 1 1 sp__law_undone :=
  cal_of F g sc__law_undone (F.bindsN fun _ _ _ _ _ _ us hl => match us, hl with | [_], _ => rfl) (by decide) (fun X B h1 h2 h3 h4 h5 hfn cf => by subst h1 h2 h3 h4 h5; exact der__law_undone hfn fx cf) (fun args P er h => h)
abbrev N__law_behind : List Str := ["one", "other", "k"]
def fb__law_behind : WS := (dRet (dUn oTuple (dLc (dItems (dNm 1)) (tg1 2) bYes (dBin oIx (dNm 0) (dNm 2)) [2])))
def sp__law_behind : MT.Spec := bodyW 3 fb__law_behind
theorem sc__law_behind : FnScope N__law_behind ["one", "other"] (defScope s__law_behind) := ⟨by rfl, by rfl, by rfl, by decide +kernel, by rfl, by decide +kernel, by decide +kernel⟩
theorem der__law_behind {X : Cx} {B : Bd} (hfn : ∀ y, X.fn y = true) (fx : Fx X.K X.mg X.prog) (cf : Cf X B N__law_behind (defScope s__law_behind) 0) :
    SDs X B (defBody s__law_behind) (fb__law_behind) :=
  (sd_one (sd_ret (sw (pd_tuple (gl cf (by decide +kernel)) fx.f_tuple (so (pd_lc (.inl rfl) cf.calm cf.nd (pit_seq (.inl rfl) (pd_nm (nm cf 1 (by decide +kernel)))) (blk_of cf (by decide +kernel)) (fun s1 H1 C1 l1 p1 => (pt1_nm (pg_name (i := 2) (Cf.blk cf _ s1 H1 C1 l1 p1).nd (st_of (Cf.blk cf _ s1 H1 C1 l1 p1) 2 (by decide +kernel)).1 (st_of (Cf.blk cf _ s1 H1 C1 l1 p1) 2 (by decide +kernel)).2 (by first | exact .inr (loc_of (Cf.blk cf _ s1 H1 C1 l1 p1) (by decide +kernel)) | exact .inl (fnc_of (by decide +kernel)))))) (by decide) (fun s1 H1 C1 l1 p1 => pts_no) (fun s1 H1 C1 l1 p1 => (pd_ix (so (pd_nm (nm (Cf.blk cf _ s1 H1 C1 l1 p1) 0 (by decide +kernel)))) (so (pd_nm (nm (Cf.blk cf _ s1 H1 C1 l1 p1) 2 (by decide +kernel)))))) (own := [("k", 2)])))))))
theorem cal__law_behind {P : Program} {w : World} {K : PySem.W.Frag} {mg : Str → Option Value} {base : Heap} {f : Addr} {fd : FuncData} (F : FunD K "_law_behind" "_law_behind" (defArgs s__law_behind) (defBody s__law_behind) (defScope s__law_behind) [] [] f fd) (g : mg "_law_behind" = some (.ref f)) (fx : Fx K mg P) : Cal P w K mg base "_law_behind" 1 2 sp__law_behind :=
  cal_of F g sc__law_behind (F.bindsN fun _ _ _ _ _ _ us hl => match us, hl with | [_, _], _ => rfl) (by decide) (fun X B h1 h2 h3 h4 h5 hfn cf => by subst h1 h2 h3 h4 h5; exact der__law_behind hfn fx cf) (fun args P er h => h)
abbrev N__law_rows : List Str := ["size", "many", "found", "k", "longer", "row", "number"]
def fb__law_rows : WS := (dSeq (dSet 2 (dLst (dCons (dTup dNil) dNil)))
  (dSeq (dFor (dRng1 (dNm 1)) (tg1 3) (dSeq (dSet 4 (dLst dNil))
  (dSeq (dFor (dItems (dNm 2)) (tg1 5) (dSet 4 (dBin oAdd (dNm 4) (dLc (dRng1 (dNm 0)) (tg1 6) bYes (dBin oAdd (dNm 5) (dTup (dCons (dNm 6) dNil))) [6]))))
  (dSet 2 (dNm 4)))))
  (dRet (dNm 2))))
def sp__law_rows : MT.Spec := bodyW 7 fb__law_rows
theorem sc__law_rows : FnScope N__law_rows ["size", "many"] (defScope s__law_rows) := ⟨by rfl, by rfl, by rfl, by decide +kernel, by rfl, by decide +kernel, by decide +kernel⟩
theorem der__law_rows {X : Cx} {B : Bd} (hfn : ∀ y, X.fn y = true) (fx : Fx X.K X.mg X.prog) (cf : Cf X B N__law_rows (defScope s__law_rows) 0) :
    SDs X B (defBody s__law_rows) (fb__law_rows) :=
  (sd_cons (sd_set cf.nd (st_of cf 2 (by decide +kernel)).1 (st_of cf 2 (by decide +kernel)).2 (pd_lst (pl_cons (pd_tup pl_nil) pl_nil)) (.inl (hfn _))) (sd_cons (sd_for cf.ps cf.calm (pit_r1 (gl cf (by decide +kernel)) fx.f_range (so (pd_nm (nm cf 1 (by decide +kernel))))) (pt1_nm (pg_name (i := 3) cf.nd (st_of cf 3 (by decide +kernel)).1 (st_of cf 3 (by decide +kernel)).2 (.inl (hfn _)))) (sd_cons (sd_set cf.nd (st_of cf 4 (by decide +kernel)).1 (st_of cf 4 (by decide +kernel)).2 (pd_lst pl_nil) (.inl (hfn _))) (sd_cons (sd_for cf.ps cf.calm (pit_seq (.inl rfl) (pd_nm (nm cf 2 (by decide +kernel)))) (pt1_nm (pg_name (i := 5) cf.nd (st_of cf 5 (by decide +kernel)).1 (st_of cf 5 (by decide +kernel)).2 (.inl (hfn _)))) (sd_one (sd_set cf.nd (st_of cf 4 (by decide +kernel)).1 (st_of cf 4 (by decide +kernel)).2 (pd_add (so (pd_nm (nm cf 4 (by decide +kernel)))) (so (pd_lc (.inl rfl) cf.calm cf.nd (pit_r1 (gl cf (by decide +kernel)) fx.f_range (so (pd_nm (nm cf 0 (by decide +kernel))))) (blk_of cf (by decide +kernel)) (fun s1 H1 C1 l1 p1 => (pt1_nm (pg_name (i := 6) (Cf.blk cf _ s1 H1 C1 l1 p1).nd (st_of (Cf.blk cf _ s1 H1 C1 l1 p1) 6 (by decide +kernel)).1 (st_of (Cf.blk cf _ s1 H1 C1 l1 p1) 6 (by decide +kernel)).2 (by first | exact .inr (loc_of (Cf.blk cf _ s1 H1 C1 l1 p1) (by decide +kernel)) | exact .inl (fnc_of (by decide +kernel)))))) (by decide) (fun s1 H1 C1 l1 p1 => pts_no) (fun s1 H1 C1 l1 p1 => (pd_add (so (pd_nm (nm (Cf.blk cf _ s1 H1 C1 l1 p1) 5 (by decide +kernel)))) (so (pd_tup (pl_cons (pd_nm (nm (Cf.blk cf _ s1 H1 C1 l1 p1) 6 (by decide +kernel))) pl_nil))))) (own := [("number", 6)])))) (.inl (hfn _))))) (sd_one (sd_set cf.nd (st_of cf 2 (by decide +kernel)).1 (st_of cf 2 (by decide +kernel)).2 (pd_nm (nm cf 4 (by decide +kernel))) (.inl (hfn _))))))) (sd_one (sd_ret (sw (pd_nm (nm cf 2 (by decide +kernel))))))))
theorem cal__law_rows {P : Program} {w : World} {K : PySem.W.Frag} {mg : Str → Option Value} {base : Heap} {f : Addr} {fd : FuncData} (F : FunD K "_law_rows" "_law_rows" (defArgs s__law_rows) (defBody s__law_rows) (defScope s__law_rows) [] [] f fd) (g : mg "_law_rows" = some (.ref f)) (fx : Fx K mg P) : Cal P w K mg base "_law_rows" 1 2 sp__law_rows :=
  cal_of F g sc__law_rows (F.bindsN fun _ _ _ _ _ _ us hl => match us, hl with | [_, _], _ => rfl) (by decide) (fun X B h1 h2 h3 h4 h5 hfn cf => by subst h1 h2 h3 h4 h5; exact der__law_rows hfn fx cf) (fun args P er h => h)
abbrev N__law_turns : List Str := ["n", "found", "k", "longer", "turn", "one"]
def fb__law_turns : WS := (dSeq (dSet 1 (dLst (dCons (dTup dNil) dNil)))
  (dSeq (dFor (dRng1 (dNm 0)) (tg1 2) (dSeq (dSet 3 (dLst dNil))
  (dSeq (dFor (dItems (dNm 1)) (tg1 4) (dSet 3 (dBin oAdd (dNm 3) (dLc (dRng1 (dNm 0)) (tg1 5) (asB (dBin (oInB true) (dNm 5) (dNm 4))) (dBin oAdd (dNm 4) (dTup (dCons (dNm 5) dNil))) [5]))))
  (dSet 1 (dNm 3)))))
  (dRet (dNm 1))))
def sp__law_turns : MT.Spec := bodyW 6 fb__law_turns
theorem sc__law_turns : FnScope N__law_turns ["n"] (defScope s__law_turns) := ⟨by rfl, by rfl, by rfl, by decide +kernel, by rfl, by decide +kernel, by decide +kernel⟩
theorem der__law_turns {X : Cx} {B : Bd} (hfn : ∀ y, X.fn y = true) (fx : Fx X.K X.mg X.prog) (cf : Cf X B N__law_turns (defScope s__law_turns) 0) :
    SDs X B (defBody s__law_turns) (fb__law_turns) :=
  (sd_cons (sd_set cf.nd (st_of cf 1 (by decide +kernel)).1 (st_of cf 1 (by decide +kernel)).2 (pd_lst (pl_cons (pd_tup pl_nil) pl_nil)) (.inl (hfn _))) (sd_cons (sd_for cf.ps cf.calm (pit_r1 (gl cf (by decide +kernel)) fx.f_range (so (pd_nm (nm cf 0 (by decide +kernel))))) (pt1_nm (pg_name (i := 2) cf.nd (st_of cf 2 (by decide +kernel)).1 (st_of cf 2 (by decide +kernel)).2 (.inl (hfn _)))) (sd_cons (sd_set cf.nd (st_of cf 3 (by decide +kernel)).1 (st_of cf 3 (by decide +kernel)).2 (pd_lst pl_nil) (.inl (hfn _))) (sd_cons (sd_for cf.ps cf.calm (pit_seq (.inl rfl) (pd_nm (nm cf 1 (by decide +kernel)))) (pt1_nm (pg_name (i := 4) cf.nd (st_of cf 4 (by decide +kernel)).1 (st_of cf 4 (by decide +kernel)).2 (.inl (hfn _)))) (sd_one (sd_set cf.nd (st_of cf 3 (by decide +kernel)).1 (st_of cf 3 (by decide +kernel)).2 (pd_add (so (pd_nm (nm cf 3 (by decide +kernel)))) (so (pd_lc (.inl rfl) cf.calm cf.nd (pit_r1 (gl cf (by decide +kernel)) fx.f_range (so (pd_nm (nm cf 0 (by decide +kernel))))) (blk_of cf (by decide +kernel)) (fun s1 H1 C1 l1 p1 => (pt1_nm (pg_name (i := 5) (Cf.blk cf _ s1 H1 C1 l1 p1).nd (st_of (Cf.blk cf _ s1 H1 C1 l1 p1) 5 (by decide +kernel)).1 (st_of (Cf.blk cf _ s1 H1 C1 l1 p1) 5 (by decide +kernel)).2 (by first | exact .inr (loc_of (Cf.blk cf _ s1 H1 C1 l1 p1) (by decide +kernel)) | exact .inl (fnc_of (by decide +kernel)))))) (by decide) (fun s1 H1 C1 l1 p1 => (pts_1 (pb_cmp ((op_notInD (Cf.blk cf _ s1 H1 C1 l1 p1).uD).or op_notIn_seq) od_notIn (by rfl) (so (pd_nm (nm (Cf.blk cf _ s1 H1 C1 l1 p1) 5 (by decide +kernel)))) (so (pd_nm (nm (Cf.blk cf _ s1 H1 C1 l1 p1) 4 (by decide +kernel))))))) (fun s1 H1 C1 l1 p1 => (pd_add (so (pd_nm (nm (Cf.blk cf _ s1 H1 C1 l1 p1) 4 (by decide +kernel)))) (so (pd_tup (pl_cons (pd_nm (nm (Cf.blk cf _ s1 H1 C1 l1 p1) 5 (by decide +kernel))) pl_nil))))) (own := [("one", 5)])))) (.inl (hfn _))))) (sd_one (sd_set cf.nd (st_of cf 1 (by decide +kernel)).1 (st_of cf 1 (by decide +kernel)).2 (pd_nm (nm cf 3 (by decide +kernel))) (.inl (hfn _))))))) (sd_one (sd_ret (sw (pd_nm (nm cf 1 (by decide +kernel))))))))
theorem cal__law_turns {P : Program} {w : World} {K : PySem.W.Frag} {mg : Str → Option Value} {base : Heap} {f : Addr} {fd : FuncData} (F : FunD K "_law_turns" "_law_turns" (defArgs s__law_turns) (defBody s__law_turns) (defScope s__law_turns) [] [] f fd) (g : mg "_law_turns" = some (.ref f)) (fx : Fx K mg P) : Cal P w K mg base "_law_turns" 1 1 sp__law_turns :=
  cal_of F g sc__law_turns (F.bindsN fun _ _ _ _ _ _ us hl => match us, hl with | [_], _ => rfl) (by decide) (fun X B h1 h2 h3 h4 h5 hfn cf => by subst h1 h2 h3 h4 h5; exact der__law_turns hfn fx cf) (fun args P er h => h)
abbrev N__law_renamed : List Str := ["rule", "p", "undo", "x", "y"]
def fb__law_renamed : WS := (dSeq (dSet 2 (dCall 1 sp__law_undone (dCons (dNm 1) dNil)))
  (dRet (dUn oTuple (dLc (dRng1 (dUn oLen (dNm 0))) (tg1 3) bYes (dUn oTuple (dLc (dRng1 (dUn oLen (dNm 0))) (tg1 4) bYes (dBin oIx (dNm 1) (dBin oIx (dBin oIx (dNm 0) (dBin oIx (dNm 2) (dNm 3))) (dBin oIx (dNm 2) (dNm 4)))) [4])) [3]))))
def sp__law_renamed : MT.Spec := bodyW 5 fb__law_renamed
theorem sc__law_renamed : FnScope N__law_renamed ["rule", "p"] (defScope s__law_renamed) := ⟨by rfl, by rfl, by rfl, by decide +kernel, by rfl, by decide +kernel, by decide +kernel⟩
theorem der__law_renamed {X : Cx} {B : Bd} (hfn : ∀ y, X.fn y = true) (fx : Fx X.K X.mg X.prog) (cf : Cf X B N__law_renamed (defScope s__law_renamed) 1) (c__law_undone : Cal X.prog X.w X.K X.mg X.base "_law_undone" 1 1 sp__law_undone) :
    SDs X B (defBody s__law_renamed) (fb__law_renamed) :=
  (sd_cons (sd_set cf.nd (st_of cf 2 (by decide +kernel)).1 (st_of cf 2 (by decide +kernel)).2 (pd_call cf (by rfl) c__law_undone (by decide) (gl cf (by decide +kernel)) (pl_cons (pd_nm (nm cf 1 (by decide +kernel))) pl_nil) (by decide +kernel)) (.inl (hfn _))) (sd_one (sd_ret (sw (pd_tuple (gl cf (by decide +kernel)) fx.f_tuple (so (pd_lc (.inl rfl) cf.calm cf.nd (pit_r1 (gl cf (by decide +kernel)) fx.f_range (so (pd_len (gl cf (by decide +kernel)) fx.f_len (so (pd_nm (nm cf 0 (by decide +kernel))))))) (blk_of cf (by decide +kernel)) (fun s1 H1 C1 l1 p1 => (pt1_nm (pg_name (i := 3) (Cf.blk cf _ s1 H1 C1 l1 p1).nd (st_of (Cf.blk cf _ s1 H1 C1 l1 p1) 3 (by decide +kernel)).1 (st_of (Cf.blk cf _ s1 H1 C1 l1 p1) 3 (by decide +kernel)).2 (by first | exact .inr (loc_of (Cf.blk cf _ s1 H1 C1 l1 p1) (by decide +kernel)) | exact .inl (fnc_of (by decide +kernel)))))) (by decide) (fun s1 H1 C1 l1 p1 => pts_no) (fun s1 H1 C1 l1 p1 => (pd_tuple (gl (Cf.blk cf _ s1 H1 C1 l1 p1) (by decide +kernel)) fx.f_tuple (so (pd_lc (.inl rfl) (Cf.blk cf _ s1 H1 C1 l1 p1).calm (Cf.blk cf _ s1 H1 C1 l1 p1).nd (pit_r1 (gl (Cf.blk cf _ s1 H1 C1 l1 p1) (by decide +kernel)) fx.f_range (so (pd_len (gl (Cf.blk cf _ s1 H1 C1 l1 p1) (by decide +kernel)) fx.f_len (so (pd_nm (nm (Cf.blk cf _ s1 H1 C1 l1 p1) 0 (by decide +kernel))))))) (blk_of (Cf.blk cf _ s1 H1 C1 l1 p1) (by decide +kernel)) (fun s2 H2 C2 l2 p2 => (pt1_nm (pg_name (i := 4) (Cf.blk (Cf.blk cf _ s1 H1 C1 l1 p1) _ s2 H2 C2 l2 p2).nd (st_of (Cf.blk (Cf.blk cf _ s1 H1 C1 l1 p1) _ s2 H2 C2 l2 p2) 4 (by decide +kernel)).1 (st_of (Cf.blk (Cf.blk cf _ s1 H1 C1 l1 p1) _ s2 H2 C2 l2 p2) 4 (by decide +kernel)).2 (by first | exact .inr (loc_of (Cf.blk (Cf.blk cf _ s1 H1 C1 l1 p1) _ s2 H2 C2 l2 p2) (by decide +kernel)) | exact .inl (fnc_of (by decide +kernel)))))) (by decide) (fun s2 H2 C2 l2 p2 => pts_no) (fun s2 H2 C2 l2 p2 => (pd_ix (so (pd_nm (nm (Cf.blk (Cf.blk cf _ s1 H1 C1 l1 p1) _ s2 H2 C2 l2 p2) 1 (by decide +kernel)))) (so (pd_ix (so (pd_ix (so (pd_nm (nm (Cf.blk (Cf.blk cf _ s1 H1 C1 l1 p1) _ s2 H2 C2 l2 p2) 0 (by decide +kernel)))) (so (pd_ix (so (pd_nm (nm (Cf.blk (Cf.blk cf _ s1 H1 C1 l1 p1) _ s2 H2 C2 l2 p2) 2 (by decide +kernel)))) (so (pd_nm (nm (Cf.blk (Cf.blk cf _ s1 H1 C1 l1 p1) _ s2 H2 C2 l2 p2) 3 (by decide +kernel)))))))) (so (pd_ix (so (pd_nm (nm (Cf.blk (Cf.blk cf _ s1 H1 C1 l1 p1) _ s2 H2 C2 l2 p2) 2 (by decide +kernel)))) (so (pd_nm (nm (Cf.blk (Cf.blk cf _ s1 H1 C1 l1 p1) _ s2 H2 C2 l2 p2) 4 (by decide +kernel)))))))))) (own := [("y", 4)]))))) (own := [("x", 3)]))))))))
theorem cal__law_renamed {P : Program} {w : World} {K : PySem.W.Frag} {mg : Str → Option Value} {base : Heap} {f : Addr} {fd : FuncData} (F : FunD K "_law_renamed" "_law_renamed" (defArgs s__law_renamed) (defBody s__law_renamed) (defScope s__law_renamed) [] [] f fd) (g : mg "_law_renamed" = some (.ref f)) (fx : Fx K mg P) (c__law_undone : Cal P w K mg base "_law_undone" 1 1 sp__law_undone) : Cal P w K mg base "_law_renamed" 2 2 sp__law_renamed :=
  cal_of F g sc__law_renamed (F.bindsN fun _ _ _ _ _ _ us hl => match us, hl with | [_, _], _ => rfl) (by decide) (fun X B h1 h2 h3 h4 h5 hfn cf => by subst h1 h2 h3 h4 h5; exact der__law_renamed hfn fx cf c__law_undone) (fun args P er h => h)
abbrev N__law_namings : List Str := ["rule", "p"]
def fb__law_namings : WS := (dRet (dLc (dItems (dCall 1 sp__law_turns (dCons (dUn oLen (dNm 0)) dNil))) (tg1 1) (asB (dBin oEq (dCall 2 sp__law_renamed (dCons (dNm 0) (dCons (dNm 1) dNil))) (dNm 0))) (dNm 1) [1]))
def sp__law_namings : MT.Spec := bodyW 2 fb__law_namings
theorem sc__law_namings : FnScope N__law_namings ["rule"] (defScope s__law_namings) := ⟨by rfl, by rfl, by rfl, by decide +kernel, by rfl, by decide +kernel, by decide +kernel⟩
theorem der__law_namings {X : Cx} {B : Bd} (hfn : ∀ y, X.fn y = true) (fx : Fx X.K X.mg X.prog) (cf : Cf X B N__law_namings (defScope s__law_namings) 2) (c__law_turns : Cal X.prog X.w X.K X.mg X.base "_law_turns" 1 1 sp__law_turns) (c__law_renamed : Cal X.prog X.w X.K X.mg X.base "_law_renamed" 2 2 sp__law_renamed) :
    SDs X B (defBody s__law_namings) (fb__law_namings) :=
  (sd_one (sd_ret (sw (pd_lc (.inl rfl) cf.calm cf.nd (pit_seq (.inl rfl) (pd_call cf (by rfl) c__law_turns (by decide) (gl cf (by decide +kernel)) (pl_cons (pd_len (gl cf (by decide +kernel)) fx.f_len (so (pd_nm (nm cf 0 (by decide +kernel))))) pl_nil) (by decide +kernel))) (blk_of cf (by decide +kernel)) (fun s1 H1 C1 l1 p1 => (pt1_nm (pg_name (i := 1) (Cf.blk cf _ s1 H1 C1 l1 p1).nd (st_of (Cf.blk cf _ s1 H1 C1 l1 p1) 1 (by decide +kernel)).1 (st_of (Cf.blk cf _ s1 H1 C1 l1 p1) 1 (by decide +kernel)).2 (by first | exact .inr (loc_of (Cf.blk cf _ s1 H1 C1 l1 p1) (by decide +kernel)) | exact .inl (fnc_of (by decide +kernel)))))) (by decide) (fun s1 H1 C1 l1 p1 => (pts_1 (pb_cmp (op_eqD (Cf.blk cf _ s1 H1 C1 l1 p1).u4) od_eq (nomark _) (so (pd_call (Cf.blk cf _ s1 H1 C1 l1 p1) (by rfl) c__law_renamed (by decide) (gl (Cf.blk cf _ s1 H1 C1 l1 p1) (by decide +kernel)) (pl_cons (pd_nm (nm (Cf.blk cf _ s1 H1 C1 l1 p1) 0 (by decide +kernel))) (pl_cons (pd_nm (nm (Cf.blk cf _ s1 H1 C1 l1 p1) 1 (by decide +kernel))) pl_nil)) (by decide +kernel))) (so (pd_nm (nm (Cf.blk cf _ s1 H1 C1 l1 p1) 0 (by decide +kernel))))))) (fun s1 H1 C1 l1 p1 => (pd_nm (nm (Cf.blk cf _ s1 H1 C1 l1 p1) 1 (by decide +kernel)))) (own := [("p", 1)])))))
theorem cal__law_namings {P : Program} {w : World} {K : PySem.W.Frag} {mg : Str → Option Value} {base : Heap} {f : Addr} {fd : FuncData} (F : FunD K "_law_namings" "_law_namings" (defArgs s__law_namings) (defBody s__law_namings) (defScope s__law_namings) [] [] f fd) (g : mg "_law_namings" = some (.ref f)) (fx : Fx K mg P) (c__law_turns : Cal P w K mg base "_law_turns" 1 1 sp__law_turns) (c__law_renamed : Cal P w K mg base "_law_renamed" 2 2 sp__law_renamed) : Cal P w K mg base "_law_namings" 3 1 sp__law_namings :=
  cal_of F g sc__law_namings (F.bindsN fun _ _ _ _ _ _ us hl => match us, hl with | [_], _ => rfl) (by decide) (fun X B h1 h2 h3 h4 h5 hfn cf => by subst h1 h2 h3 h4 h5; exact der__law_namings hfn fx cf c__law_turns c__law_renamed) (fun args P er h => h)
abbrev N__law_beside : List Str := ["draw", "one", "other", "n", "m", "a", "b", "low", "x", "y", "k"]
def fb__law_beside : WS := (dSeq (dPars [3, 4] (vCons (slOf (dUn oLen (dNm 1))) (vCons (slOf (dUn oLen (dNm 2))) vNil)))
  (dSeq (dSet 5 (dIf (asB (dBin (oCmp fun i j => decide (i < j)) (dNm 3) (dC (.int 5)))) (dCallD 2 0 sp__law_pick (dCons (dCall 1 sp__law_namings (dCons (dNm 1) dNil)) dNil)) (dTupRg (dRg1 (dNm 3)))))
  (dSeq (dSet 6 (dIf (asB (dBin (oCmp fun i j => decide (i < j)) (dNm 4) (dC (.int 5)))) (dCallD 2 0 sp__law_pick (dCons (dCall 1 sp__law_namings (dCons (dNm 2) dNil)) dNil)) (dTupRg (dRg1 (dNm 4)))))
  (dSeq (dSet 7 (dLc (dRng1 (dNm 3)) (tg1 8) bYes (dBin oAdd (dUn oTuple (dBin oIx (dNm 1) (dNm 8))) (dUn oTuple (dLc (dRng1 (dNm 4)) (tg1 9) bYes (dBin oAdd (dNm 3) (dBin oIx (dNm 6) (dNm 9))) [9]))) [8]))
  (dRet (dUn oTuple (dBin oAdd (dNm 7) (dLc (dRng1 (dNm 4)) (tg1 9) bYes (dBin oAdd (dNm 5) (dUn oTuple (dLc (dItems (dBin oIx (dNm 2) (dNm 9))) (tg1 10) bYes (dBin oAdd (dNm 3) (dNm 10)) [10]))) [9]))))))))
def sp__law_beside : MT.Spec := bodyW 11 fb__law_beside
theorem sc__law_beside : FnScope N__law_beside ["draw", "one", "other"] (defScope s__law_beside) := ⟨by rfl, by rfl, by rfl, by decide +kernel, by rfl, by decide +kernel, by decide +kernel⟩
theorem der__law_beside {X : Cx} {B : Bd} (hfn : ∀ y, X.fn y = true) (fx : Fx X.K X.mg X.prog) (cf : Cf X B N__law_beside (defScope s__law_beside) 3) (c__law_pick : Cal X.prog X.w X.K X.mg X.base "_law_pick" 3 2 sp__law_pick) (c__law_namings : Cal X.prog X.w X.K X.mg X.base "_law_namings" 3 1 sp__law_namings) :
    SDs X B (defBody s__law_beside) (fb__law_beside) :=
  (sd_cons (sd_parT (is := [3, 4]) (by decide) (ps_asg (pe_tup (vl_d (pd_len (gl cf (by decide +kernel)) fx.f_len (so (pd_nm (nm cf 1 (by decide +kernel))))) (vl_d (pd_len (gl cf (by decide +kernel)) fx.f_len (so (pd_nm (nm cf 2 (by decide +kernel))))) vl_nil))) (pg_tup cf.calm (pgs_cons (pg_name (i := 3) cf.nd (st_of cf 3 (by decide +kernel)).1 (st_of cf 3 (by decide +kernel)).2 (.inl (hfn _))) (pgs_cons (pg_name (i := 4) cf.nd (st_of cf 4 (by decide +kernel)).1 (st_of cf 4 (by decide +kernel)).2 (.inl (hfn _))) pgs_nil))) (by rfl) (swp_of cf (by intro en hS; cases en; cases hS; rfl)))) (sd_cons (sd_set cf.nd (st_of cf 5 (by decide +kernel)).1 (st_of cf 5 (by decide +kernel)).2 (pd_if (pb_cmp op_lt (od_i0 fun _ _ => rfl) (nomark _) (so (pd_nm (nm cf 3 (by decide +kernel)))) (so pd_int)) (pd_callD cf c__law_pick (by decide) (gl cf (by decide +kernel)) (nm cf 0 (by decide +kernel)) (pl_cons (pd_call cf (by rfl) c__law_namings (by decide) (gl cf (by decide +kernel)) (pl_cons (pd_nm (nm cf 1 (by decide +kernel))) pl_nil) (by decide +kernel)) pl_nil) (by decide +kernel)) (pd_tupRg cf.calm (gl cf (by decide +kernel)) fx.f_tuple (pg_r1 (gl cf (by decide +kernel)) fx.f_range (so (pd_nm (nm cf 3 (by decide +kernel))))))) (.inl (hfn _))) (sd_cons (sd_set cf.nd (st_of cf 6 (by decide +kernel)).1 (st_of cf 6 (by decide +kernel)).2 (pd_if (pb_cmp op_lt (od_i0 fun _ _ => rfl) (nomark _) (so (pd_nm (nm cf 4 (by decide +kernel)))) (so pd_int)) (pd_callD cf c__law_pick (by decide) (gl cf (by decide +kernel)) (nm cf 0 (by decide +kernel)) (pl_cons (pd_call cf (by rfl) c__law_namings (by decide) (gl cf (by decide +kernel)) (pl_cons (pd_nm (nm cf 2 (by decide +kernel))) pl_nil) (by decide +kernel)) pl_nil) (by decide +kernel)) (pd_tupRg cf.calm (gl cf (by decide +kernel)) fx.f_tuple (pg_r1 (gl cf (by decide +kernel)) fx.f_range (so (pd_nm (nm cf 4 (by decide +kernel))))))) (.inl (hfn _))) (sd_cons (sd_setLc (i := 7) (st_of cf 7 (by decide +kernel)).1 (loc_of cf (by decide +kernel)) (swi_of cf (by intro en hS; cases en; cases hS; rfl)) (.inl rfl) cf.calm cf.nd (pit_r1 (gl cf (by decide +kernel)) fx.f_range (so (pd_nm (nm cf 3 (by decide +kernel))))) (blk_of cf (by decide +kernel)) (fun s1 H1 C1 l1 p1 => (pt1_nm (pg_name (i := 8) (Cf.blk cf _ s1 H1 C1 l1 p1).nd (st_of (Cf.blk cf _ s1 H1 C1 l1 p1) 8 (by decide +kernel)).1 (st_of (Cf.blk cf _ s1 H1 C1 l1 p1) 8 (by decide +kernel)).2 (by first | exact .inr (loc_of (Cf.blk cf _ s1 H1 C1 l1 p1) (by decide +kernel)) | exact .inl (fnc_of (by decide +kernel)))))) (by decide) (fun s1 H1 C1 l1 p1 => pts_no) (fun s1 H1 C1 l1 p1 => (pd_add (so (pd_tuple (gl (Cf.blk cf _ s1 H1 C1 l1 p1) (by decide +kernel)) fx.f_tuple (so (pd_ix (so (pd_nm (nm (Cf.blk cf _ s1 H1 C1 l1 p1) 1 (by decide +kernel)))) (so (pd_nm (nm (Cf.blk cf _ s1 H1 C1 l1 p1) 8 (by decide +kernel)))))))) (so (pd_tuple (gl (Cf.blk cf _ s1 H1 C1 l1 p1) (by decide +kernel)) fx.f_tuple (so (pd_lc (.inl rfl) (Cf.blk cf _ s1 H1 C1 l1 p1).calm (Cf.blk cf _ s1 H1 C1 l1 p1).nd (pit_r1 (gl (Cf.blk cf _ s1 H1 C1 l1 p1) (by decide +kernel)) fx.f_range (so (pd_nm (nm (Cf.blk cf _ s1 H1 C1 l1 p1) 4 (by decide +kernel))))) (blk_of (Cf.blk cf _ s1 H1 C1 l1 p1) (by decide +kernel)) (fun s2 H2 C2 l2 p2 => (pt1_nm (pg_name (i := 9) (Cf.blk (Cf.blk cf _ s1 H1 C1 l1 p1) _ s2 H2 C2 l2 p2).nd (st_of (Cf.blk (Cf.blk cf _ s1 H1 C1 l1 p1) _ s2 H2 C2 l2 p2) 9 (by decide +kernel)).1 (st_of (Cf.blk (Cf.blk cf _ s1 H1 C1 l1 p1) _ s2 H2 C2 l2 p2) 9 (by decide +kernel)).2 (by first | exact .inr (loc_of (Cf.blk (Cf.blk cf _ s1 H1 C1 l1 p1) _ s2 H2 C2 l2 p2) (by decide +kernel)) | exact .inl (fnc_of (by decide +kernel)))))) (by decide) (fun s2 H2 C2 l2 p2 => pts_no) (fun s2 H2 C2 l2 p2 => (pd_add (so (pd_nm (nm (Cf.blk (Cf.blk cf _ s1 H1 C1 l1 p1) _ s2 H2 C2 l2 p2) 3 (by decide +kernel)))) (so (pd_ix (so (pd_nm (nm (Cf.blk (Cf.blk cf _ s1 H1 C1 l1 p1) _ s2 H2 C2 l2 p2) 6 (by decide +kernel)))) (so (pd_nm (nm (Cf.blk (Cf.blk cf _ s1 H1 C1 l1 p1) _ s2 H2 C2 l2 p2) 9 (by decide +kernel)))))))) (own := [("y", 9)]))))))) (own := [("x", 8)])) (sd_one (sd_ret (sw (pd_tuple (gl cf (by decide +kernel)) fx.f_tuple (so (pd_add (so (pd_nm (nm cf 7 (by decide +kernel)))) (so (pd_lc (.inl rfl) cf.calm cf.nd (pit_r1 (gl cf (by decide +kernel)) fx.f_range (so (pd_nm (nm cf 4 (by decide +kernel))))) (blk_of cf (by decide +kernel)) (fun s1 H1 C1 l1 p1 => (pt1_nm (pg_name (i := 9) (Cf.blk cf _ s1 H1 C1 l1 p1).nd (st_of (Cf.blk cf _ s1 H1 C1 l1 p1) 9 (by decide +kernel)).1 (st_of (Cf.blk cf _ s1 H1 C1 l1 p1) 9 (by decide +kernel)).2 (by first | exact .inr (loc_of (Cf.blk cf _ s1 H1 C1 l1 p1) (by decide +kernel)) | exact .inl (fnc_of (by decide +kernel)))))) (by decide) (fun s1 H1 C1 l1 p1 => pts_no) (fun s1 H1 C1 l1 p1 => (pd_add (so (pd_nm (nm (Cf.blk cf _ s1 H1 C1 l1 p1) 5 (by decide +kernel)))) (so (pd_tuple (gl (Cf.blk cf _ s1 H1 C1 l1 p1) (by decide +kernel)) fx.f_tuple (so (pd_lc (.inl rfl) (Cf.blk cf _ s1 H1 C1 l1 p1).calm (Cf.blk cf _ s1 H1 C1 l1 p1).nd (pit_seq (.inl rfl) (pd_ix (so (pd_nm (nm (Cf.blk cf _ s1 H1 C1 l1 p1) 2 (by decide +kernel)))) (so (pd_nm (nm (Cf.blk cf _ s1 H1 C1 l1 p1) 9 (by decide +kernel)))))) (blk_of (Cf.blk cf _ s1 H1 C1 l1 p1) (by decide +kernel)) (fun s2 H2 C2 l2 p2 => (pt1_nm (pg_name (i := 10) (Cf.blk (Cf.blk cf _ s1 H1 C1 l1 p1) _ s2 H2 C2 l2 p2).nd (st_of (Cf.blk (Cf.blk cf _ s1 H1 C1 l1 p1) _ s2 H2 C2 l2 p2) 10 (by decide +kernel)).1 (st_of (Cf.blk (Cf.blk cf _ s1 H1 C1 l1 p1) _ s2 H2 C2 l2 p2) 10 (by decide +kernel)).2 (by first | exact .inr (loc_of (Cf.blk (Cf.blk cf _ s1 H1 C1 l1 p1) _ s2 H2 C2 l2 p2) (by decide +kernel)) | exact .inl (fnc_of (by decide +kernel)))))) (by decide) (fun s2 H2 C2 l2 p2 => pts_no) (fun s2 H2 C2 l2 p2 => (pd_add (so (pd_nm (nm (Cf.blk (Cf.blk cf _ s1 H1 C1 l1 p1) _ s2 H2 C2 l2 p2) 3 (by decide +kernel)))) (so (pd_nm (nm (Cf.blk (Cf.blk cf _ s1 H1 C1 l1 p1) _ s2 H2 C2 l2 p2) 10 (by decide +kernel)))))) (own := [("k", 10)]))))))) (own := [("y", 9)])))))))))))))
theorem cal__law_beside {P : Program} {w : World} {K : PySem.W.Frag} {mg : Str → Option Value} {base : Heap} {f : Addr} {fd : FuncData} (F : FunD K "_law_beside" "_law_beside" (defArgs s__law_beside) (defBody s__law_beside) (defScope s__law_beside) [] [] f fd) (g : mg "_law_beside" = some (.ref f)) (fx : Fx K mg P) (c__law_pick : Cal P w K mg base "_law_pick" 3 2 sp__law_pick) (c__law_namings : Cal P w K mg base "_law_namings" 3 1 sp__law_namings) : Cal P w K mg base "_law_beside" 4 3 sp__law_beside :=
  cal_of F g sc__law_beside (F.bindsN fun _ _ _ _ _ _ us hl => match us, hl with | [_, _, _], _ => rfl) (by decide) (fun X B h1 h2 h3 h4 h5 hfn cf => by subst h1 h2 h3 h4 h5; exact der__law_beside hfn fx cf c__law_pick c__law_namings) (fun args P er h => h)
abbrev N__law_small : List Str := ["draw", "most", "some", "rule"]
def fb__law_small : WS := (dSeq (dSet 2 (dLst (dCons (dTup (dCons (dTup (dCons (dC (.int 0)) dNil)) dNil)) (dCons (dTup (dCons (dTup (dCons (dC (.int 0)) (dCons (dC (.int 1)) dNil))) (dCons (dTup (dCons (dC (.int 0)) (dCons (dC (.int 1)) dNil))) dNil))) (dCons (dTup (dCons (dTup (dCons (dC (.int 1)) (dCons (dC (.int 0)) dNil))) (dCons (dTup (dCons (dC (.int 1)) (dCons (dC (.int 0)) dNil))) dNil))) (dCons (dBin oMul (dTup (dCons (dTup (dCons (dC (.int 1)) (dCons (dC (.int 2)) (dCons (dC (.int 0)) dNil)))) dNil)) (dC (.int 3))) (dCons (dTup (dCons (dTup (dCons (dC (.int 0)) (dCons (dC (.int 2)) (dCons (dC (.int 1)) dNil)))) (dCons (dTup (dCons (dC (.int 0)) (dCons (dC (.int 1)) (dCons (dC (.int 2)) dNil)))) (dCons (dTup (dCons (dC (.int 0)) (dCons (dC (.int 1)) (dCons (dC (.int 2)) dNil)))) dNil)))) (dCons (dBin oMul (dTup (dCons (dTup (dCons (dC (.int 0)) (dCons (dC (.int 2)) (dCons (dC (.int 1)) dNil)))) dNil)) (dC (.int 3))) (dCons (dTup (dCons (dTup (dCons (dC (.int 0)) (dCons (dC (.int 1)) (dCons (dC (.int 2)) dNil)))) (dCons (dTup (dCons (dC (.int 0)) (dCons (dC (.int 1)) (dCons (dC (.int 2)) dNil)))) (dCons (dTup (dCons (dC (.int 1)) (dCons (dC (.int 0)) (dCons (dC (.int 2)) dNil)))) dNil)))) (dCons (dTup (dCons (dTup (dCons (dC (.int 1)) (dCons (dC (.int 0)) (dCons (dC (.int 3)) (dCons (dC (.int 2)) dNil))))) (dCons (dTup (dCons (dC (.int 3)) (dCons (dC (.int 2)) (dCons (dC (.int 1)) (dCons (dC (.int 0)) dNil))))) (dCons (dTup (dCons (dC (.int 1)) (dCons (dC (.int 0)) (dCons (dC (.int 3)) (dCons (dC (.int 2)) dNil))))) (dCons (dTup (dCons (dC (.int 3)) (dCons (dC (.int 2)) (dCons (dC (.int 1)) (dCons (dC (.int 0)) dNil))))) dNil))))) (dCons (dTup (dCons (dTup (dCons (dC (.int 1)) (dCons (dC (.int 0)) (dCons (dC (.int 2)) (dCons (dC (.int 3)) dNil))))) (dCons (dTup (dCons (dC (.int 2)) (dCons (dC (.int 3)) (dCons (dC (.int 1)) (dCons (dC (.int 0)) dNil))))) (dCons (dTup (dCons (dC (.int 0)) (dCons (dC (.int 1)) (dCons (dC (.int 3)) (dCons (dC (.int 2)) dNil))))) (dCons (dTup (dCons (dC (.int 3)) (dCons (dC (.int 2)) (dCons (dC (.int 0)) (dCons (dC (.int 1)) dNil))))) dNil))))) (dCons (dBin oMul (dTup (dCons (dTup (dCons (dC (.int 1)) (dCons (dC (.int 2)) (dCons (dC (.int 3)) (dCons (dC (.int 0)) dNil))))) dNil)) (dC (.int 4))) dNil))))))))))))
  (dRet (dCallD 2 0 sp__law_pick (dCons (dLc (dItems (dNm 2)) (tg1 3) (asB (dBin (oCmp fun i j => decide (i ≤ j)) (dUn oLen (dNm 3)) (dNm 1))) (dNm 3) [3]) dNil))))
def sp__law_small : MT.Spec := bodyW 4 fb__law_small
theorem sc__law_small : FnScope N__law_small ["draw", "most"] (defScope s__law_small) := ⟨by rfl, by rfl, by rfl, by decide +kernel, by rfl, by decide +kernel, by decide +kernel⟩
theorem der__law_small {X : Cx} {B : Bd} (hfn : ∀ y, X.fn y = true) (fx : Fx X.K X.mg X.prog) (cf : Cf X B N__law_small (defScope s__law_small) 3) (c__law_pick : Cal X.prog X.w X.K X.mg X.base "_law_pick" 3 2 sp__law_pick) :
    SDs X B (defBody s__law_small) (fb__law_small) :=
  (sd_cons (sd_set cf.nd (st_of cf 2 (by decide +kernel)).1 (st_of cf 2 (by decide +kernel)).2 (pd_lst (pl_cons (pd_tup (pl_cons (pd_tup (pl_cons pd_int pl_nil)) pl_nil)) (pl_cons (pd_tup (pl_cons (pd_tup (pl_cons pd_int (pl_cons pd_int pl_nil))) (pl_cons (pd_tup (pl_cons pd_int (pl_cons pd_int pl_nil))) pl_nil))) (pl_cons (pd_tup (pl_cons (pd_tup (pl_cons pd_int (pl_cons pd_int pl_nil))) (pl_cons (pd_tup (pl_cons pd_int (pl_cons pd_int pl_nil))) pl_nil))) (pl_cons (pd_mul (so (pd_tup (pl_cons (pd_tup (pl_cons pd_int (pl_cons pd_int (pl_cons pd_int pl_nil)))) pl_nil))) (so pd_int)) (pl_cons (pd_tup (pl_cons (pd_tup (pl_cons pd_int (pl_cons pd_int (pl_cons pd_int pl_nil)))) (pl_cons (pd_tup (pl_cons pd_int (pl_cons pd_int (pl_cons pd_int pl_nil)))) (pl_cons (pd_tup (pl_cons pd_int (pl_cons pd_int (pl_cons pd_int pl_nil)))) pl_nil)))) (pl_cons (pd_mul (so (pd_tup (pl_cons (pd_tup (pl_cons pd_int (pl_cons pd_int (pl_cons pd_int pl_nil)))) pl_nil))) (so pd_int)) (pl_cons (pd_tup (pl_cons (pd_tup (pl_cons pd_int (pl_cons pd_int (pl_cons pd_int pl_nil)))) (pl_cons (pd_tup (pl_cons pd_int (pl_cons pd_int (pl_cons pd_int pl_nil)))) (pl_cons (pd_tup (pl_cons pd_int (pl_cons pd_int (pl_cons pd_int pl_nil)))) pl_nil)))) (pl_cons (pd_tup (pl_cons (pd_tup (pl_cons pd_int (pl_cons pd_int (pl_cons pd_int (pl_cons pd_int pl_nil))))) (pl_cons (pd_tup (pl_cons pd_int (pl_cons pd_int (pl_cons pd_int (pl_cons pd_int pl_nil))))) (pl_cons (pd_tup (pl_cons pd_int (pl_cons pd_int (pl_cons pd_int (pl_cons pd_int pl_nil))))) (pl_cons (pd_tup (pl_cons pd_int (pl_cons pd_int (pl_cons pd_int (pl_cons pd_int pl_nil))))) pl_nil))))) (pl_cons (pd_tup (pl_cons (pd_tup (pl_cons pd_int (pl_cons pd_int (pl_cons pd_int (pl_cons pd_int pl_nil))))) (pl_cons (pd_tup (pl_cons pd_int (pl_cons pd_int (pl_cons pd_int (pl_cons pd_int pl_nil))))) (pl_cons (pd_tup (pl_cons pd_int (pl_cons pd_int (pl_cons pd_int (pl_cons pd_int pl_nil))))) (pl_cons (pd_tup (pl_cons pd_int (pl_cons pd_int (pl_cons pd_int (pl_cons pd_int pl_nil))))) pl_nil))))) (pl_cons (pd_mul (so (pd_tup (pl_cons (pd_tup (pl_cons pd_int (pl_cons pd_int (pl_cons pd_int (pl_cons pd_int pl_nil))))) pl_nil))) (so pd_int)) pl_nil))))))))))) (.inl (hfn _))) (sd_one (sd_ret (sw (pd_callD cf c__law_pick (by decide) (gl cf (by decide +kernel)) (nm cf 0 (by decide +kernel)) (pl_cons (pd_lc (.inl rfl) cf.calm cf.nd (pit_seq (.inl rfl) (pd_nm (nm cf 2 (by decide +kernel)))) (blk_of cf (by decide +kernel)) (fun s1 H1 C1 l1 p1 => (pt1_nm (pg_name (i := 3) (Cf.blk cf _ s1 H1 C1 l1 p1).nd (st_of (Cf.blk cf _ s1 H1 C1 l1 p1) 3 (by decide +kernel)).1 (st_of (Cf.blk cf _ s1 H1 C1 l1 p1) 3 (by decide +kernel)).2 (by first | exact .inr (loc_of (Cf.blk cf _ s1 H1 C1 l1 p1) (by decide +kernel)) | exact .inl (fnc_of (by decide +kernel)))))) (by decide) (fun s1 H1 C1 l1 p1 => (pts_1 (pb_cmp op_le (od_i0 fun _ _ => rfl) (nomark _) (so (pd_len (gl (Cf.blk cf _ s1 H1 C1 l1 p1) (by decide +kernel)) fx.f_len (so (pd_nm (nm (Cf.blk cf _ s1 H1 C1 l1 p1) 3 (by decide +kernel)))))) (so (pd_nm (nm (Cf.blk cf _ s1 H1 C1 l1 p1) 1 (by decide +kernel))))))) (fun s1 H1 C1 l1 p1 => (pd_nm (nm (Cf.blk cf _ s1 H1 C1 l1 p1) 3 (by decide +kernel)))) (own := [("rule", 3)])) pl_nil) (by decide +kernel))))))
theorem cal__law_small {P : Program} {w : World} {K : PySem.W.Frag} {mg : Str → Option Value} {base : Heap} {f : Addr} {fd : FuncData} (F : FunD K "_law_small" "_law_small" (defArgs s__law_small) (defBody s__law_small) (defScope s__law_small) [] [] f fd) (g : mg "_law_small" = some (.ref f)) (fx : Fx K mg P) (c__law_pick : Cal P w K mg base "_law_pick" 3 2 sp__law_pick) : Cal P w K mg base "_law_small" 4 2 sp__law_small :=
  cal_of F g sc__law_small (F.bindsN fun _ _ _ _ _ _ us hl => match us, hl with | [_, _], _ => rfl) (by decide) (fun X B h1 h2 h3 h4 h5 hfn cf => by subst h1 h2 h3 h4 h5; exact der__law_small hfn fx cf c__law_pick) (fun args P er h => h)
abbrev N__law_rule : List Str := ["draw", "most", "rule"]
def fb__law_rule : WS := (dSeq (dSet 2 (dCallD 2 0 sp__law_small (dCons (dNm 1) dNil)))
  (dSeq (dIfS (bAnd (asB (dBin (oCmp fun i j => decide (i < j)) (dUn oLen (dNm 2)) (dNm 1))) (asB (dBin oEq (dCallD 2 0 sp__law_take (dCons (dC (.int 2)) dNil)) (dC (.int 0))))) (dSet 2 (dCallD 3 0 sp__law_beside (dCons (dNm 2) (dCons (dCallD 2 0 sp__law_small (dCons (dBin oSub (dNm 1) (dUn oLen (dNm 2))) dNil)) dNil)))) dNext)
  (dRet (dCall 2 sp__law_renamed (dCons (dNm 2) (dCons (dUn oTuple (dCallD 2 0 sp__law_shuffled (dCons (dLstRg (dRg1 (dUn oLen (dNm 2)))) dNil))) dNil))))))
def sp__law_rule : MT.Spec := bodyW 3 fb__law_rule
theorem sc__law_rule : FnScope N__law_rule ["draw", "most"] (defScope s__law_rule) := ⟨by rfl, by rfl, by rfl, by decide +kernel, by rfl, by decide +kernel, by decide +kernel⟩
theorem der__law_rule {X : Cx} {B : Bd} (hfn : ∀ y, X.fn y = true) (fx : Fx X.K X.mg X.prog) (cf : Cf X B N__law_rule (defScope s__law_rule) 4) (c__law_small : Cal X.prog X.w X.K X.mg X.base "_law_small" 4 2 sp__law_small) (c__law_take : Cal X.prog X.w X.K X.mg X.base "_law_take" 2 2 sp__law_take) (c__law_beside : Cal X.prog X.w X.K X.mg X.base "_law_beside" 4 3 sp__law_beside) (c__law_renamed : Cal X.prog X.w X.K X.mg X.base "_law_renamed" 2 2 sp__law_renamed) (c__law_shuffled : Cal X.prog X.w X.K X.mg X.base "_law_shuffled" 3 2 sp__law_shuffled) :
    SDs X B (defBody s__law_rule) (fb__law_rule) :=
  (sd_cons (sd_set cf.nd (st_of cf 2 (by decide +kernel)).1 (st_of cf 2 (by decide +kernel)).2 (pd_callD cf c__law_small (by decide) (gl cf (by decide +kernel)) (nm cf 0 (by decide +kernel)) (pl_cons (pd_nm (nm cf 1 (by decide +kernel))) pl_nil) (by decide +kernel)) (.inl (hfn _))) (sd_cons (sd_if (pb_w (pbw_and (pb_cmp op_lt (od_i0 fun _ _ => rfl) (nomark _) (so (pd_len (gl cf (by decide +kernel)) fx.f_len (so (pd_nm (nm cf 2 (by decide +kernel)))))) (so (pd_nm (nm cf 1 (by decide +kernel))))) (pbw_and1 (pb_cmp (op_eqD cf.u4) od_eq (nomark _) (so (pd_callD cf c__law_take (by decide) (gl cf (by decide +kernel)) (nm cf 0 (by decide +kernel)) (pl_cons pd_int pl_nil) (by decide +kernel))) (so pd_int))))) (sd_one (sd_set cf.nd (st_of cf 2 (by decide +kernel)).1 (st_of cf 2 (by decide +kernel)).2 (pd_callD cf c__law_beside (by decide) (gl cf (by decide +kernel)) (nm cf 0 (by decide +kernel)) (pl_cons (pd_nm (nm cf 2 (by decide +kernel))) (pl_cons (pd_callD cf c__law_small (by decide) (gl cf (by decide +kernel)) (nm cf 0 (by decide +kernel)) (pl_cons (pd_sub (so (pd_nm (nm cf 1 (by decide +kernel)))) (so (pd_len (gl cf (by decide +kernel)) fx.f_len (so (pd_nm (nm cf 2 (by decide +kernel))))))) pl_nil) (by decide +kernel)) pl_nil)) (by decide +kernel)) (.inl (hfn _)))) sd_nil) (sd_one (sd_ret (sw (pd_call cf (by rfl) c__law_renamed (by decide) (gl cf (by decide +kernel)) (pl_cons (pd_nm (nm cf 2 (by decide +kernel))) (pl_cons (pd_tuple (gl cf (by decide +kernel)) fx.f_tuple (so (pd_callD cf c__law_shuffled (by decide) (gl cf (by decide +kernel)) (nm cf 0 (by decide +kernel)) (pl_cons (pd_lstRg cf.calm (gl cf (by decide +kernel)) fx.f_list (pg_r1 (gl cf (by decide +kernel)) fx.f_range (so (pd_len (gl cf (by decide +kernel)) fx.f_len (so (pd_nm (nm cf 2 (by decide +kernel)))))))) pl_nil) (by decide +kernel)))) pl_nil)) (by decide +kernel)))))))
theorem cal__law_rule {P : Program} {w : World} {K : PySem.W.Frag} {mg : Str → Option Value} {base : Heap} {f : Addr} {fd : FuncData} (F : FunD K "_law_rule" "_law_rule" (defArgs s__law_rule) (defBody s__law_rule) (defScope s__law_rule) [] [] f fd) (g : mg "_law_rule" = some (.ref f)) (fx : Fx K mg P) (c__law_small : Cal P w K mg base "_law_small" 4 2 sp__law_small) (c__law_take : Cal P w K mg base "_law_take" 2 2 sp__law_take) (c__law_beside : Cal P w K mg base "_law_beside" 4 3 sp__law_beside) (c__law_renamed : Cal P w K mg base "_law_renamed" 2 2 sp__law_renamed) (c__law_shuffled : Cal P w K mg base "_law_shuffled" 3 2 sp__law_shuffled) : Cal P w K mg base "_law_rule" 5 2 sp__law_rule :=
  cal_of F g sc__law_rule (F.bindsN fun _ _ _ _ _ _ us hl => match us, hl with | [_, _], _ => rfl) (by decide) (fun X B h1 h2 h3 h4 h5 hfn cf => by subst h1 h2 h3 h4 h5; exact der__law_rule hfn fx cf c__law_small c__law_take c__law_beside c__law_renamed c__law_shuffled) (fun args P er h => h)
abbrev N__law_table : List Str := ["draw", "n", "x"]
def fb__law_table : WS := (dRet (dUn oTuple (dLc (dRng1 (dNm 1)) (tg1 2) bYes (dUn oTuple (dCallD 2 0 sp__law_shuffled (dCons (dLstRg (dRg1 (dNm 1))) dNil))) [2])))
def sp__law_table : MT.Spec := bodyW 3 fb__law_table
theorem sc__law_table : FnScope N__law_table ["draw", "n"] (defScope s__law_table) := ⟨by rfl, by rfl, by rfl, by decide +kernel, by rfl, by decide +kernel, by decide +kernel⟩
theorem der__law_table {X : Cx} {B : Bd} (hfn : ∀ y, X.fn y = true) (fx : Fx X.K X.mg X.prog) (cf : Cf X B N__law_table (defScope s__law_table) 3) (c__law_shuffled : Cal X.prog X.w X.K X.mg X.base "_law_shuffled" 3 2 sp__law_shuffled) :
    SDs X B (defBody s__law_table) (fb__law_table) :=
  (sd_one (sd_ret (sw (pd_tuple (gl cf (by decide +kernel)) fx.f_tuple (so (pd_lc (.inl rfl) cf.calm cf.nd (pit_r1 (gl cf (by decide +kernel)) fx.f_range (so (pd_nm (nm cf 1 (by decide +kernel))))) (blk_of cf (by decide +kernel)) (fun s1 H1 C1 l1 p1 => (pt1_nm (pg_name (i := 2) (Cf.blk cf _ s1 H1 C1 l1 p1).nd (st_of (Cf.blk cf _ s1 H1 C1 l1 p1) 2 (by decide +kernel)).1 (st_of (Cf.blk cf _ s1 H1 C1 l1 p1) 2 (by decide +kernel)).2 (by first | exact .inr (loc_of (Cf.blk cf _ s1 H1 C1 l1 p1) (by decide +kernel)) | exact .inl (fnc_of (by decide +kernel)))))) (by decide) (fun s1 H1 C1 l1 p1 => pts_no) (fun s1 H1 C1 l1 p1 => (pd_tuple (gl (Cf.blk cf _ s1 H1 C1 l1 p1) (by decide +kernel)) fx.f_tuple (so (pd_callD (Cf.blk cf _ s1 H1 C1 l1 p1) c__law_shuffled (by decide) (gl (Cf.blk cf _ s1 H1 C1 l1 p1) (by decide +kernel)) (nm (Cf.blk cf _ s1 H1 C1 l1 p1) 0 (by decide +kernel)) (pl_cons (pd_lstRg (Cf.blk cf _ s1 H1 C1 l1 p1).calm (gl (Cf.blk cf _ s1 H1 C1 l1 p1) (by decide +kernel)) fx.f_list (pg_r1 (gl (Cf.blk cf _ s1 H1 C1 l1 p1) (by decide +kernel)) fx.f_range (so (pd_nm (nm (Cf.blk cf _ s1 H1 C1 l1 p1) 1 (by decide +kernel)))))) pl_nil) (by decide +kernel))))) (own := [("x", 2)])))))))
theorem cal__law_table {P : Program} {w : World} {K : PySem.W.Frag} {mg : Str → Option Value} {base : Heap} {f : Addr} {fd : FuncData} (F : FunD K "_law_table" "_law_table" (defArgs s__law_table) (defBody s__law_table) (defScope s__law_table) [] [] f fd) (g : mg "_law_table" = some (.ref f)) (fx : Fx K mg P) (c__law_shuffled : Cal P w K mg base "_law_shuffled" 3 2 sp__law_shuffled) : Cal P w K mg base "_law_table" 4 2 sp__law_table :=
  cal_of F g sc__law_table (F.bindsN fun _ _ _ _ _ _ us hl => match us, hl with | [_, _], _ => rfl) (by decide) (fun X B h1 h2 h3 h4 h5 hfn cf => by subst h1 h2 h3 h4 h5; exact der__law_table hfn fx cf c__law_shuffled) (fun args P er h => h)
abbrev N__law_own : List Str := ["rule", "x"]
def fb__law_own : WS := (dRet (dUn oTuple (dLc (dRng1 (dUn oLen (dNm 0))) (tg1 1) bYes (dTM oTIdx (dBin oIx (dNm 0) (dNm 1)) (dNm 1)) [1])))
def sp__law_own : MT.Spec := bodyW 2 fb__law_own
theorem sc__law_own : FnScope N__law_own ["rule"] (defScope s__law_own) := ⟨by rfl, by rfl, by rfl, by decide +kernel, by rfl, by decide +kernel, by decide +kernel⟩
theorem der__law_own {X : Cx} {B : Bd} (hfn : ∀ y, X.fn y = true) (fx : Fx X.K X.mg X.prog) (cf : Cf X B N__law_own (defScope s__law_own) 0) :
    SDs X B (defBody s__law_own) (fb__law_own) :=
  (sd_one (sd_ret (sw (pd_tuple (gl cf (by decide +kernel)) fx.f_tuple (so (pd_lc (.inl rfl) cf.calm cf.nd (pit_r1 (gl cf (by decide +kernel)) fx.f_range (so (pd_len (gl cf (by decide +kernel)) fx.f_len (so (pd_nm (nm cf 0 (by decide +kernel))))))) (blk_of cf (by decide +kernel)) (fun s1 H1 C1 l1 p1 => (pt1_nm (pg_name (i := 1) (Cf.blk cf _ s1 H1 C1 l1 p1).nd (st_of (Cf.blk cf _ s1 H1 C1 l1 p1) 1 (by decide +kernel)).1 (st_of (Cf.blk cf _ s1 H1 C1 l1 p1) 1 (by decide +kernel)).2 (by first | exact .inr (loc_of (Cf.blk cf _ s1 H1 C1 l1 p1) (by decide +kernel)) | exact .inl (fnc_of (by decide +kernel)))))) (by decide) (fun s1 H1 C1 l1 p1 => pts_no) (fun s1 H1 C1 l1 p1 => (pd_tindex (so (pd_ix (so (pd_nm (nm (Cf.blk cf _ s1 H1 C1 l1 p1) 0 (by decide +kernel)))) (so (pd_nm (nm (Cf.blk cf _ s1 H1 C1 l1 p1) 1 (by decide +kernel)))))) (so (pd_nm (nm (Cf.blk cf _ s1 H1 C1 l1 p1) 1 (by decide +kernel)))))) (own := [("x", 1)])))))))
theorem cal__law_own {P : Program} {w : World} {K : PySem.W.Frag} {mg : Str → Option Value} {base : Heap} {f : Addr} {fd : FuncData} (F : FunD K "_law_own" "_law_own" (defArgs s__law_own) (defBody s__law_own) (defScope s__law_own) [] [] f fd) (g : mg "_law_own" = some (.ref f)) (fx : Fx K mg P) : Cal P w K mg base "_law_own" 1 1 sp__law_own :=
  cal_of F g sc__law_own (F.bindsN fun _ _ _ _ _ _ us hl => match us, hl with | [_], _ => rfl) (by decide) (fun X B h1 h2 h3 h4 h5 hfn cf => by subst h1 h2 h3 h4 h5; exact der__law_own hfn fx cf) (fun args P er h => h)
abbrev N__law_unfair : List Str := ["draw", "four", "five", "some", "table"]
def fb__law_unfair : WS := (dSeq (dSet 1 (dTup (dCons (dTup (dCons (dC (.int 2)) (dCons (dC (.int 3)) (dCons (dC (.int 1)) (dCons (dC (.int 0)) dNil))))) (dCons (dTup (dCons (dC (.int 2)) (dCons (dC (.int 3)) (dCons (dC (.int 1)) (dCons (dC (.int 0)) dNil))))) (dCons (dTup (dCons (dC (.int 2)) (dCons (dC (.int 3)) (dCons (dC (.int 0)) (dCons (dC (.int 1)) dNil))))) (dCons (dTup (dCons (dC (.int 2)) (dCons (dC (.int 3)) (dCons (dC (.int 0)) (dCons (dC (.int 1)) dNil))))) dNil))))))
  (dSeq (dSet 2 (dTup (dCons (dTup (dCons (dC (.int 0)) (dCons (dC (.int 3)) (dCons (dC (.int 4)) (dCons (dC (.int 1)) (dCons (dC (.int 2)) dNil)))))) (dCons (dTup (dCons (dC (.int 0)) (dCons (dC (.int 1)) (dCons (dC (.int 2)) (dCons (dC (.int 3)) (dCons (dC (.int 4)) dNil)))))) (dCons (dTup (dCons (dC (.int 0)) (dCons (dC (.int 1)) (dCons (dC (.int 2)) (dCons (dC (.int 3)) (dCons (dC (.int 4)) dNil)))))) (dCons (dTup (dCons (dC (.int 0)) (dCons (dC (.int 1)) (dCons (dC (.int 2)) (dCons (dC (.int 4)) (dCons (dC (.int 3)) dNil)))))) (dCons (dTup (dCons (dC (.int 0)) (dCons (dC (.int 1)) (dCons (dC (.int 2)) (dCons (dC (.int 4)) (dCons (dC (.int 3)) dNil)))))) dNil)))))))
  (dSeq (dSet 3 (dLst (dCons (dNm 1) (dCons (dNm 2) (dCons (dTup (dCons (dTup (dCons (dC (.int 0)) (dCons (dC (.int 1)) dNil))) (dCons (dTup (dCons (dC (.int 1)) (dCons (dC (.int 0)) dNil))) dNil))) (dCons (dTup (dCons (dTup (dCons (dC (.int 0)) (dCons (dC (.int 1)) (dCons (dC (.int 2)) dNil)))) (dCons (dTup (dCons (dC (.int 1)) (dCons (dC (.int 2)) (dCons (dC (.int 0)) dNil)))) (dCons (dTup (dCons (dC (.int 0)) (dCons (dC (.int 1)) (dCons (dC (.int 2)) dNil)))) dNil)))) dNil))))))
  (dSeq (dSet 4 (dCallD 2 0 sp__law_pick (dCons (dNm 3) dNil)))
  (dRet (dCall 2 sp__law_renamed (dCons (dNm 4) (dCons (dUn oTuple (dCallD 2 0 sp__law_shuffled (dCons (dLstRg (dRg1 (dUn oLen (dNm 4)))) dNil))) dNil))))))))
def sp__law_unfair : MT.Spec := bodyW 5 fb__law_unfair
theorem sc__law_unfair : FnScope N__law_unfair ["draw"] (defScope s__law_unfair) := ⟨by rfl, by rfl, by rfl, by decide +kernel, by rfl, by decide +kernel, by decide +kernel⟩
theorem der__law_unfair {X : Cx} {B : Bd} (hfn : ∀ y, X.fn y = true) (fx : Fx X.K X.mg X.prog) (cf : Cf X B N__law_unfair (defScope s__law_unfair) 3) (c__law_pick : Cal X.prog X.w X.K X.mg X.base "_law_pick" 3 2 sp__law_pick) (c__law_renamed : Cal X.prog X.w X.K X.mg X.base "_law_renamed" 2 2 sp__law_renamed) (c__law_shuffled : Cal X.prog X.w X.K X.mg X.base "_law_shuffled" 3 2 sp__law_shuffled) :
    SDs X B (defBody s__law_unfair) (fb__law_unfair) :=
  (sd_cons (sd_set cf.nd (st_of cf 1 (by decide +kernel)).1 (st_of cf 1 (by decide +kernel)).2 (pd_tup (pl_cons (pd_tup (pl_cons pd_int (pl_cons pd_int (pl_cons pd_int (pl_cons pd_int pl_nil))))) (pl_cons (pd_tup (pl_cons pd_int (pl_cons pd_int (pl_cons pd_int (pl_cons pd_int pl_nil))))) (pl_cons (pd_tup (pl_cons pd_int (pl_cons pd_int (pl_cons pd_int (pl_cons pd_int pl_nil))))) (pl_cons (pd_tup (pl_cons pd_int (pl_cons pd_int (pl_cons pd_int (pl_cons pd_int pl_nil))))) pl_nil))))) (.inl (hfn _))) (sd_cons (sd_set cf.nd (st_of cf 2 (by decide +kernel)).1 (st_of cf 2 (by decide +kernel)).2 (pd_tup (pl_cons (pd_tup (pl_cons pd_int (pl_cons pd_int (pl_cons pd_int (pl_cons pd_int (pl_cons pd_int pl_nil)))))) (pl_cons (pd_tup (pl_cons pd_int (pl_cons pd_int (pl_cons pd_int (pl_cons pd_int (pl_cons pd_int pl_nil)))))) (pl_cons (pd_tup (pl_cons pd_int (pl_cons pd_int (pl_cons pd_int (pl_cons pd_int (pl_cons pd_int pl_nil)))))) (pl_cons (pd_tup (pl_cons pd_int (pl_cons pd_int (pl_cons pd_int (pl_cons pd_int (pl_cons pd_int pl_nil)))))) (pl_cons (pd_tup (pl_cons pd_int (pl_cons pd_int (pl_cons pd_int (pl_cons pd_int (pl_cons pd_int pl_nil)))))) pl_nil)))))) (.inl (hfn _))) (sd_cons (sd_set cf.nd (st_of cf 3 (by decide +kernel)).1 (st_of cf 3 (by decide +kernel)).2 (pd_lst (pl_cons (pd_nm (nm cf 1 (by decide +kernel))) (pl_cons (pd_nm (nm cf 2 (by decide +kernel))) (pl_cons (pd_tup (pl_cons (pd_tup (pl_cons pd_int (pl_cons pd_int pl_nil))) (pl_cons (pd_tup (pl_cons pd_int (pl_cons pd_int pl_nil))) pl_nil))) (pl_cons (pd_tup (pl_cons (pd_tup (pl_cons pd_int (pl_cons pd_int (pl_cons pd_int pl_nil)))) (pl_cons (pd_tup (pl_cons pd_int (pl_cons pd_int (pl_cons pd_int pl_nil)))) (pl_cons (pd_tup (pl_cons pd_int (pl_cons pd_int (pl_cons pd_int pl_nil)))) pl_nil)))) pl_nil))))) (.inl (hfn _))) (sd_cons (sd_set cf.nd (st_of cf 4 (by decide +kernel)).1 (st_of cf 4 (by decide +kernel)).2 (pd_callD cf c__law_pick (by decide) (gl cf (by decide +kernel)) (nm cf 0 (by decide +kernel)) (pl_cons (pd_nm (nm cf 3 (by decide +kernel))) pl_nil) (by decide +kernel)) (.inl (hfn _))) (sd_one (sd_ret (sw (pd_call cf (by rfl) c__law_renamed (by decide) (gl cf (by decide +kernel)) (pl_cons (pd_nm (nm cf 4 (by decide +kernel))) (pl_cons (pd_tuple (gl cf (by decide +kernel)) fx.f_tuple (so (pd_callD cf c__law_shuffled (by decide) (gl cf (by decide +kernel)) (nm cf 0 (by decide +kernel)) (pl_cons (pd_lstRg cf.calm (gl cf (by decide +kernel)) fx.f_list (pg_r1 (gl cf (by decide +kernel)) fx.f_range (so (pd_len (gl cf (by decide +kernel)) fx.f_len (so (pd_nm (nm cf 4 (by decide +kernel)))))))) pl_nil) (by decide +kernel)))) pl_nil)) (by decide +kernel)))))))))
theorem cal__law_unfair {P : Program} {w : World} {K : PySem.W.Frag} {mg : Str → Option Value} {base : Heap} {f : Addr} {fd : FuncData} (F : FunD K "_law_unfair" "_law_unfair" (defArgs s__law_unfair) (defBody s__law_unfair) (defScope s__law_unfair) [] [] f fd) (g : mg "_law_unfair" = some (.ref f)) (fx : Fx K mg P) (c__law_pick : Cal P w K mg base "_law_pick" 3 2 sp__law_pick) (c__law_renamed : Cal P w K mg base "_law_renamed" 2 2 sp__law_renamed) (c__law_shuffled : Cal P w K mg base "_law_shuffled" 3 2 sp__law_shuffled) : Cal P w K mg base "_law_unfair" 4 1 sp__law_unfair :=
  cal_of F g sc__law_unfair (F.bindsN fun _ _ _ _ _ _ us hl => match us, hl with | [_], _ => rfl) (by decide) (fun X B h1 h2 h3 h4 h5 hfn cf => by subst h1 h2 h3 h4 h5; exact der__law_unfair hfn fx cf c__law_pick c__law_renamed c__law_shuffled) (fun args P er h => h)
abbrev N__law_some_table : List Str := ["draw", "way"]
def fb__law_some_table : WS := (dSeq (dSet 1 (dCallD 2 0 sp__law_take (dCons (dC (.int 4)) dNil)))
  (dSeq (dIfS (asB (dBin oEq (dNm 1) (dC (.int 0)))) (dRet (dCallD 1 0 sp__law_unfair dNil)) dNext)
  (dRet (dIf (asB (dBin oEq (dNm 1) (dC (.int 1)))) (dCallD 2 0 sp__law_table (dCons (dBin oAdd (dC (.int 1)) (dCallD 2 0 sp__law_take (dCons (dC (.int 4)) dNil))) dNil)) (dCallD 2 0 sp__law_rule (dCons (dC (.int 5)) dNil))))))
def sp__law_some_table : MT.Spec := bodyW 2 fb__law_some_table
theorem sc__law_some_table : FnScope N__law_some_table ["draw"] (defScope s__law_some_table) := ⟨by rfl, by rfl, by rfl, by decide +kernel, by rfl, by decide +kernel, by decide +kernel⟩
theorem der__law_some_table {X : Cx} {B : Bd} (hfn : ∀ y, X.fn y = true) (fx : Fx X.K X.mg X.prog) (cf : Cf X B N__law_some_table (defScope s__law_some_table) 5) (c__law_take : Cal X.prog X.w X.K X.mg X.base "_law_take" 2 2 sp__law_take) (c__law_unfair : Cal X.prog X.w X.K X.mg X.base "_law_unfair" 4 1 sp__law_unfair) (c__law_table : Cal X.prog X.w X.K X.mg X.base "_law_table" 4 2 sp__law_table) (c__law_rule : Cal X.prog X.w X.K X.mg X.base "_law_rule" 5 2 sp__law_rule) :
    SDs X B (defBody s__law_some_table) (fb__law_some_table) :=
  (sd_cons (sd_set cf.nd (st_of cf 1 (by decide +kernel)).1 (st_of cf 1 (by decide +kernel)).2 (pd_callD cf c__law_take (by decide) (gl cf (by decide +kernel)) (nm cf 0 (by decide +kernel)) (pl_cons pd_int pl_nil) (by decide +kernel)) (.inl (hfn _))) (sd_cons (sd_if (pb_cmp (op_eqD cf.u4) od_eq (nomark _) (so (pd_nm (nm cf 1 (by decide +kernel)))) (so pd_int)) (sd_one (sd_ret (sw (pd_callD cf c__law_unfair (by decide) (gl cf (by decide +kernel)) (nm cf 0 (by decide +kernel)) pl_nil (by decide +kernel))))) sd_nil) (sd_one (sd_ret (pd_if (pb_cmp (op_eqD cf.u4) od_eq (nomark _) (so (pd_nm (nm cf 1 (by decide +kernel)))) (so pd_int)) (sw (pd_callD cf c__law_table (by decide) (gl cf (by decide +kernel)) (nm cf 0 (by decide +kernel)) (pl_cons (pd_add (so pd_int) (so (pd_callD cf c__law_take (by decide) (gl cf (by decide +kernel)) (nm cf 0 (by decide +kernel)) (pl_cons pd_int pl_nil) (by decide +kernel)))) pl_nil) (by decide +kernel))) (sw (pd_callD cf c__law_rule (by decide) (gl cf (by decide +kernel)) (nm cf 0 (by decide +kernel)) (pl_cons pd_int pl_nil) (by decide +kernel))))))))
theorem cal__law_some_table {P : Program} {w : World} {K : PySem.W.Frag} {mg : Str → Option Value} {base : Heap} {f : Addr} {fd : FuncData} (F : FunD K "_law_some_table" "_law_some_table" (defArgs s__law_some_table) (defBody s__law_some_table) (defScope s__law_some_table) [] [] f fd) (g : mg "_law_some_table" = some (.ref f)) (fx : Fx K mg P) (c__law_take : Cal P w K mg base "_law_take" 2 2 sp__law_take) (c__law_unfair : Cal P w K mg base "_law_unfair" 4 1 sp__law_unfair) (c__law_table : Cal P w K mg base "_law_table" 4 2 sp__law_table) (c__law_rule : Cal P w K mg base "_law_rule" 5 2 sp__law_rule) : Cal P w K mg base "_law_some_table" 6 1 sp__law_some_table :=
  cal_of F g sc__law_some_table (F.bindsN fun _ _ _ _ _ _ us hl => match us, hl with | [_], _ => rfl) (by decide) (fun X B h1 h2 h3 h4 h5 hfn cf => by subst h1 h2 h3 h4 h5; exact der__law_some_table hfn fx cf c__law_take c__law_unfair c__law_table c__law_rule) (fun args P er h => h)
abbrev N__law_corner : List Str := ["table", "x", "u", "one"]
def fb__law_corner : WS := (dSeq (dFor (dItems (dCall 2 sp__law_rows (dCons (dUn oLen (dNm 0)) (dCons (dC (.int 2)) dNil)))) (tgT ((tg1 1) :: (tg1 2) :: [])) (dSeq (dSet 3 (dCall 2 sp__law_behind (dCons (dBin oIx (dNm 0) (dNm 1)) (dCons (dBin oIx (dNm 0) (dTM oTIdx (dBin oIx (dNm 0) (dNm 1)) (dNm 2))) dNil))))
  (dIfS (asB (dBin oNe (dNm 3) (dCall 2 sp__law_behind (dCons (dBin oIx (dNm 0) (dNm 2)) (dCons (dBin oIx (dNm 0) (dTM oTIdx (dBin oIx (dNm 0) (dNm 2)) (dNm 1))) dNil))))) (dRet (dTup (dCons (dC (.str "corner")) (dCons (dNm 1) (dCons (dNm 2) dNil))))) dNext)))
  (dRet (dC .none)))
def sp__law_corner : MT.Spec := bodyW 4 fb__law_corner
theorem sc__law_corner : FnScope N__law_corner ["table"] (defScope s__law_corner) := ⟨by rfl, by rfl, by rfl, by decide +kernel, by rfl, by decide +kernel, by decide +kernel⟩
theorem der__law_corner {X : Cx} {B : Bd} (hfn : ∀ y, X.fn y = true) (fx : Fx X.K X.mg X.prog) (cf : Cf X B N__law_corner (defScope s__law_corner) 1) (c__law_rows : Cal X.prog X.w X.K X.mg X.base "_law_rows" 1 2 sp__law_rows) (c__law_behind : Cal X.prog X.w X.K X.mg X.base "_law_behind" 1 2 sp__law_behind) :
    SDs X B (defBody s__law_corner) (fb__law_corner) :=
  (sd_cons (sd_for cf.ps cf.calm (pit_seq (.inl rfl) (pd_call cf (by rfl) c__law_rows (by decide) (gl cf (by decide +kernel)) (pl_cons (pd_len (gl cf (by decide +kernel)) fx.f_len (so (pd_nm (nm cf 0 (by decide +kernel))))) (pl_cons pd_int pl_nil)) (by decide +kernel))) (pt1_tup cf.calm (pts_cn (pt1_nm (pg_name (i := 1) cf.nd (st_of cf 1 (by decide +kernel)).1 (st_of cf 1 (by decide +kernel)).2 (.inl (hfn _)))) (pts_cn (pt1_nm (pg_name (i := 2) cf.nd (st_of cf 2 (by decide +kernel)).1 (st_of cf 2 (by decide +kernel)).2 (.inl (hfn _)))) pts_nl))) (sd_cons (sd_set cf.nd (st_of cf 3 (by decide +kernel)).1 (st_of cf 3 (by decide +kernel)).2 (pd_call cf (by rfl) c__law_behind (by decide) (gl cf (by decide +kernel)) (pl_cons (pd_ix (so (pd_nm (nm cf 0 (by decide +kernel)))) (so (pd_nm (nm cf 1 (by decide +kernel))))) (pl_cons (pd_ix (so (pd_nm (nm cf 0 (by decide +kernel)))) (so (pd_tindex (so (pd_ix (so (pd_nm (nm cf 0 (by decide +kernel)))) (so (pd_nm (nm cf 1 (by decide +kernel)))))) (so (pd_nm (nm cf 2 (by decide +kernel))))))) pl_nil)) (by decide +kernel)) (.inl (hfn _))) (sd_one (sd_if (pb_cmp (op_neD cf.u4) od_ne (nomark _) (so (pd_nm (nm cf 3 (by decide +kernel)))) (so (pd_call cf (by rfl) c__law_behind (by decide) (gl cf (by decide +kernel)) (pl_cons (pd_ix (so (pd_nm (nm cf 0 (by decide +kernel)))) (so (pd_nm (nm cf 2 (by decide +kernel))))) (pl_cons (pd_ix (so (pd_nm (nm cf 0 (by decide +kernel)))) (so (pd_tindex (so (pd_ix (so (pd_nm (nm cf 0 (by decide +kernel)))) (so (pd_nm (nm cf 2 (by decide +kernel)))))) (so (pd_nm (nm cf 1 (by decide +kernel))))))) pl_nil)) (by decide +kernel)))) (sd_one (sd_ret (sw (pd_tup (pl_cons pd_str (pl_cons (pd_nm (nm cf 1 (by decide +kernel))) (pl_cons (pd_nm (nm cf 2 (by decide +kernel))) pl_nil))))))) sd_nil)))) (sd_one (sd_ret (sw pd_non))))
theorem cal__law_corner {P : Program} {w : World} {K : PySem.W.Frag} {mg : Str → Option Value} {base : Heap} {f : Addr} {fd : FuncData} (F : FunD K "_law_corner" "_law_corner" (defArgs s__law_corner) (defBody s__law_corner) (defScope s__law_corner) [] [] f fd) (g : mg "_law_corner" = some (.ref f)) (fx : Fx K mg P) (c__law_rows : Cal P w K mg base "_law_rows" 1 2 sp__law_rows) (c__law_behind : Cal P w K mg base "_law_behind" 1 2 sp__law_behind) : Cal P w K mg base "_law_corner" 2 1 sp__law_corner :=
  cal_of F g sc__law_corner (F.bindsN fun _ _ _ _ _ _ us hl => match us, hl with | [_], _ => rfl) (by decide) (fun X B h1 h2 h3 h4 h5 hfn cf => by subst h1 h2 h3 h4 h5; exact der__law_corner hfn fx cf c__law_rows c__law_behind) (fun args P er h => h)
abbrev N_law : List Str := ["script", "draw", "lap", "table", "n", "d", "is_cyclic", "own", "x", "y", "turn", "z"]
def fb_law : WS := (dSeq (dFor (dRng1 (dBin oAdd (dC (.int 5)) (dBin oMin2 (dSc 0) (dC (.int 6))))) (tg1 2) (dSeq (dSet 3 (dCallD 1 1 sp__law_some_table dNil))
  (dSeq (dSet 4 (dUn oLen (dNm 3)))
  (dSeq (dSet 5 (dUn oTuple (dLc (dItems (dNm 3)) (tg1 10) bYes (dCall 1 sp__law_undone (dCons (dNm 10) dNil)) [10])))
  (dSeq (dIfS (bNot (asB (dCall 2 sp__law_same (dCons (dLst (dCons (dCall 1 sp_cycle_table (dCons (dNm 3) dNil)) (dCons (dCall 1 sp_cycle_table (dCons (dNm 5) dNil)) (dCons (dCall 1 sp_corner_fault (dCons (dNm 3) dNil)) dNil)))) (dCons (dLst (dCons (dNm 5) (dCons (dNm 3) (dCons (dCall 1 sp__law_corner (dCons (dNm 3) dNil)) dNil)))) dNil))))) (dRet (dC (.bool false))) dNext)
  (dSeq (dSet 6 (dBin oEq (dLc (dItems (dCall 2 sp__law_rows (dCons (dNm 4) (dCons (dC (.int 3)) dNil)))) (tgT ((tg1 8) :: (tg1 9) :: (tg1 11) :: [])) (asB (dBin oNe (dBin oIx (dBin oIx (dNm 5) (dBin oIx (dBin oIx (dNm 5) (dNm 8)) (dNm 9))) (dBin oIx (dBin oIx (dNm 5) (dNm 8)) (dNm 11))) (dBin oIx (dBin oIx (dNm 5) (dBin oIx (dBin oIx (dNm 5) (dNm 9)) (dNm 8))) (dBin oIx (dBin oIx (dNm 5) (dNm 9)) (dNm 11))))) (dC (.int 1)) [8, 9, 11]) (dLst dNil)))
  (dSeq (dIfS (bOr (asB (dBin oNe (dNm 6) (dBin oIsN (dCall 1 sp_corner_fault (dCons (dNm 3) dNil)) (dC .none)))) (asB (dBin oNe (dNm 6) (dBin oIsN (dCall 1 sp_table_fault (dCons (dNm 3) dNil)) (dC .none))))) (dRet (dC (.bool false))) dNext)
  (dIfS (asB (dNm 6)) (dSeq (dSet 7 (dCall 1 sp__law_own (dCons (dNm 3) dNil)))
  (dSeq (dIfS (bOr (bNot (asB (dCall 2 sp__law_same (dCons (dCall 1 sp_diagonal (dCons (dNm 3) dNil)) (dCons (dNm 7) dNil))))) (asB (dBin oNe (dUn oSort (dNm 7)) (dLstRg (dRg1 (dNm 4)))))) (dRet (dC (.bool false))) dNext)
  (dFor (dItems (dCall 2 sp__law_rows (dCons (dNm 4) (dCons (dC (.int 2)) dNil)))) (tgT ((tg1 8) :: (tg1 9) :: [])) (dIfS (asB (dBin oNe (dBin oIx (dCall 3 sp_meet (dCons (dNm 3) (dCons (dNm 8) (dCons (dNm 9) dNil)))) (dC (.int 1))) (dBin oIx (dCall 1 sp__law_undone (dCons (dNm 7) dNil)) (dBin oIx (dBin oIx (dNm 5) (dNm 9)) (dBin oIx (dNm 7) (dNm 8)))))) (dRet (dC (.bool false))) dNext)))) (dIfS (bNot (asB (dIsx errL "BadRule" (dCaught errL (dCall 1 sp_diagonal (dCons (dNm 3) dNil)))))) (dRet (dC (.bool false))) dNext)))))))))
  (dRet (dAnd (dIsx errL "BadTable" (dCaught errL (dCall 1 sp_cycle_table (dCons (dCallD 2 1 sp__law_pick (dCons (dLst (dCons (dC .none) (dCons (dTup dNil) (dCons (dTup (dCons (dTup (dCons (dC (.int 0)) (dCons (dC (.int 0)) dNil))) dNil)) (dCons (dTup (dCons (dTup (dCons (dC (.int 1)) dNil)) dNil)) dNil))))) dNil)) dNil)))) (dBin oEq (dCall 1 sp_diagonal (dCons (dTup (dCons (dTup (dCons (dC (.int 1)) (dCons (dC (.int 0)) dNil))) (dCons (dTup (dCons (dC (.int 1)) (dCons (dC (.int 0)) dNil))) dNil))) dNil)) (dTup (dCons (dC (.int 1)) (dCons (dC (.int 0)) dNil)))))))
theorem sc_law : FnScope N_law ["script"] (defScope s_law) := ⟨by rfl, by rfl, by rfl, by decide +kernel, by rfl, by decide +kernel, by decide +kernel⟩
abbrev r_law : List Stmt := (defBody s_law).tail
abbrev b_law : Stmt := (defBody s_law).headD (.Pass ⟨0, 0, 0, 0⟩)
theorem der_law {X : Cx} {T : List (Addr × Str)} {cc PP : Addr} (hfn : ∀ y, X.fn y = true) (fx : Fx X.K X.mg X.prog) (cf : Cf X (BT T) N_law (defScope s_law) 9) (lf : Lf X (BT T) T cc PP) (c__law_some_table : Cal X.prog X.w X.K X.mg X.base "_law_some_table" 6 1 sp__law_some_table) (c__law_undone : Cal X.prog X.w X.K X.mg X.base "_law_undone" 1 1 sp__law_undone) (c__law_same : Cal X.prog X.w X.K X.mg X.base "_law_same" 1 2 sp__law_same) (c__law_corner : Cal X.prog X.w X.K X.mg X.base "_law_corner" 2 1 sp__law_corner) (c_corner_fault : Cal X.prog X.w X.K X.mg X.base "corner_fault" 6 1 sp_corner_fault) (c_cycle_table : Cal X.prog X.w X.K X.mg X.base "cycle_table" 6 1 sp_cycle_table) (c__law_rows : Cal X.prog X.w X.K X.mg X.base "_law_rows" 1 2 sp__law_rows) (c_table_fault : Cal X.prog X.w X.K X.mg X.base "table_fault" 6 1 sp_table_fault) (c__law_own : Cal X.prog X.w X.K X.mg X.base "_law_own" 1 1 sp__law_own) (c_diagonal : Cal X.prog X.w X.K X.mg X.base "diagonal" 7 1 sp_diagonal) (c_meet : Cal X.prog X.w X.K X.mg X.base "meet" 6 3 sp_meet) (c__law_pick : Cal X.prog X.w X.K X.mg X.base "_law_pick" 3 2 sp__law_pick) :
    SDs X (BT T) r_law fb_law :=
  (sd_cons (sd_for cf.ps cf.calm (pit_r1 (gl cf (by decide +kernel)) fx.f_range (so (pd_add (so pd_int) (so (pd_min2 cf.calm (gl cf (by decide +kernel)) fx.f_min (so (pd_lenSc (gl cf (by decide +kernel)) fx.f_len (nm cf 0 (by decide +kernel)))) (so pd_int)))))) (pt1_nm (pg_name (i := 2) cf.nd (st_of cf 2 (by decide +kernel)).1 (st_of cf 2 (by decide +kernel)).2 (.inl (hfn _)))) (sd_cons (sd_set cf.nd (st_of cf 3 (by decide +kernel)).1 (st_of cf 3 (by decide +kernel)).2 (pd_callD cf c__law_some_table (by decide) (gl cf (by decide +kernel)) (nm cf 1 (by decide +kernel)) pl_nil (by decide +kernel)) (.inl (hfn _))) (sd_cons (sd_set cf.nd (st_of cf 4 (by decide +kernel)).1 (st_of cf 4 (by decide +kernel)).2 (pd_len (gl cf (by decide +kernel)) fx.f_len (so (pd_nm (nm cf 3 (by decide +kernel))))) (.inl (hfn _))) (sd_cons (sd_set cf.nd (st_of cf 5 (by decide +kernel)).1 (st_of cf 5 (by decide +kernel)).2 (pd_tuple (gl cf (by decide +kernel)) fx.f_tuple (so (pd_lc (.inl rfl) cf.calm cf.nd (pit_seq (.inl rfl) (pd_nm (nm cf 3 (by decide +kernel)))) (blk_of cf (by decide +kernel)) (fun s1 H1 C1 l1 p1 => (pt1_nm (pg_name (i := 10) (Cf.blk cf _ s1 H1 C1 l1 p1).nd (st_of (Cf.blk cf _ s1 H1 C1 l1 p1) 10 (by decide +kernel)).1 (st_of (Cf.blk cf _ s1 H1 C1 l1 p1) 10 (by decide +kernel)).2 (by first | exact .inr (loc_of (Cf.blk cf _ s1 H1 C1 l1 p1) (by decide +kernel)) | exact .inl (fnc_of (by decide +kernel)))))) (by decide) (fun s1 H1 C1 l1 p1 => pts_no) (fun s1 H1 C1 l1 p1 => (pd_call (Cf.blk cf _ s1 H1 C1 l1 p1) (by rfl) c__law_undone (by decide) (gl (Cf.blk cf _ s1 H1 C1 l1 p1) (by decide +kernel)) (pl_cons (pd_nm (nm (Cf.blk cf _ s1 H1 C1 l1 p1) 10 (by decide +kernel))) pl_nil) (by decide +kernel))) (own := [("turn", 10)])))) (.inl (hfn _))) (sd_cons (sd_if (pb_not (pb_val (pd_call cf (by rfl) c__law_same (by decide) (gl cf (by decide +kernel)) (pl_cons (pd_lst (pl_cons (pd_call cf (by rfl) c_cycle_table (by decide) (gl cf (by decide +kernel)) (pl_cons (pd_nm (nm cf 3 (by decide +kernel))) pl_nil) (by decide +kernel)) (pl_cons (pd_call cf (by rfl) c_cycle_table (by decide) (gl cf (by decide +kernel)) (pl_cons (pd_nm (nm cf 5 (by decide +kernel))) pl_nil) (by decide +kernel)) (pl_cons (pd_call cf (by rfl) c_corner_fault (by decide) (gl cf (by decide +kernel)) (pl_cons (pd_nm (nm cf 3 (by decide +kernel))) pl_nil) (by decide +kernel)) pl_nil)))) (pl_cons (pd_lst (pl_cons (pd_nm (nm cf 5 (by decide +kernel))) (pl_cons (pd_nm (nm cf 3 (by decide +kernel))) (pl_cons (pd_call cf (by rfl) c__law_corner (by decide) (gl cf (by decide +kernel)) (pl_cons (pd_nm (nm cf 3 (by decide +kernel))) pl_nil) (by decide +kernel)) pl_nil)))) pl_nil)) (by decide +kernel)))) (sd_one (sd_ret (sw pd_bl))) sd_nil) (sd_cons (sd_set cf.nd (st_of cf 6 (by decide +kernel)).1 (st_of cf 6 (by decide +kernel)).2 (pd_cmp (op_eqD cf.u4) od_eq (nomark _) (so (pd_lc (.inl rfl) cf.calm cf.nd (pit_seq (.inl rfl) (pd_call cf (by rfl) c__law_rows (by decide) (gl cf (by decide +kernel)) (pl_cons (pd_nm (nm cf 4 (by decide +kernel))) (pl_cons pd_int pl_nil)) (by decide +kernel))) (blk_of cf (by decide +kernel)) (fun s1 H1 C1 l1 p1 => (pt1_tup (Cf.blk cf _ s1 H1 C1 l1 p1).calm (pts_cn (pt1_nm (pg_name (i := 8) (Cf.blk cf _ s1 H1 C1 l1 p1).nd (st_of (Cf.blk cf _ s1 H1 C1 l1 p1) 8 (by decide +kernel)).1 (st_of (Cf.blk cf _ s1 H1 C1 l1 p1) 8 (by decide +kernel)).2 (by first | exact .inr (loc_of (Cf.blk cf _ s1 H1 C1 l1 p1) (by decide +kernel)) | exact .inl (fnc_of (by decide +kernel))))) (pts_cn (pt1_nm (pg_name (i := 9) (Cf.blk cf _ s1 H1 C1 l1 p1).nd (st_of (Cf.blk cf _ s1 H1 C1 l1 p1) 9 (by decide +kernel)).1 (st_of (Cf.blk cf _ s1 H1 C1 l1 p1) 9 (by decide +kernel)).2 (by first | exact .inr (loc_of (Cf.blk cf _ s1 H1 C1 l1 p1) (by decide +kernel)) | exact .inl (fnc_of (by decide +kernel))))) (pts_cn (pt1_nm (pg_name (i := 11) (Cf.blk cf _ s1 H1 C1 l1 p1).nd (st_of (Cf.blk cf _ s1 H1 C1 l1 p1) 11 (by decide +kernel)).1 (st_of (Cf.blk cf _ s1 H1 C1 l1 p1) 11 (by decide +kernel)).2 (by first | exact .inr (loc_of (Cf.blk cf _ s1 H1 C1 l1 p1) (by decide +kernel)) | exact .inl (fnc_of (by decide +kernel))))) pts_nl))))) (by decide) (fun s1 H1 C1 l1 p1 => (pts_1 (pb_cmp (op_neD (Cf.blk cf _ s1 H1 C1 l1 p1).u4) od_ne (nomark _) (so (pd_ix (so (pd_ix (so (pd_nm (nm (Cf.blk cf _ s1 H1 C1 l1 p1) 5 (by decide +kernel)))) (so (pd_ix (so (pd_ix (so (pd_nm (nm (Cf.blk cf _ s1 H1 C1 l1 p1) 5 (by decide +kernel)))) (so (pd_nm (nm (Cf.blk cf _ s1 H1 C1 l1 p1) 8 (by decide +kernel)))))) (so (pd_nm (nm (Cf.blk cf _ s1 H1 C1 l1 p1) 9 (by decide +kernel)))))))) (so (pd_ix (so (pd_ix (so (pd_nm (nm (Cf.blk cf _ s1 H1 C1 l1 p1) 5 (by decide +kernel)))) (so (pd_nm (nm (Cf.blk cf _ s1 H1 C1 l1 p1) 8 (by decide +kernel)))))) (so (pd_nm (nm (Cf.blk cf _ s1 H1 C1 l1 p1) 11 (by decide +kernel)))))))) (so (pd_ix (so (pd_ix (so (pd_nm (nm (Cf.blk cf _ s1 H1 C1 l1 p1) 5 (by decide +kernel)))) (so (pd_ix (so (pd_ix (so (pd_nm (nm (Cf.blk cf _ s1 H1 C1 l1 p1) 5 (by decide +kernel)))) (so (pd_nm (nm (Cf.blk cf _ s1 H1 C1 l1 p1) 9 (by decide +kernel)))))) (so (pd_nm (nm (Cf.blk cf _ s1 H1 C1 l1 p1) 8 (by decide +kernel)))))))) (so (pd_ix (so (pd_ix (so (pd_nm (nm (Cf.blk cf _ s1 H1 C1 l1 p1) 5 (by decide +kernel)))) (so (pd_nm (nm (Cf.blk cf _ s1 H1 C1 l1 p1) 9 (by decide +kernel)))))) (so (pd_nm (nm (Cf.blk cf _ s1 H1 C1 l1 p1) 11 (by decide +kernel))))))))))) (fun s1 H1 C1 l1 p1 => pd_int) (own := [("x", 8), ("y", 9), ("z", 11)]))) (so (pd_lst pl_nil))) (.inl (hfn _))) (sd_cons (sd_if (pb_w (pbw_or (pb_cmp (op_neD cf.u4) od_ne (nomark _) (so (pd_nm (nm cf 6 (by decide +kernel)))) (so (pd_cmp op_isN od_isN (nomark _) (so (pd_call cf (by rfl) c_corner_fault (by decide) (gl cf (by decide +kernel)) (pl_cons (pd_nm (nm cf 3 (by decide +kernel))) pl_nil) (by decide +kernel))) (so pd_non)))) (pbw_or1 (pb_cmp (op_neD cf.u4) od_ne (nomark _) (so (pd_nm (nm cf 6 (by decide +kernel)))) (so (pd_cmp op_isN od_isN (nomark _) (so (pd_call cf (by rfl) c_table_fault (by decide) (gl cf (by decide +kernel)) (pl_cons (pd_nm (nm cf 3 (by decide +kernel))) pl_nil) (by decide +kernel))) (so pd_non))))))) (sd_one (sd_ret (sw pd_bl))) sd_nil) (sd_one (sd_if (pb_val (pd_nm (nm cf 6 (by decide +kernel)))) (sd_cons (sd_set cf.nd (st_of cf 7 (by decide +kernel)).1 (st_of cf 7 (by decide +kernel)).2 (pd_call cf (by rfl) c__law_own (by decide) (gl cf (by decide +kernel)) (pl_cons (pd_nm (nm cf 3 (by decide +kernel))) pl_nil) (by decide +kernel)) (.inl (hfn _))) (sd_cons (sd_if (pb_w (pbw_or (pb_not (pb_val (pd_call cf (by rfl) c__law_same (by decide) (gl cf (by decide +kernel)) (pl_cons (pd_call cf (by rfl) c_diagonal (by decide) (gl cf (by decide +kernel)) (pl_cons (pd_nm (nm cf 3 (by decide +kernel))) pl_nil) (by decide +kernel)) (pl_cons (pd_nm (nm cf 7 (by decide +kernel))) pl_nil)) (by decide +kernel)))) (pbw_or1 (pb_cmp (op_neD cf.u4) od_ne (nomark _) (so (pd_sorted (gl cf (by decide +kernel)) fx.f_sorted (so (pd_nm (nm cf 7 (by decide +kernel)))))) (so (pd_lstRg cf.calm (gl cf (by decide +kernel)) fx.f_list (pg_r1 (gl cf (by decide +kernel)) fx.f_range (so (pd_nm (nm cf 4 (by decide +kernel))))))))))) (sd_one (sd_ret (sw pd_bl))) sd_nil) (sd_one (sd_for cf.ps cf.calm (pit_seq (.inl rfl) (pd_call cf (by rfl) c__law_rows (by decide) (gl cf (by decide +kernel)) (pl_cons (pd_nm (nm cf 4 (by decide +kernel))) (pl_cons pd_int pl_nil)) (by decide +kernel))) (pt1_tup cf.calm (pts_cn (pt1_nm (pg_name (i := 8) cf.nd (st_of cf 8 (by decide +kernel)).1 (st_of cf 8 (by decide +kernel)).2 (.inl (hfn _)))) (pts_cn (pt1_nm (pg_name (i := 9) cf.nd (st_of cf 9 (by decide +kernel)).1 (st_of cf 9 (by decide +kernel)).2 (.inl (hfn _)))) pts_nl))) (sd_one (sd_if (pb_cmp (op_neD cf.u4) od_ne (nomark _) (so (pd_ix (so (pd_call cf (by rfl) c_meet (by decide) (gl cf (by decide +kernel)) (pl_cons (pd_nm (nm cf 3 (by decide +kernel))) (pl_cons (pd_nm (nm cf 8 (by decide +kernel))) (pl_cons (pd_nm (nm cf 9 (by decide +kernel))) pl_nil))) (by decide +kernel))) (so pd_int))) (so (pd_ix (so (pd_call cf (by rfl) c__law_undone (by decide) (gl cf (by decide +kernel)) (pl_cons (pd_nm (nm cf 7 (by decide +kernel))) pl_nil) (by decide +kernel))) (so (pd_ix (so (pd_ix (so (pd_nm (nm cf 5 (by decide +kernel)))) (so (pd_nm (nm cf 9 (by decide +kernel)))))) (so (pd_ix (so (pd_nm (nm cf 7 (by decide +kernel)))) (so (pd_nm (nm cf 8 (by decide +kernel))))))))))) (sd_one (sd_ret (sw pd_bl))) sd_nil)))))) (sd_one (sd_if (pb_not (pb_val (pd_isx fx.errs (by decide +kernel) (gl cf (by decide +kernel)) fx.f_isinstance (gl cf (by decide +kernel)) fx.c_BadRule (px_law_caught (k := 7) cf lf fx.errs fx.cg (by decide) (gl cf (by decide +kernel)) (by decide +kernel) (by rfl) (fun _ _ _ _ _ => rfl) (fun A0 O0 s0 H0 E0 r0 f0 q0 L0 => (pd_call L0 (by rfl) c_diagonal (by decide) (gl L0 (by decide +kernel)) (pl_cons (pd_nm (nm L0 3 (by decide +kernel))) pl_nil) (by decide +kernel))))))) (sd_one (sd_ret (sw pd_bl))) sd_nil))))))))))) (sd_one (sd_ret (sw (pd_and (pd_isx fx.errs (by decide +kernel) (gl cf (by decide +kernel)) fx.f_isinstance (gl cf (by decide +kernel)) fx.c_BadTable (px_law_caught (k := 6) cf lf fx.errs fx.cg (by decide) (gl cf (by decide +kernel)) (by decide +kernel) (by rfl) (fun _ _ _ _ _ => rfl) (fun A1 O1 s1 H1 E1 r1 f1 q1 L1 => (pd_call L1 (by rfl) c_cycle_table (by decide) (gl L1 (by decide +kernel)) (pl_cons (pd_callD L1 c__law_pick (by decide) (gl L1 (by decide +kernel)) (nm L1 1 (by decide +kernel)) (pl_cons (pd_lst (pl_cons pd_non (pl_cons (pd_tup pl_nil) (pl_cons (pd_tup (pl_cons (pd_tup (pl_cons pd_int (pl_cons pd_int pl_nil))) pl_nil)) (pl_cons (pd_tup (pl_cons (pd_tup (pl_cons pd_int pl_nil)) pl_nil)) pl_nil))))) pl_nil) (by decide +kernel)) pl_nil) (by decide +kernel))))) (pd_one (pd_cmp (op_eqD cf.u4) od_eq (nomark _) (so (pd_call cf (by rfl) c_diagonal (by decide) (gl cf (by decide +kernel)) (pl_cons (pd_tup (pl_cons (pd_tup (pl_cons pd_int (pl_cons pd_int pl_nil))) (pl_cons (pd_tup (pl_cons pd_int (pl_cons pd_int pl_nil))) pl_nil))) pl_nil) (by decide +kernel))) (so (pd_tup (pl_cons pd_int (pl_cons pd_int pl_nil)))))))))))
theorem der0_law {X : Cx} {T : List (Addr × Str)} (hfn : ∀ y, X.fn y = true) (cf : Cf X (BT T) N_law (defScope s_law) 9) (c : CalS X.prog X.w X.K X.mg X.base "_law_begun" 1 (spBegun X.K)) : ∃ E, PS X b_law (tAsg (tCall (spBegun X.K) [] E (tCons (tVar 0) tNil)) (gName 1)) := by
  obtain ⟨E, hp, _⟩ := cf.pass
  exact ⟨E, ps_set cf.nd (st_of cf 1 (by decide +kernel)).1 (st_of cf 1 (by decide +kernel)).2 (pe_callG c (cf.room.mono (by decide)) cf.gd (gl cf (by decide +kernel)) hp (pa_cons (nm cf 0 (by decide +kernel)) pa_nil) (by decide +kernel) (by rfl) (by rfl)) (by rfl) (.inl (hfn _))⟩
/-- what is left to show: plain data -/
def LawD : Prop := ∀ ns : List Int, ns.length ≤ 63 → fb_law ⟨fun _ => False, fun _ d => d = .bool true, fun _ => False, fun _ => False, fun _ => False⟩ (((List.replicate N_law.length Slot.un).set 0 (.sc ns)).set 1 .dr)
theorem ok_law {P : Program} {w : World} {K : PySem.W.Frag} {mg : Str → Option Value} {base : Heap} {f : Addr} {fd : FuncData} (F : FunD K "law" "law" (defArgs s_law) (defBody s_law) (defScope s_law) [] [] f fd) (fx : Fx K mg P) (hfa : f = He.ga K "law") (hx : (("law", none) : He.Defn) ∈ tfL) (nd : tabNd tfL K = true) (TB : ∀ p ∈ tfL.map (He.cT K), LamX.TabB base mg p.1 p.2) (cb : CalS P w K mg base "_law_begun" 1 (spBegun K)) (c__law_some_table : Cal P w K mg base "_law_some_table" 6 1 sp__law_some_table) (c__law_undone : Cal P w K mg base "_law_undone" 1 1 sp__law_undone) (c__law_same : Cal P w K mg base "_law_same" 1 2 sp__law_same) (c__law_corner : Cal P w K mg base "_law_corner" 2 1 sp__law_corner) (c_corner_fault : Cal P w K mg base "corner_fault" 6 1 sp_corner_fault) (c_cycle_table : Cal P w K mg base "cycle_table" 6 1 sp_cycle_table) (c__law_rows : Cal P w K mg base "_law_rows" 1 2 sp__law_rows) (c_table_fault : Cal P w K mg base "table_fault" 6 1 sp_table_fault) (c__law_own : Cal P w K mg base "_law_own" 1 1 sp__law_own) (c_diagonal : Cal P w K mg base "diagonal" 7 1 sp_diagonal) (c_meet : Cal P w K mg base "meet" 6 3 sp_meet) (c__law_pick : Cal P w K mg base "_law_pick" 3 2 sp__law_pick) (h : LawD) : FnG P w K mg base 10 f fd 1 ["script"] (spLaw K (tabT K tfL)) :=
  law_of (st := b_law) (rest := r_law) (i := 1) F sc_law (by decide) (by decide) (fun X h1 h2 h3 h4 h5 hfn cf => by subst h1 h2 h3 h4 h5; exact der0_law hfn cf cb) (fun X h1 h2 h3 h4 h5 hfn cf hq hc => by subst h1 h2 h3 h4 h5; exact der_law hfn fx cf (lf_of rfl F hfa hx nd (fun _ h => h) TB hq hc) c__law_some_table c__law_undone c__law_same c__law_corner c_corner_fault c_cycle_table c__law_rows c_table_fault c__law_own c_diagonal c_meet c__law_pick) h
/-! the head -/
abbrev RWL : PySem.W.OpenRow := PySem.W.OpenLaw.row PySem.Challenge.rw_meeteither_k04_whole_cycle_tables_and_co
abbrev hk : PySem.W.Hook := hookY 4 (faL ++ faE) fnL tfL iniL exL
def ob (s : PySem.W.SharedT) : AlY := obsY 4 (faL ++ faE) fnL tfL iniL exL (HandSHeadRun.getT s)
theorem ob_eq (s : PySem.W.SharedT) : ob s = hk.obs s.abs := obsY_eq (HandSHeadRun.getT_eq s)
def looseL : List Str := (["MeetError", "BadNumber", "BadRule", "BadTable", "is_number", "is_between", "is_tuple", "need_between", "MOST_THINGS", "is_turn_told", "turn_after", "turn_back"] : List Str) ++ (["is_table_told", "need_table", "met_told", "cycle_told", "diagonal_told", "is_fair", "is_rule_told", "need_rule", "row_met", "rows_of_three", "meet", "table_fault"] : List Str) ++ (["corner_fault", "cycle_table", "diagonal", "_law_begun", "_law_blend", "_law_take", "_law_pick", "_law_shuffled", "_law_caught", "_law_same", "_law_undone", "_law_behind"] : List Str) ++ (["_law_rows", "_law_turns", "_law_renamed", "_law_namings", "_law_beside", "_law_small", "_law_rule", "_law_table", "_law_own", "_law_unfair", "_law_some_table", "_law_corner"] : List Str)
theorem runA (w : World) : HandSHeadRun.RunA RWL 4000 w := by
  intro os
  kernel_rfl
theorem runB (w : World) : HandSHeadRun.RunB RWL (PySem.W.view RWL.prog [53]) 4000 looseL w := by
  intro os
  kernel_rfl
theorem runC (w : World) : HandSHeadRun.RunC RWL hk ob 4000 w := by
  intro os
  kernel_rfl
theorem run (w : World) : HandSHeadRun.RunEq RWL (PySem.W.view RWL.prog [53]) hk ob 4000 looseL w := HandSHeadRun.run_of (runA w) (runB w) (runC w)
theorem facts {P : Program} {w : World} {K : PySem.W.Frag} {h : Heap} {mg : Str → Option Value} {f : Addr} (ld : LawD) (hP1 : P.main.file = fileS) (hP2 : (P.main.scope.names.lookup ("super" : Str)).isSome = false) (X : K.In h) (G : h.Ns mainGlobals mg) (hfa : mg ("law" : Str) = some (.ref f)) (c : SaysY (faL ++ faE) fnL tfL iniL exL h K) :
    ∃ fd : FuncData, (∀ (s : Shared) (v : Value), BindsTo s fd ⟨[v], []⟩ [("script", v)]) ∧ ∀ base : Heap, K.In base → base.Ns mainGlobals mg → (∀ p ∈ tfL.map (He.cT K), LamX.TabB base mg p.1 p.2) → FnG P w K mg base 10 f fd 1 ["script"] (spLaw K (tabT K tfL)) := by
  have fx : Fx K mg P := ⟨He.free_ok X G (c.t.fact 58 (f := .free "ValueError") rfl), He.free_ok X G (c.t.fact 44 (f := .free "abs") rfl), He.free_ok X G (c.t.fact 45 (f := .free "all") rfl), He.free_ok X G (c.t.fact 46 (f := .free "bool") rfl), He.free_ok X G (c.t.fact 47 (f := .free "enumerate") rfl), He.free_ok X G (c.t.fact 48 (f := .free "int") rfl), He.free_ok X G (c.t.fact 49 (f := .free "isinstance") rfl), He.free_ok X G (c.t.fact 50 (f := .free "len") rfl), He.free_ok X G (c.t.fact 51 (f := .free "list") rfl), He.free_ok X G (c.t.fact 52 (f := .free "min") rfl), He.free_ok X G (c.t.fact 53 (f := .free "range") rfl), He.free_ok X G (c.t.fact 54 (f := .free "repr") rfl), He.free_ok X G (c.t.fact 55 (f := .free "sorted") rfl), He.free_ok X G (c.t.fact 56 (f := .free "super") rfl), He.free_ok X G (c.t.fact 57 (f := .free "tuple") rfl), He.int_ok X G (c.t.fact 59 (f := .int "MOST_THINGS" (24)) rfl), errB_ok (He.ba (He.ba c.more).2).1, ⟨c.t.def_ 27 (d := d__law_caught) rfl, He.glo_ok X G (c.t.fact 27 (f := .glo "_law_caught") rfl), He.glo_ok X G (c.t.fact 60 (f := .glo "MeetError") rfl)⟩, He.glo_ok X G (c.t.fact 61 (f := .glo "BadNumber") rfl), He.glo_ok X G (c.t.fact 62 (f := .glo "BadRule") rfl), He.glo_ok X G (c.t.fact 63 (f := .glo "BadTable") rfl), exc_ok (c.t.fact 64 (f := .exc "BadRule") rfl), exc_ok (c.t.fact 65 (f := .exc "BadTable") rfl), supB_ok (He.ba (He.ba c.more).2).2 (ini_at c.ini 0), iniE_BadNumber hP1 hP2, trivial⟩
  obtain ⟨fd_is_number, F_is_number⟩ := c.t.def_ 0 (d := d_is_number) rfl
  have g_is_number : mg "is_number" = some (.ref _) := He.glo_ok X G (c.t.fact 0 (f := .glo "is_number") rfl)
  obtain ⟨fd_is_between, F_is_between⟩ := c.t.def_ 1 (d := d_is_between) rfl
  have g_is_between : mg "is_between" = some (.ref _) := He.glo_ok X G (c.t.fact 1 (f := .glo "is_between") rfl)
  obtain ⟨fd_is_tuple, F_is_tuple⟩ := c.t.def_ 2 (d := d_is_tuple) rfl
  have g_is_tuple : mg "is_tuple" = some (.ref _) := He.glo_ok X G (c.t.fact 2 (f := .glo "is_tuple") rfl)
  obtain ⟨fd_need_between, F_need_between⟩ := c.t.def_ 3 (d := d_need_between) rfl
  have g_need_between : mg "need_between" = some (.ref _) := He.glo_ok X G (c.t.fact 3 (f := .glo "need_between") rfl)
  obtain ⟨fd_is_turn_told, F_is_turn_told⟩ := c.t.def_ 4 (d := d_is_turn_told) rfl
  have g_is_turn_told : mg "is_turn_told" = some (.ref _) := He.glo_ok X G (c.t.fact 4 (f := .glo "is_turn_told") rfl)
  obtain ⟨fd_turn_after, F_turn_after⟩ := c.t.def_ 5 (d := d_turn_after) rfl
  have g_turn_after : mg "turn_after" = some (.ref _) := He.glo_ok X G (c.t.fact 5 (f := .glo "turn_after") rfl)
  obtain ⟨fd_turn_back, F_turn_back⟩ := c.t.def_ 6 (d := d_turn_back) rfl
  have g_turn_back : mg "turn_back" = some (.ref _) := He.glo_ok X G (c.t.fact 6 (f := .glo "turn_back") rfl)
  obtain ⟨fd_is_table_told, F_is_table_told⟩ := c.t.def_ 7 (d := d_is_table_told) rfl
  have g_is_table_told : mg "is_table_told" = some (.ref _) := He.glo_ok X G (c.t.fact 7 (f := .glo "is_table_told") rfl)
  obtain ⟨fd_need_table, F_need_table⟩ := c.t.def_ 8 (d := d_need_table) rfl
  have g_need_table : mg "need_table" = some (.ref _) := He.glo_ok X G (c.t.fact 8 (f := .glo "need_table") rfl)
  obtain ⟨fd_met_told, F_met_told⟩ := c.t.def_ 9 (d := d_met_told) rfl
  have g_met_told : mg "met_told" = some (.ref _) := He.glo_ok X G (c.t.fact 9 (f := .glo "met_told") rfl)
  obtain ⟨fd_cycle_told, F_cycle_told⟩ := c.t.def_ 10 (d := d_cycle_told) rfl
  have g_cycle_told : mg "cycle_told" = some (.ref _) := He.glo_ok X G (c.t.fact 10 (f := .glo "cycle_told") rfl)
  obtain ⟨fd_diagonal_told, F_diagonal_told⟩ := c.t.def_ 11 (d := d_diagonal_told) rfl
  have g_diagonal_told : mg "diagonal_told" = some (.ref _) := He.glo_ok X G (c.t.fact 11 (f := .glo "diagonal_told") rfl)
  obtain ⟨fd_is_fair, F_is_fair⟩ := c.t.def_ 12 (d := d_is_fair) rfl
  have g_is_fair : mg "is_fair" = some (.ref _) := He.glo_ok X G (c.t.fact 12 (f := .glo "is_fair") rfl)
  obtain ⟨fd_is_rule_told, F_is_rule_told⟩ := c.t.def_ 13 (d := d_is_rule_told) rfl
  have g_is_rule_told : mg "is_rule_told" = some (.ref _) := He.glo_ok X G (c.t.fact 13 (f := .glo "is_rule_told") rfl)
  obtain ⟨fd_need_rule, F_need_rule⟩ := c.t.def_ 14 (d := d_need_rule) rfl
  have g_need_rule : mg "need_rule" = some (.ref _) := He.glo_ok X G (c.t.fact 14 (f := .glo "need_rule") rfl)
  obtain ⟨fd_row_met, F_row_met⟩ := c.t.def_ 15 (d := d_row_met) rfl
  have g_row_met : mg "row_met" = some (.ref _) := He.glo_ok X G (c.t.fact 15 (f := .glo "row_met") rfl)
  obtain ⟨fd_rows_of_three, F_rows_of_three⟩ := c.t.def_ 16 (d := d_rows_of_three) rfl
  have g_rows_of_three : mg "rows_of_three" = some (.ref _) := He.glo_ok X G (c.t.fact 16 (f := .glo "rows_of_three") rfl)
  obtain ⟨fd_meet, F_meet⟩ := c.t.def_ 17 (d := d_meet) rfl
  have g_meet : mg "meet" = some (.ref _) := He.glo_ok X G (c.t.fact 17 (f := .glo "meet") rfl)
  obtain ⟨fd_table_fault, F_table_fault⟩ := c.t.def_ 18 (d := d_table_fault) rfl
  have g_table_fault : mg "table_fault" = some (.ref _) := He.glo_ok X G (c.t.fact 18 (f := .glo "table_fault") rfl)
  obtain ⟨fd_corner_fault, F_corner_fault⟩ := c.t.def_ 19 (d := d_corner_fault) rfl
  have g_corner_fault : mg "corner_fault" = some (.ref _) := He.glo_ok X G (c.t.fact 19 (f := .glo "corner_fault") rfl)
  obtain ⟨fd_cycle_table, F_cycle_table⟩ := c.t.def_ 20 (d := d_cycle_table) rfl
  have g_cycle_table : mg "cycle_table" = some (.ref _) := He.glo_ok X G (c.t.fact 20 (f := .glo "cycle_table") rfl)
  obtain ⟨fd_diagonal, F_diagonal⟩ := c.t.def_ 21 (d := d_diagonal) rfl
  have g_diagonal : mg "diagonal" = some (.ref _) := He.glo_ok X G (c.t.fact 21 (f := .glo "diagonal") rfl)
  obtain ⟨fd__law_begun, F__law_begun⟩ := c.t.def_ 22 (d := d__law_begun) rfl
  have g__law_begun : mg "_law_begun" = some (.ref _) := He.glo_ok X G (c.t.fact 22 (f := .glo "_law_begun") rfl)
  obtain ⟨fd__law_blend, F__law_blend⟩ := c.t.def_ 23 (d := d__law_blend) rfl
  have g__law_blend : mg "_law_blend" = some (.ref _) := He.glo_ok X G (c.t.fact 23 (f := .glo "_law_blend") rfl)
  obtain ⟨fd__law_take, F__law_take⟩ := c.t.def_ 24 (d := d__law_take) rfl
  have g__law_take : mg "_law_take" = some (.ref _) := He.glo_ok X G (c.t.fact 24 (f := .glo "_law_take") rfl)
  obtain ⟨fd__law_pick, F__law_pick⟩ := c.t.def_ 25 (d := d__law_pick) rfl
  have g__law_pick : mg "_law_pick" = some (.ref _) := He.glo_ok X G (c.t.fact 25 (f := .glo "_law_pick") rfl)
  obtain ⟨fd__law_shuffled, F__law_shuffled⟩ := c.t.def_ 26 (d := d__law_shuffled) rfl
  have g__law_shuffled : mg "_law_shuffled" = some (.ref _) := He.glo_ok X G (c.t.fact 26 (f := .glo "_law_shuffled") rfl)
  obtain ⟨fd__law_same, F__law_same⟩ := c.t.def_ 28 (d := d__law_same) rfl
  have g__law_same : mg "_law_same" = some (.ref _) := He.glo_ok X G (c.t.fact 28 (f := .glo "_law_same") rfl)
  obtain ⟨fd__law_undone, F__law_undone⟩ := c.t.def_ 29 (d := d__law_undone) rfl
  have g__law_undone : mg "_law_undone" = some (.ref _) := He.glo_ok X G (c.t.fact 29 (f := .glo "_law_undone") rfl)
  obtain ⟨fd__law_behind, F__law_behind⟩ := c.t.def_ 30 (d := d__law_behind) rfl
  have g__law_behind : mg "_law_behind" = some (.ref _) := He.glo_ok X G (c.t.fact 30 (f := .glo "_law_behind") rfl)
  obtain ⟨fd__law_rows, F__law_rows⟩ := c.t.def_ 31 (d := d__law_rows) rfl
  have g__law_rows : mg "_law_rows" = some (.ref _) := He.glo_ok X G (c.t.fact 31 (f := .glo "_law_rows") rfl)
  obtain ⟨fd__law_turns, F__law_turns⟩ := c.t.def_ 32 (d := d__law_turns) rfl
  have g__law_turns : mg "_law_turns" = some (.ref _) := He.glo_ok X G (c.t.fact 32 (f := .glo "_law_turns") rfl)
  obtain ⟨fd__law_renamed, F__law_renamed⟩ := c.t.def_ 33 (d := d__law_renamed) rfl
  have g__law_renamed : mg "_law_renamed" = some (.ref _) := He.glo_ok X G (c.t.fact 33 (f := .glo "_law_renamed") rfl)
  obtain ⟨fd__law_namings, F__law_namings⟩ := c.t.def_ 34 (d := d__law_namings) rfl
  have g__law_namings : mg "_law_namings" = some (.ref _) := He.glo_ok X G (c.t.fact 34 (f := .glo "_law_namings") rfl)
  obtain ⟨fd__law_beside, F__law_beside⟩ := c.t.def_ 35 (d := d__law_beside) rfl
  have g__law_beside : mg "_law_beside" = some (.ref _) := He.glo_ok X G (c.t.fact 35 (f := .glo "_law_beside") rfl)
  obtain ⟨fd__law_small, F__law_small⟩ := c.t.def_ 36 (d := d__law_small) rfl
  have g__law_small : mg "_law_small" = some (.ref _) := He.glo_ok X G (c.t.fact 36 (f := .glo "_law_small") rfl)
  obtain ⟨fd__law_rule, F__law_rule⟩ := c.t.def_ 37 (d := d__law_rule) rfl
  have g__law_rule : mg "_law_rule" = some (.ref _) := He.glo_ok X G (c.t.fact 37 (f := .glo "_law_rule") rfl)
  obtain ⟨fd__law_table, F__law_table⟩ := c.t.def_ 38 (d := d__law_table) rfl
  have g__law_table : mg "_law_table" = some (.ref _) := He.glo_ok X G (c.t.fact 38 (f := .glo "_law_table") rfl)
  obtain ⟨fd__law_own, F__law_own⟩ := c.t.def_ 39 (d := d__law_own) rfl
  have g__law_own : mg "_law_own" = some (.ref _) := He.glo_ok X G (c.t.fact 39 (f := .glo "_law_own") rfl)
  obtain ⟨fd__law_unfair, F__law_unfair⟩ := c.t.def_ 40 (d := d__law_unfair) rfl
  have g__law_unfair : mg "_law_unfair" = some (.ref _) := He.glo_ok X G (c.t.fact 40 (f := .glo "_law_unfair") rfl)
  obtain ⟨fd__law_some_table, F__law_some_table⟩ := c.t.def_ 41 (d := d__law_some_table) rfl
  have g__law_some_table : mg "_law_some_table" = some (.ref _) := He.glo_ok X G (c.t.fact 41 (f := .glo "_law_some_table") rfl)
  obtain ⟨fd__law_corner, F__law_corner⟩ := c.t.def_ 42 (d := d__law_corner) rfl
  have g__law_corner : mg "_law_corner" = some (.ref _) := He.glo_ok X G (c.t.fact 42 (f := .glo "_law_corner") rfl)
  obtain ⟨fd_law, F_law⟩ := c.t.def_ 43 (d := d_law) rfl
  have e := hfa.symm.trans (He.glo_ok X G (c.t.fact 43 (f := .glo "law") rfl))
  cases e
  have b := FunD.bindsA (ps := ["script"]) F_law fun _ _ _ _ _ _ us hl => match us, hl with | [_], _ => rfl
  refine ⟨fd_law, fun s v => b s [v] rfl, fun base _ _ TB => ?_⟩
  have cb := cal__law_begun (P := P) (w := w) (base := base) F__law_begun g__law_begun fx
  have c_is_number := cal_is_number (P := P) (w := w) (base := base) F_is_number g_is_number fx
  have c_is_between := cal_is_between (P := P) (w := w) (base := base) F_is_between g_is_between fx c_is_number
  have c_is_tuple := cal_is_tuple (P := P) (w := w) (base := base) F_is_tuple g_is_tuple fx
  have c_need_between := cal_need_between (P := P) (w := w) (base := base) F_need_between g_need_between fx c_is_between
  have c_is_turn_told := cal_is_turn_told (P := P) (w := w) (base := base) F_is_turn_told g_is_turn_told fx c_is_tuple c_is_between
  have c_turn_after := cal_turn_after (P := P) (w := w) (base := base) F_turn_after g_turn_after fx
  have c_turn_back := cal_turn_back (P := P) (w := w) (base := base) F_turn_back g_turn_back fx
  have c_is_table_told := cal_is_table_told (P := P) (w := w) (base := base) F_is_table_told g_is_table_told fx c_is_turn_told
  have c_need_table := cal_need_table (P := P) (w := w) (base := base) F_need_table g_need_table fx c_is_table_told
  have c_met_told := cal_met_told (P := P) (w := w) (base := base) F_met_told g_met_told fx
  have c_cycle_told := cal_cycle_told (P := P) (w := w) (base := base) F_cycle_told g_cycle_told fx c_turn_back
  have c_diagonal_told := cal_diagonal_told (P := P) (w := w) (base := base) F_diagonal_told g_diagonal_told fx
  have c_is_fair := cal_is_fair (P := P) (w := w) (base := base) F_is_fair g_is_fair fx c_cycle_told
  have c_is_rule_told := cal_is_rule_told (P := P) (w := w) (base := base) F_is_rule_told g_is_rule_told fx c_is_table_told c_is_fair
  have c_need_rule := cal_need_rule (P := P) (w := w) (base := base) F_need_rule g_need_rule fx c_is_rule_told
  have c_row_met := cal_row_met (P := P) (w := w) (base := base) F_row_met g_row_met fx c_met_told
  have c_rows_of_three := cal_rows_of_three (P := P) (w := w) (base := base) F_rows_of_three g_rows_of_three fx
  have c_meet := cal_meet (P := P) (w := w) (base := base) F_meet g_meet fx c_need_table c_need_between c_met_told
  have c_table_fault := cal_table_fault (P := P) (w := w) (base := base) F_table_fault g_table_fault fx c_need_table c_is_fair c_rows_of_three c_row_met
  have c_corner_fault := cal_corner_fault (P := P) (w := w) (base := base) F_corner_fault g_corner_fault fx c_need_table c_cycle_told c_turn_after
  have c_cycle_table := cal_cycle_table (P := P) (w := w) (base := base) F_cycle_table g_cycle_table fx c_need_table c_cycle_told
  have c_diagonal := cal_diagonal (P := P) (w := w) (base := base) F_diagonal g_diagonal fx c_need_rule c_diagonal_told
  have c__law_blend := cal__law_blend (P := P) (w := w) (base := base) F__law_blend g__law_blend fx
  have c__law_take := cal__law_take (P := P) (w := w) (base := base) F__law_take g__law_take fx c__law_blend
  have c__law_pick := cal__law_pick (P := P) (w := w) (base := base) F__law_pick g__law_pick fx c__law_take
  have c__law_shuffled := cal__law_shuffled (P := P) (w := w) (base := base) F__law_shuffled g__law_shuffled fx c__law_take
  have c__law_same := cal__law_same (P := P) (w := w) (base := base) F__law_same g__law_same fx
  have c__law_undone := cal__law_undone (P := P) (w := w) (base := base) F__law_undone g__law_undone fx
  have c__law_behind := cal__law_behind (P := P) (w := w) (base := base) F__law_behind g__law_behind fx
  have c__law_rows := cal__law_rows (P := P) (w := w) (base := base) F__law_rows g__law_rows fx
  have c__law_turns := cal__law_turns (P := P) (w := w) (base := base) F__law_turns g__law_turns fx
  have c__law_renamed := cal__law_renamed (P := P) (w := w) (base := base) F__law_renamed g__law_renamed fx c__law_undone
  have c__law_namings := cal__law_namings (P := P) (w := w) (base := base) F__law_namings g__law_namings fx c__law_turns c__law_renamed
  have c__law_beside := cal__law_beside (P := P) (w := w) (base := base) F__law_beside g__law_beside fx c__law_pick c__law_namings
  have c__law_small := cal__law_small (P := P) (w := w) (base := base) F__law_small g__law_small fx c__law_pick
  have c__law_rule := cal__law_rule (P := P) (w := w) (base := base) F__law_rule g__law_rule fx c__law_small c__law_take c__law_beside c__law_renamed c__law_shuffled
  have c__law_table := cal__law_table (P := P) (w := w) (base := base) F__law_table g__law_table fx c__law_shuffled
  have c__law_own := cal__law_own (P := P) (w := w) (base := base) F__law_own g__law_own fx
  have c__law_unfair := cal__law_unfair (P := P) (w := w) (base := base) F__law_unfair g__law_unfair fx c__law_pick c__law_renamed c__law_shuffled
  have c__law_some_table := cal__law_some_table (P := P) (w := w) (base := base) F__law_some_table g__law_some_table fx c__law_take c__law_unfair c__law_table c__law_rule
  have c__law_corner := cal__law_corner (P := P) (w := w) (base := base) F__law_corner g__law_corner fx c__law_rows c__law_behind
  exact ok_law F_law fx rfl (by decide) (He.ba c.more).1 TB cb c__law_some_table c__law_undone c__law_same c__law_corner c_corner_fault c_cycle_table c__law_rows c_table_fault c__law_own c_diagonal c_meet c__law_pick ld
end MK04
open PySem PySem.W PySem.Calls PyProof.Rows
theorem holds_of (ld : MK04.LawD) : PySem.Challenge.rw_meeteither_k04_whole_cycle_tables_and_co.Holds := by
  w_on; o_law
  refine HandSHeadRun.head_any (r := OpenLaw.row PySem.Challenge.rw_meeteither_k04_whole_cycle_tables_and_co) (q := view (OpenLaw.row PySem.Challenge.rw_meeteither_k04_whole_cycle_tables_and_co).prog [53]) (H := MK04.hk) (ob := MK04.ob) (M := 4000) (loose := MK04.looseL) (d := HandSHeadRun.topDef (OpenLaw.row PySem.Challenge.rw_meeteither_k04_whole_cycle_tables_and_co).prog 53) (kwd := []) MK04.ob_eq
    (by kernel_rfl) (fun s => by kernel_rfl) MK04.run (by kernel_rfl) (by kernel_rfl) (by kernel_rfl) (by rfl) (by first | assumption | decide +kernel) (by decide +kernel) ⟨rfl, rfl, rfl, rfl, rfl, by decide +kernel⟩ ?hw ?hc
  case hw => w_witness2
  case hc =>
    refine MT.walk_ofG (l := PySem.Challenge.rw_meeteither_k04_whole_cycle_tables_and_co) (k := 10) (x := "script") rfl (by kernel_rfl) ⟨rfl, by decide, by decide⟩ ?F
    intro w mg fa h Y G hmg0
    obtain ⟨K, KX, c⟩ := Y
    have hmg : mg ("law" : PySem.Str) = some (.ref fa) := by
      have e : (HandSHeadRun.topDef (OpenLaw.row PySem.Challenge.rw_meeteither_k04_whole_cycle_tables_and_co).prog 53).name = ("law" : PySem.Str) := by kernel_rfl
      rw [← e]
      exact hmg0
    obtain ⟨fd, hb, hF⟩ := MK04.facts (P := (PySem.Challenge.rw_meeteither_k04_whole_cycle_tables_and_co).prog) (w := w) ld (by rfl) (by decide +kernel) KX G hmg c
    refine ⟨K, fd, MK04.tfL.map (He.cT K), MT.tabT K MK04.tfL, KX, hb, fun p hp => ?_, fun p hp => ?_, fun p hp => ?_, fun p hp => ?_, hF⟩
    · obtain ⟨q, hq, e⟩ := List.mem_map.mp hp
      exact ⟨_, List.mem_map.mpr ⟨q, hq, rfl⟩, by rw [← e]⟩
    · obtain ⟨q, hq, e⟩ := List.mem_map.mp hp
      rw [← e]; exact c.empty q hq
    · obtain ⟨q, hq, e⟩ := List.mem_map.mp hp
      rw [← e]; exact c.out q hq
    · obtain ⟨q, hq, e⟩ := List.mem_map.mp hp
      rw [← e]; exact codeHd_of_K KX (c.hd q hq)
end

section
set_option maxRecDepth 100000
set_option maxHeartbeats 4000000
set_option pp.maxSteps 400
namespace MK04
open PySem PySem.Spec PyProof.Rows L2 MT MF
-- LA.lean
-- GA.lean
def dI (l : List Int) : PyData := .tuple (l.map PyData.int)
def dT (tb : List (List Int)) : PyData := .tuple (tb.map dI)
theorem ixN_rg {n : Nat} {i : Int} (h : Rg n i) : ixN n i = some i.toNat := by
  unfold ixN; rw [if_pos h.1, if_pos h.2]
theorem atI_int {l : List Int} {i : Int} (h : Rg l.length i) : atI (l.map PyData.int) i = some (.int (ap l i)) := by
  obtain ⟨k, rfl, hk⟩ := h.nat
  unfold atI
  rw [List.length_map, ixN_rg h, ap_get hk]
  simp [hk]
theorem atI_tab {tb : List (List Int)} {i : Int} (h : Rg tb.length i) : atI (tb.map dI) i = some (dI (rw_ tb i)) := by
  obtain ⟨k, rfl, hk⟩ := h.nat
  unfold atI rw_
  rw [List.length_map, ixN_rg h]
  simp [hk]
theorem shL : ∀ l : List Int, PyData.canLayAll0 (l.map PyData.int) = true ∧ PyData.depthAll (l.map PyData.int) = 0
  | [] => by simp [PyData.canLayAll0, PyData.depthAll]
  | a :: l => by simp [PyData.canLayAll0, PyData.depthAll, PyData.canLay0, PyData.depth, shL l]
theorem shI (l : List Int) : SeqAt.shaped (dI l) = true := by simp [SeqAt.shaped, dI, PyData.canLay0, PyData.depth, shL l]
theorem shN (n : Int) : SeqAt.shaped (.int n) = true := sh_int n
theorem eqvL : ∀ a b : List Int, PyData.eqvAll (a.map PyData.int) (b.map PyData.int) = decide (a = b)
  | [], [] => by simp [PyData.eqvAll]
  | [], b :: bs => by simp [PyData.eqvAll]
  | a :: as, [] => by simp [PyData.eqvAll]
  | a :: as, b :: bs => by
    simp only [List.map_cons, PyData.eqvAll, eqvL as bs, PyData.eqv]
    by_cases h : a = b <;> by_cases g : as = bs <;> simp [h, g]
theorem eqvI (a b : List Int) : PyData.eqv (dI a) (dI b) = decide (a = b) := by simp only [dI, PyData.eqv]; exact eqvL a b
theorem eqvN (a b : Int) : PyData.eqv (.int a) (.int b) = decide (a = b) := eqv_int a b
section
variable {P : PyData → Prop} {er : Exn → Prop}
theorem w_is_number {x : Int} (h : P (.bool true)) : sp_is_number [.d (.int x)] P er := h
theorem w_is_between {x a b : Int} (h : P (.bool (decide (a ≤ x ∧ x ≤ b)))) : sp_is_between [.d (.int x), .d (.int a), .d (.int b)] P er := by
  refine ⟨rfl, w_is_number ?_⟩
  show if decide (a ≤ x) = true then P (.bool (decide (x ≤ b))) else P (.bool false)
  by_cases h1 : a ≤ x
  · rw [if_pos (decide_eq_true h1)]
    by_cases h2 : x ≤ b
    · rw [decide_eq_true h2]; rwa [decide_eq_true ⟨h1, h2⟩] at h
    · rw [decide_eq_false h2]; rwa [decide_eq_false fun z => h2 z.2] at h
  · rw [decide_eq_false h1, if_neg (by decide)]
    rwa [decide_eq_false fun z => h1 z.1] at h
theorem w_between {x a b : Int} (hx : a ≤ x ∧ x ≤ b) (h : P (.bool true)) : sp_is_between [.d (.int x), .d (.int a), .d (.int b)] P er := w_is_between (by rw [decide_eq_true hx]; exact h)
theorem w_is_tuple {ds : List PyData} {n : Int} (h : P (.bool (decide ((ds.length : Int) = n)))) : sp_is_tuple [.d (.tuple ds), .d (.int n)] P er := by
  refine ⟨sh_int _, sh_int _, ?_⟩
  rw [eqv_int]
  exact h
theorem allTrue : ∀ {α : Type} (l : List α), boolsOf (l.map fun _ => PyData.bool true) = some (l.map fun _ => true)
  | _, [] => rfl
  | _, _ :: l => by simp only [List.map_cons, boolsOf, allTrue l]; rfl
theorem all_id {α : Type} (l : List α) : (l.map fun _ => true).all _root_.id = true := by induction l <;> simp_all
theorem w_is_turn_told {n : Nat} {l : List Int} (h : Pm n l) (hP : P (.bool true)) : sp_is_turn_told [.d (.int n), .d (dI l)] P er := by
  refine ⟨rfl, w_is_tuple ?_⟩
  rw [List.length_map, h.len, decide_eq_true rfl]
  refine lcW_map (fun _ => .bool true) _ ?_ _ ?_
  · intro x hx
    obtain ⟨i, hi, rfl⟩ := List.mem_map.mp hx
    refine ⟨_, rfl, fun P hp => ⟨rfl, w_between ?_ hp⟩⟩
    have := h.mem i hi
    exact ⟨this.1, by have := this.2; omega⟩
  · refine ⟨_, allTrue _, ?_⟩
    rw [all_id]
    refine lcW_map _root_.id _ ?_ _ ?_
    · intro x hx
      obtain ⟨i, hi, rfl⟩ := List.mem_map.mp hx
      exact ⟨_, rfl, fun P hp => ⟨⟨_, rfl⟩, hp⟩⟩
    · rw [List.map_id]
      refine ⟨l, intsOf_map l, sh_int _, sh_int _, ?_⟩
      rw [keysU_nd l [] h.nd, eqv_int]
      show P (.bool (decide (((l.length : Nat) : Int) = n)))
      rw [h.len, decide_eq_true rfl]
      exact hP
theorem row_mem {n : Nat} {r : List (List Int)} (R : Rule n r) {x : List Int} (h : x ∈ r) : Pm n x := by
  obtain ⟨k, hk, rfl⟩ := List.getElem_of_mem h
  have := R.row k (Rg.of (by rw [← R.len]; exact hk))
  unfold rw_ at this
  rw [Int.toNat_natCast, List.getD_eq_getElem?_getD, List.getElem?_eq_getElem hk] at this
  exact this
theorem w_is_table_told {n : Nat} {r : List (List Int)} (R : Rule n r) (h1 : 1 ≤ n) (h2 : n ≤ 24) (hP : P (.bool true)) : sp_is_table_told [.d (dT r)] P er := by
  have hl : (((r.map dI).length : Nat) : Int) = n := by rw [List.length_map, R.len]
  show if decide ((1 : Int) ≤ (((r.map dI).length : Nat) : Int)) = true then _ else _
  rw [hl, decide_eq_true (by omega : (1 : Int) ≤ n), if_pos rfl]
  show if (!decide ((n : Int) ≤ 24)) = true then _ else _
  rw [decide_eq_true (by omega : (n : Int) ≤ 24)]
  refine lcW_map (fun _ => .bool true) _ ?_ _ ?_
  · intro x hx
    obtain ⟨i, hi, rfl⟩ := List.mem_map.mp hx
    refine ⟨_, rfl, fun P hp => ⟨rfl, ?_⟩⟩
    rw [hl]
    exact w_is_turn_told (row_mem R hi) hp
  · refine ⟨_, allTrue _, ?_⟩
    rw [all_id]
    exact hP
theorem rep_zero (n : Nat) : repD [PyData.int 0] n = (List.replicate n (0 : Int)).map PyData.int := by
  unfold repD
  rw [List.map_replicate]
  induction n with
  | zero => rfl
  | succ n ih => rw [List.replicate_succ, List.replicate_succ, List.flatten_cons, ih]; rfl
theorem enum_get {l : List Int} {i : Nat} {x : PyData} (h : (enumD 0 (l.map PyData.int))[i]? = some x) : i < l.length ∧ x = .tuple [.int (i : Nat), .int (ap l i)] := by
  have hi : i < l.length := by
    have := (List.getElem?_eq_some_iff.mp h).1
    rwa [enumD_length, List.length_map] at this
  have e : (l.map PyData.int)[i]? = some (.int (ap l i)) := by rw [ap_get hi]; simp [hi]
  rw [enumD_get e] at h
  refine ⟨hi, ?_⟩
  simpa using h.symm
theorem scatter_step {n : Nat} {q : List Int} (h : Pm n q) {val : Int → PyData} {F : List PyData} (hF : F.length = n) {i : Nat} (hi : i < n) (hv : ∀ y : Nat, y < i → F[(ap q y).toNat]? = some (val y)) : ∀ y : Nat, y < i + 1 → (F.set (ap q i).toNat (val i))[(ap q y).toNat]? = some (val y) := fun y hy => by
  have ri := h.ap_mem (Rg.of hi)
  by_cases e : y = i
  · subst e
    rw [List.getElem?_set_self (by rw [hF]; have := ri.1; have := ri.2; omega)]
  · have ry := h.ap_mem (Rg.of (show y < n by omega))
    rw [List.getElem?_set_ne, hv y (by omega)]
    intro z
    have : ap q i = ap q y := by have := ri.1; have := ry.1; omega
    have := h.inj (Rg.of hi) (Rg.of (show y < n by omega)) this
    omega
theorem scatter_end {n : Nat} {q : List Int} (h : Pm n q) {val : Int → PyData} {F : List PyData} (hF : F.length = n) (hv : ∀ y : Nat, y < n → F[(ap q y).toNat]? = some (val y)) : F = (rng n).map fun j => val (ap (bk q) j) := by
  refine List.ext_getElem? fun k => ?_
  by_cases hk : k < n
  · obtain ⟨y, hy, hyn⟩ := (h.bk_mem (Rg.of hk)).nat
    have e := h.ab (Rg.of hk)
    rw [hy] at e
    have := hv y hyn
    rw [e, Int.toNat_natCast] at this
    rw [this]
    simp [rng, hk, hy]
  · rw [List.getElem?_eq_none (by omega), List.getElem?_eq_none (by simp [rng_len]; omega)]
theorem map_bk {n : Nat} {l : List Int} (h : Pm n l) : ((rng n).map fun j => PyData.int (ap (bk l) j)) = (bk l).map PyData.int := by
  have := map_ap h.bk.len
  conv => rhs; rw [← this]
  rw [List.map_map]; rfl
theorem back_loop {n : Nat} {l : List Int} (h : Pm n l) {E : DE} {s2 s3 : MT.Slot} (k : ∀ s2 s3, E.nx [.d (dI l), .l ((bk l).map PyData.int), s2, s3]) :
    forW (tgT ((tg1 2) :: (tg1 3) :: [])) (dPut 1 (dNm 2) (dNm 3)) (enumD 0 (l.map PyData.int)) E [.d (dI l), .l (repD [.int 0] n), s2, s3] := by
  refine forW_inv (fun i env => ∃ (F : List PyData) (s2 s3 : MT.Slot), env = [.d (dI l), .l F, s2, s3] ∧ F.length = n ∧ ∀ y : Nat, y < i → F[(ap l y).toNat]? = some (.int y)) ⟨_, _, _, rfl, by rw [rep_zero]; simp, fun y h => absurd h (Nat.not_lt_zero _)⟩ ?_ ?_
  · rintro i x env nx hx ⟨F, s2, s3, rfl, hF, hv⟩ hnx
    obtain ⟨hi, rfl⟩ := enum_get hx
    rw [h.len] at hi
    have hr := h.ap_mem (Rg.of hi)
    refine ⟨_, rfl, _, rfl, _, (ap l i).toNat, rfl, by rw [hF]; exact ixN_rg hr, ?_⟩
    exact hnx _ ⟨_, _, _, rfl, by rw [List.length_set]; exact hF, scatter_step (val := fun y => .int y) h hF hi hv⟩
  · rintro env ⟨F, s2, s3, rfl, hF, hv⟩
    rw [enumD_length, List.length_map, h.len] at hv
    rw [scatter_end (val := fun y => .int y) h hF hv, map_bk h]
    exact k s2 s3
theorem rep_ok {n : Nat} (h : n ≤ 1000000) : -(2 ^ 63) ≤ (n : Int) ∧ (n : Int) < 2 ^ 63 ∧ 1 * (n : Int).toNat ≤ sizeLine := ⟨by omega, by omega, by rw [sizeLine_eq]; omega⟩
theorem one_line : ([] : List PyData).length + 1 ≤ sizeLine := by decide
theorem w_back (F : WS) (hF : F = (dSeq (dOwn 1 (fBin repOf (dLst (dCons (dC (.int 0)) dNil)) (dUn oLen (dNm 0)))) (dSeq (dFor (dEnum (dNm 0)) (tgT ((tg1 2) :: (tg1 3) :: [])) (dPut 1 (dNm 2) (dNm 3))) (dRet (dUn oTuple (dOw 1)))))) {n : Nat} {l : List Int} (h : Pm n l) (hn : n ≤ 1000000) (hP : P (dI (bk l))) : bodyW 4 F [.d (dI l)] P er := by
  subst hF
  have hl : (l.map PyData.int).length = n := by rw [List.length_map, h.len]
  have hq : (l.map PyData.int).length ≤ 1000000 := by rw [hl]; exact hn
  obtain ⟨r1, r2, r3⟩ := rep_ok hq
  refine ⟨by decide, r1, r2, r3, ?_⟩
  show forW _ _ _ _ [.d (dI l), .l (repD [.int 0] (((l.map PyData.int).length : Nat) : Int).toNat), .un, .un]
  rw [Int.toNat_natCast, hl]
  exact back_loop h fun s2 s3 => hP
theorem w_turn_back {n : Nat} {l : List Int} (h : Pm n l) (hn : n ≤ 1000000) (hP : P (dI (bk l))) : sp_turn_back [.d (dI l)] P er := w_back _ rfl h hn hP
theorem lc_rows {el : List MT.Slot → W PyData} {env : List MT.Slot} {i : Nat} {E : Exn → Prop} {g : List Int → PyData} : ∀ (r : List (List Int)), (∀ x ∈ r, ∀ P, P (g x) → el (env.set i (.d (dI x))) P E) → ∀ P, P (r.map g) → lcW (tg1 i) bYes el env (r.map dI) P E
  | [], _, P, hp => hp
  | x :: r, h, P, hp => ⟨_, rfl, h x List.mem_cons_self _ (lc_rows r (fun y hy => h y (List.mem_cons_of_mem _ hy)) _ hp)⟩
theorem lc_ints {el : List MT.Slot → W PyData} {env : List MT.Slot} {i : Nat} {E : Exn → Prop} {g : Int → PyData} : ∀ (r : List Int), (∀ x ∈ r, ∀ P, P (g x) → el (env.set i (.d (.int x))) P E) → ∀ P, P (r.map g) → lcW (tg1 i) bYes el env (r.map PyData.int) P E
  | [], _, P, hp => hp
  | x :: r, h, P, hp => ⟨_, rfl, h x List.mem_cons_self _ (lc_ints r (fun y hy => h y (List.mem_cons_of_mem _ hy)) _ hp)⟩
theorem w_cycle_told {n : Nat} {r : List (List Int)} (R : Rule n r) (hn : n ≤ 1000000) (hP : P (dT (r.map bk))) : sp_cycle_told [.d (dT r)] P er := by
  refine lc_rows (g := fun x => dI (bk x)) r (fun x hx P hp => ⟨rfl, w_turn_back (row_mem R hx) hn hp⟩) _ ?_
  have e : (r.map fun x => dI (bk x)) = (r.map bk).map dI := by rw [List.map_map]; rfl
  show P (.tuple (r.map fun x => dI (bk x)))
  rw [e]
  exact hP
theorem rw_map {n : Nat} {r : List (List Int)} (R : Rule n r) {x : Int} (hx : Rg n x) : rw_ (r.map bk) x = bk (rw_ r x) := by
  obtain ⟨k, rfl, hk⟩ := hx.nat
  have hk' : k < r.length := by rw [R.len]; exact hk
  unfold rw_
  simp [hk']
theorem rgD_rng (n : Nat) : rgD 0 n = (rng n).map PyData.int := by
  unfold rgD rng
  rw [Int.sub_zero, Int.toNat_natCast, List.map_map]
  refine List.map_congr_left fun i _ => ?_
  simp
theorem rng_get {n i : Nat} {x : PyData} (h : ((rng n).map PyData.int)[i]? = some x) : i < n ∧ x = .int (i : Nat) := by
  have hi : i < n := by have := (List.getElem?_eq_some_iff.mp h).1; rwa [List.length_map, rng_len] at this
  refine ⟨hi, ?_⟩
  rw [List.getElem?_map] at h
  have e : (rng n)[i]? = some (i : Int) := by
    unfold rng
    rw [List.getElem?_map, List.getElem?_range hi]; rfl
  rw [e] at h
  simpa using h.symm
theorem rng1 {n : Nat} (h : n ≤ 1000000) : -(2 ^ 62) ≤ (n : Int) ∧ (n : Int) ≤ 16777216 := ⟨by omega, by omega⟩
theorem w_is_fair {n : Nat} {r : List (List Int)} (R : Rule n r) (hn : n ≤ 1000000) (hP : P (.bool true)) : sp_is_fair [.d (dT r)] P er := by
  obtain rfl : n = (r.map dI).length := by rw [List.length_map, R.len]
  have hl2 : (r.map bk).length = (r.map dI).length := by rw [List.length_map, List.length_map]
  refine ⟨rfl, w_cycle_told R hn ⟨rfl, ?_⟩⟩
  obtain ⟨b1, b2⟩ := rng1 hn
  refine ⟨b1, b2, ?_⟩
  rw [rgD_rng]
  -- a row
  have cyr : ∀ {x : Int}, Rg (r.map dI).length x → atI ((r.map bk).map dI) x = some (dI (bk (rw_ r x))) := fun {x} hx => by
    rw [atI_tab (by rw [hl2]; exact hx), rw_map R hx]
  have cel : ∀ {x y : Int}, Rg (r.map dI).length x → Rg (r.map dI).length y → atI ((bk (rw_ r x)).map PyData.int) y = some (.int (cyc r x y)) := fun {x y} hx hy => atI_int (by rw [(R.row x hx).bk.len]; exact hy)
  refine forW_inv (fun i env => ∃ s3 s4 s5 s6 s7, env = [.d (dT r), .d (dT (r.map bk)), .d (.int ((r.map dI).length : Nat)), s3, s4, s5, s6, s7]) ⟨_, _, _, _, _, rfl⟩ ?_ ?_
  · rintro i x env nx hx ⟨s3, s4, s5, s6, s7, rfl⟩ hnx
    obtain ⟨hi, rfl⟩ := rng_get hx
    obtain ⟨b1, b2⟩ := rng1 (show i ≤ 1000000 by omega)
    refine ⟨_, rfl, b1, b2, ?_⟩
    rw [rgD_rng]
    refine forW_inv (fun j env => ∃ s4 s5 s6 s7, env = [.d (dT r), .d (dT (r.map bk)), .d (.int ((r.map dI).length : Nat)), .d (.int (i : Nat)), s4, s5, s6, s7]) ⟨_, _, _, _, rfl⟩ ?_ ?_
    · rintro j y env nx2 hy ⟨s4, s5, s6, s7, rfl⟩ hnx2
      obtain ⟨hj, rfl⟩ := rng_get hy
      have hX : Rg (r.map dI).length (i : Int) := Rg.of hi
      have hY : Rg (r.map dI).length (j : Int) := Rg.of (by omega)
      have hA := R.cy hX hY
      have hB := R.cy hY hX
      refine ⟨_, rfl, _, cyr hX, _, cel hX hY, _, cyr hA, _, cyr hY, _, cel hY hX, _, cyr hB, rfl, ?_⟩
      obtain ⟨b1, b2⟩ := rng1 hn
      refine ⟨b1, b2, ?_⟩
      rw [rgD_rng]
      refine lc_ints (g := fun _ => .bool true) (rng (r.map dI).length) (fun z hz P hp => ?_) _ ⟨_, allTrue _, ?_⟩
      · have hz := mem_rng.mp hz
        refine ⟨_, cyr hX, _, cel hX hz, _, cel hA (R.cy hX hz), _, cyr hY, _, cel hY hz, _, cel hB (R.cy hY hz), sh_int _, sh_int _, ?_⟩
        rw [eqv_int, R.fair _ _ _ hX hY hz, decide_eq_true rfl]
        exact hp
      · rw [all_id]
        exact hnx2 _ ⟨_, _, _, _, rfl⟩
    · rintro env ⟨s4, s5, s6, s7, rfl⟩
      exact hnx _ ⟨_, _, _, _, _, rfl⟩
  · rintro env ⟨s3, s4, s5, s6, s7, rfl⟩
    exact hP
theorem w_need_rule {n : Nat} {r : List (List Int)} (R : Rule n r) (h1 : 1 ≤ n) (h2 : n ≤ 24) (hP : P .none) : sp_need_rule [.d (dT r)] P er :=
  ⟨rfl, rfl, w_is_table_told R h1 h2 ⟨rfl, w_is_fair R (by omega) hP⟩⟩
end
-- GB.lean
section
variable {P : PyData → Prop} {er : Exn → Prop}
theorem map_cmp (f g : List Int) : (g.map fun x => PyData.int (ap f x)) = (cmp f g).map PyData.int := by unfold cmp; rw [List.map_map]; rfl
theorem w_aft (F : WS) (hF : F = dRet (dUn oTuple (dLc (dItems (dNm 1)) (tg1 2) bYes (dBin oIx (dNm 0) (dNm 2)) [2]))) {f g : List Int} (h : ∀ x ∈ g, Rg f.length x) (hP : P (dI (cmp f g))) : bodyW 3 F [.d (dI f), .d (dI g)] P er := by
  subst hF
  refine lc_ints (g := fun x => .int (ap f x)) g (fun x hx P hp => ⟨_, atI_int (h x hx), hp⟩) _ ?_
  show P (.tuple (g.map fun x => .int (ap f x)))
  rw [map_cmp]
  exact hP
theorem flat_ints : ∀ l : List Int, (l.map PyData.int).all isFlat = true
  | [] => rfl
  | a :: l => by simp only [List.map_cons, List.all_cons, flat_ints l]; rfl
theorem idx_int {d : Int} : ∀ {l : List Int}, d ∈ l → idxD (.int d) (l.map PyData.int) = some (l.idxOf d)
  | a :: l, h => by
    simp only [List.map_cons, idxD, eqv_int]
    by_cases e : a = d
    · subst e; simp
    · rw [if_neg (by simpa using e), idx_int (l := l) (by
        rcases List.mem_cons.mp h with h | h
        · exact absurd h.symm e
        · exact h), List.idxOf_cons, show (a == d) = false by simpa using e]
      rfl
theorem _root_.MF.Pm.mm {n : Nat} {f g : List Int} (hf : Pm n f) (hg : Pm n g) : ∀ x ∈ g, Rg f.length x := fun x hx => by rw [hf.len]; exact hg.mem x hx
theorem atR {n : Nat} {r : List (List Int)} (R : Rule n r) {x : Int} (hx : Rg n x) : atI (r.map dI) x = some (dI (rw_ r x)) := atI_tab (by rw [R.len]; exact hx)
theorem lc_sel {c : List MT.Slot → W Bool} {el : List MT.Slot → W PyData} {env : List MT.Slot} {i : Nat} {E : Exn → Prop} (sel : Int → Bool) {g : Int → PyData} : ∀ (r : List Int), (∀ x ∈ r, (∀ P, P (sel x) → c (env.set i (.d (.int x))) P E) ∧ (sel x = true → ∀ P, P (g x) → el (env.set i (.d (.int x))) P E)) → ∀ P, P ((r.filter sel).map g) → lcW (tg1 i) c el env (r.map PyData.int) P E
  | [], _, P, hp => hp
  | x :: r, h, P, hp => by
    obtain ⟨h1, h2⟩ := h x List.mem_cons_self
    have hr := fun y hy => h y (List.mem_cons_of_mem _ hy)
    refine ⟨_, rfl, h1 _ ?_⟩
    by_cases s : sel x = true
    · rw [if_pos s]
      refine h2 s _ (lc_sel sel r hr _ ?_)
      rw [List.filter_cons_of_pos s] at hp
      exact hp
    · rw [if_neg s]
      rw [List.filter_cons_of_neg s] at hp
      exact lc_sel sel r hr _ hp
theorem atI_head {l : List Int} (h : l ≠ []) : atI (l.map PyData.int) 0 = some (.int (l.headD 0)) := by
  cases l with
  | nil => exact absurd rfl h
  | cons a l =>
    unfold atI
    rw [ixN_rg ⟨by omega, by simp⟩]
    rfl
end
-- GC.lean
section
variable {P : PyData → Prop} {er : Exn → Prop}
theorem abs_eq (m : Int) : (if m < 0 then -m else m) = (m.natAbs : Int) := by split <;> omega
def stp (n : Nat) (r : List (List Int)) (d m : Int) : List Int → List Int := if 0 ≤ m then fun f => stF r f d else fun f => bkS n r f d
theorem stZ_eq (n : Nat) (r : List (List Int)) (d m : Int) (f : List Int) : stZ n r d m f = itr (stp n r d m) m.natAbs f := by
  unfold stZ stp
  by_cases h : 0 ≤ m
  · rw [if_pos h, if_pos h]
  · rw [if_neg h, if_neg h]
theorem cm_stp {n : Nat} {r : List (List Int)} (R : Rule n r) {d : Int} (hd : Rg n d) (m : Int) : Cm n r (stp n r d m) := by
  unfold stp
  by_cases h : 0 ≤ m
  · rw [if_pos h]; exact R.cmF hd
  · rw [if_neg h]; exact R.cmB hd
def frs (T : List Int → List Int) (f : List Int) (k : Nat) : List PyData := (List.range (k + 1)).map fun j => dI (itr T j f)
theorem frs_len {T : List Int → List Int} {f : List Int} {k : Nat} : (frs T f k).length = k + 1 := by simp [frs]
theorem frs_at {T : List Int → List Int} {f : List Int} {k j : Nat} (h : j ≤ k) : atI (frs T f k) (j : Int) = some (dI (itr T j f)) := by
  unfold atI
  rw [frs_len, ixN_rg (Rg.of (by omega)), Int.toNat_natCast]
  show ((List.range (k + 1)).map _)[j]? = _
  rw [List.getElem?_map, List.getElem?_range (by omega)]; rfl
theorem frs_last {T : List Int → List Int} {f : List Int} {k : Nat} : atI (frs T f k) (-1) = some (dI (itr T k f)) := by
  unfold atI ixN
  rw [frs_len, if_neg (by omega), if_pos (by omega)]
  have e : (-1 + ((k + 1 : Nat) : Int)).toNat = k := by omega
  rw [e]
  simp [frs]
theorem frs_app {T : List Int → List Int} {f : List Int} {k : Nat} : frs T f k ++ [dI (itr T (k + 1) f)] = frs T f (k + 1) := by
  unfold frs
  rw [List.range_succ (n := k + 1), List.map_append]; rfl
theorem itr_add {T : List Int → List Int} {f : List Int} (a : Nat) : ∀ b, itr T (b + a) f = itr T b (itr T a f)
  | 0 => by rw [Nat.zero_add]; rfl
  | b + 1 => by rw [Nat.add_right_comm]; show T _ = T _; rw [itr_add a b]
theorem itr_mod {T : List Int → List Int} {f : List Int} {p : Nat} (h : itr T p f = f) : ∀ m, itr T m f = itr T (m % p) f := fun m => by
  have go : ∀ q k, itr T (k + p * q) f = itr T k f := fun q => by
    induction q with
    | zero => intro k; simp
    | succ q ih => intro k; rw [Nat.mul_succ, ← Nat.add_assoc, itr_add, h, ih]
  have := go (m / p) (m % p)
  rwa [Nat.mod_add_div] at this
theorem per_stp {n : Nat} {r : List (List Int)} (R : Rule n r) {d : Int} (hd : Rg n d) (m : Int) : ∃ p, 0 < p ∧ p ≤ n ^ n ∧ ∀ f, Rch n r f → itr (stp n r d m) p f = f := by
  unfold stp
  by_cases h : 0 ≤ m
  · rw [if_pos h]
    exact R.per (R.cmF hd) fun f g hf hg e => R.inj hd hf hg e
  · rw [if_neg h]
    refine R.per (R.cmB hd) fun f g hf hg e => ?_
    have e : bkS n r f d = bkS n r g d := e
    rw [← (R.bks hf hd).2, e, (R.bks hg hd).2]
end
-- GD.lean
section
variable {P : PyData → Prop} {er : Exn → Prop}
theorem rng_succ (k : Nat) : rng (k + 1) = rng k ++ [(k : Int)] := by unfold rng; rw [List.range_succ, List.map_append]; rfl
def Big (v : List Int) : Prop := ∀ x ∈ v, x.natAbs ≤ 10 ^ 30
def FTk (n : Nat) (r : List (List Int)) (v : List Int) (k : Nat) : List Int := (rng k).foldl (fun f i => stZ n r i (ap v i) f) (rng n)
theorem FTk_succ {n : Nat} {r : List (List Int)} {v : List Int} {k : Nat} : FTk n r v (k + 1) = stZ n r k (ap v k) (FTk n r v k) := by
  unfold FTk
  rw [rng_succ, List.foldl_append]; rfl
theorem FTk_rch {n : Nat} {r : List (List Int)} (R : Rule n r) (v : List Int) {k : Nat} (hk : k ≤ n) : Rch n r (FTk n r v k) := fold_rch (fun i hi => R.cmZ (by have := mem_rng.mp hi; exact ⟨this.1, by have := this.2; omega⟩) _) (Rch.id r)
theorem rgOk0 {n : Nat} (hn : n ≤ 1000000) : RgOk 0 (n : Int) := ⟨by omega, by omega, by omega, by omega, by rw [Int.sub_zero, Int.toNat_natCast]; exact Nat.le_trans hn (by decide)⟩
end
-- GF.lean
section
variable {P : PyData → Prop} {er : Exn → Prop}
theorem w_take {n : Int} (h1 : 0 < n) (h2 : n < 1000000) (hP : ∀ k : Int, 0 ≤ k → k < n → P (.int k)) : sp__law_take [.dr, .d (.int n)] P er := ⟨n, rfl, h1, h2, hP⟩
theorem w_pick {ds : List PyData} (h1 : ds ≠ []) (h2 : ds.length < 1000000) (hP : ∀ d ∈ ds, P d) : sp__law_pick [.dr, .d (.list ds)] P er := by
  have h0 : 0 < ds.length := List.length_pos_iff.mpr h1
  refine ⟨rfl, rfl, w_take (by omega) (by omega) fun k k1 k2 => ?_⟩
  have hr : Rg ds.length k := ⟨k1, k2⟩
  obtain ⟨j, rfl, hj⟩ := hr.nat
  refine ⟨ds[j], ?_, hP _ (List.getElem_mem hj)⟩
  unfold atI
  rw [ixN_rg hr]
  simp [hj]
theorem textFrom_le : ∀ (ts : List Str) (k : Nat) (acc : Str), (textFrom k acc ts).length ≤ acc.length + piled ts
  | [], k, acc => by show acc.length ≤ _; omega
  | t :: r, k, acc => by
    have := textFrom_le r (k + 1) (acc ++ (if k > 0 then ", " else "" : String) ++ t)
    show (textFrom (k + 1) (acc ++ (if k > 0 then ", " else "" : String) ++ t) r).length ≤ _
    rw [piled_cons]
    have h : (acc ++ (if k > 0 then ", " else "" : String) ++ t : Str).length ≤ acc.length + 2 + t.length := by
      rw [Str.length_append, Str.length_append]
      split
      · show _ + 2 + _ ≤ _; omega
      · show _ + 0 + _ ≤ _; omega
    omega
theorem ofS_len (x : String) : (Str.ofString x).length = x.length := PySem.ofString_length x
theorem shownL : ∀ (v : List Int), (∀ x ∈ v, x.natAbs < 10 ^ 31) → piled (PyData.shownAll (v.map PyData.int)) ≤ 34 * v.length ∧ PyData.showableAll (v.map PyData.int) = true ∧ PyData.hasDictAll (v.map PyData.int) = false ∧ (PyData.shownAll (v.map PyData.int)).length = v.length
  | [], _ => ⟨by simp [PyData.shownAll, piled], by simp [PyData.showableAll], by simp [PyData.hasDictAll], by simp [PyData.shownAll]⟩
  | x :: v, h => by
    obtain ⟨h1, h2, h3, h4⟩ := shownL v fun y hy => h y (List.mem_cons_of_mem _ hy)
    have hx := h x List.mem_cons_self
    have e : (toString x).length ≤ 31 + 1 := int_text_length_le10 (by decide) hx
    have e2 : x.natAbs.log2 < 1920 := by
      have : x.natAbs < 2 ^ 1920 := Nat.lt_of_lt_of_le hx (Nat.le_trans (show 10 ^ 31 ≤ 2 ^ 200 by decide) (Nat.pow_le_pow_right (by decide) (by decide)))
      by_cases z : x.natAbs = 0
      · rw [z]; decide
      · exact (Nat.log2_lt z).mpr this
    refine ⟨?_, ?_, ?_, ?_⟩
    · simp only [List.map_cons, PyData.shownAll, PyData.shown, piled_cons, List.length_cons]
      have e3 : (Str.ofString (toString x)).length ≤ 32 := by rw [ofS_len]; exact e
      have e4 : ((toString x : String) : Str).length ≤ 32 := e3
      omega
    · simp only [List.map_cons, PyData.showableAll, PyData.showable, h2, decide_eq_true e2]; rfl
    · simp only [List.map_cons, PyData.hasDictAll, PyData.hasDict, h3]; rfl
    · simp only [List.map_cons, PyData.shownAll, List.length_cons, h4]
theorem tupT_le (ts : List Str) : (tupleText ts).length ≤ 3 + piled ts := by
  unfold tupleText
  rw [Str.length_append, Str.length_append]
  have h1 : ((if ts.length == 1 then ",)" else ")" : String) : Str).length ≤ 2 := by split <;> decide
  have h2 : ("(" : Str).length = 1 := rfl
  have h3 : (Str.join ", " ts).length ≤ piled ts := by
    by_cases h : ts = []
    · subst h; exact Nat.zero_le _
    · have := join_length_add ts h; omega
  omega
structure Shw (d : PyData) (k : Nat) : Prop where
  a : d.showable = true
  b : d.hasDict = false
  c : d.depth ≤ 60
  l : d.shown.length ≤ k
theorem shw_dI {v : List Int} (h : ∀ x ∈ v, x.natAbs < 10 ^ 31) : Shw (dI v) (3 + 34 * v.length) := by
  obtain ⟨h1, h2, h3, _⟩ := shownL v h
  refine ⟨by simpa [dI, PyData.showable] using h2, by simpa [dI, PyData.hasDict] using h3, by simp [dI, PyData.depth, shL v], ?_⟩
  have := tupT_le (PyData.shownAll (v.map PyData.int))
  simp only [dI, PyData.shown]
  omega
theorem shw_two {d e : PyData} {k m : Nat} (h : Shw d k) (g : Shw e m) (hd : d.depth ≤ 59) (he : e.depth ≤ 59) : Shw (.list [d, e]) (10 + k + m) := by
  refine ⟨by simp [PyData.showable, PyData.showableAll, h.a, g.a], by simp [PyData.hasDict, PyData.hasDictAll, h.b, g.b], ?_, ?_⟩
  · simp only [PyData.depth, PyData.depthAll]
    omega
  · simp only [PyData.shown, PyData.shownAll]
    unfold listText
    have := textFrom_le [d.shown, e.shown] 0 "["
    rw [piled_cons, piled_cons, piled_nil] at this
    rw [Str.length_append]
    have e1 : ("[" : Str).length = 1 := rfl
    have e2 : ("]" : Str).length = 1 := rfl
    have := h.l
    have := g.l
    omega
theorem w_same {d : PyData} {k : Nat} (h : Shw d k) (hk : k ≤ 1000000) (hP : P (.bool true)) : sp__law_same [.d d, .d d] P er := by
  have z : d.shown.length ≤ sizeLine := by have := h.l; rw [sizeLine_eq]; omega
  have c := h.c
  refine ⟨h.a, h.b, by omega, z, h.a, h.b, by omega, z, ?_⟩
  show P (.bool (decide (d.shown = d.shown)))
  rw [decide_eq_true rfl]
  exact hP
end
-- GG.lean
section
variable {P : PyData → Prop} {er : Exn → Prop}
def nxt (n : Nat) (row : List Int) : List (List Int) := ((rng n).filter fun o => !decide (o ∈ row)).map fun o => row ++ [o]
def turnsL (n : Nat) : Nat → List (List Int)
  | 0 => [[]]
  | k + 1 => (turnsL n k).flatMap (nxt n)
theorem nxt_len {n : Nat} {row : List Int} : (nxt n row).length ≤ n := by
  unfold nxt
  rw [List.length_map]
  have := List.length_filter_le (fun o => !decide (o ∈ row)) (rng n)
  rwa [rng_len] at this
theorem flat_le {n : Nat} : ∀ l : List (List Int), (l.flatMap (nxt n)).length ≤ n * l.length
  | [] => by simp
  | x :: l => by
    rw [List.flatMap_cons, List.length_append, List.length_cons, Nat.mul_succ]
    have := flat_le (n := n) l
    have := nxt_len (n := n) (row := x)
    omega
theorem turns_len {n : Nat} : ∀ k, (turnsL n k).length ≤ n ^ k
  | 0 => by simp [turnsL]
  | k + 1 => by
    have := flat_le (n := n) (turnsL n k)
    have h := turns_len (n := n) k
    show ((turnsL n k).flatMap (nxt n)).length ≤ n ^ k * n
    have := Nat.mul_le_mul_left n h
    rw [Nat.mul_comm (n ^ k) n]
    omega
theorem turns_row {n : Nat} : ∀ (k : Nat) (row : List Int), row ∈ turnsL n k → row.length = k
  | 0, row, h => by rw [List.mem_singleton.mp h]; rfl
  | k + 1, row, h => by
    obtain ⟨r0, h0, h1⟩ := List.mem_flatMap.mp h
    obtain ⟨o, _, rfl⟩ := List.mem_map.mp h1
    rw [List.length_append, turns_row k r0 h0]; rfl
theorem any_int (o : Int) : ∀ row : List Int, ((row.map PyData.int).any fun z => PyData.eqv z (.int o)) = decide (o ∈ row)
  | [] => rfl
  | a :: l => by
    rw [List.map_cons, List.any_cons, any_int o l, eqv_int]
    by_cases h : a = o
    · subst h; simp
    · rw [decide_eq_false h, Bool.false_or]
      by_cases g : o ∈ l
      · rw [decide_eq_true g, decide_eq_true (List.mem_cons_of_mem _ g)]
      · rw [decide_eq_false g, decide_eq_false fun z => (List.mem_cons.mp z).elim (fun z => h z.symm) g]
theorem add_loop {i : Nat} {t : TgD} {body : WS} {E : DE} {mk : List PyData → List MT.Slot → List MT.Slot → Prop} {α : Type} (enc : α → PyData) (g : α → List PyData) (L : Nat) (S : α → Prop) (hb : ∀ (x : α) (T : List PyData) (env0 env : List MT.Slot) (nx : List MT.Slot → Prop), S x → mk T env0 env → (T ++ g x).length ≤ L → (∀ env', mk (T ++ g x) env0 env' → nx env') → ∃ env', t (enc x) env = some env' ∧ body ⟨nx, E.rt, E.nx, nx, E.er⟩ env') :
    ∀ (l : List α) (T : List PyData) (env0 env : List MT.Slot), (∀ x ∈ l, S x) → mk T env0 env → (T ++ l.flatMap g).length ≤ L → (∀ env, mk (T ++ l.flatMap g) env0 env → E.nx env) → forW t body (l.map enc) E env
  | [], T, env0, env, _, h, _, k => k env (by rw [List.flatMap_nil, List.append_nil]; exact h)
  | x :: l, T, env0, env, hs, h, hL, k => by
    rw [List.flatMap_cons, ← List.append_assoc] at hL k
    refine hb x T env0 env _ (hs x List.mem_cons_self) h (by rw [List.length_append] at hL; omega) fun env' h' => ?_
    exact add_loop (i := i) enc g L S hb l _ env0 env' (fun y hy => hs y (List.mem_cons_of_mem _ hy)) h' hL k
theorem w_turns {n : Nat} (hn : n ≤ 4) (hP : P (.list ((turnsL n n).map dI))) : sp__law_turns [.d (.int n)] P er := by
  have pw : ∀ k, k ≤ n → (turnsL n k).length ≤ 256 := fun k hk => by
    have h1 := turns_len (n := n) k
    have h2 : n ^ k ≤ 4 ^ k := Nat.pow_le_pow_left hn k
    have h3 : 4 ^ k ≤ 4 ^ 4 := Nat.pow_le_pow_right (by decide) (by omega)
    omega
  obtain ⟨b1, b2⟩ := rng1 (show n ≤ 1000000 by omega)
  refine ⟨by show 0 ≤ sizeLine; decide, by show 1 ≤ sizeLine; decide, b1, b2, ?_⟩
  rw [rgD_rng]
  refine forW_inv (fun k env => ∃ s2 s3 s4 s5, env = [.d (.int n), .d (.list ((turnsL n k).map dI)), s2, s3, s4, s5]) ⟨_, _, _, _, rfl⟩ ?_ ?_
  · rintro k x env nx hx ⟨s2, s3, s4, s5, rfl⟩ hnx
    obtain ⟨hk, rfl⟩ := rng_get hx
    refine ⟨_, rfl, by show 0 ≤ sizeLine; decide, ?_⟩
    have e : ((turnsL n k).flatMap fun row => (nxt n row).map dI) = (turnsL n (k + 1)).map dI := by
      show _ = ((turnsL n k).flatMap (nxt n)).map dI
      rw [List.map_flatMap]
    refine add_loop (i := 3) (mk := fun T env0 env => ∃ s4 s5, env = [.d (.int n), .d (.list ((turnsL n k).map dI)), .d (.int (k : Nat)), .d (.list T), s4, s5]) dI (fun row => (nxt n row).map dI) 256 (fun row => row.length = k) ?_ (turnsL n k) [] [] _ (fun row h => turns_row k row h) ⟨_, _, rfl⟩ ?_ ?_
    · rintro row T env0 env nx2 hrow ⟨s4, s5, rfl⟩ hL h2
      refine ⟨_, rfl, b1, b2, ?_⟩
      rw [rgD_rng]
      refine lc_sel (fun o => !decide (o ∈ row)) (g := fun o => dI (row ++ [o])) (rng n) ?_ _ ?_
      · intro o ho
        refine ⟨fun P hp => ⟨rfl, flat_ints row, ?_⟩, fun _ P hp => ⟨by show 1 ≤ sizeLine; decide, ?_, ?_⟩⟩
        · show P (!((row.map PyData.int).any fun z => PyData.eqv z (.int o)))
          rw [any_int]; exact hp
        · show (row.map PyData.int).length + 1 ≤ sizeLine
          rw [List.length_map, hrow, sizeLine_eq]; omega
        · have e : dI (row ++ [o]) = .tuple (row.map PyData.int ++ [PyData.int o]) := by unfold dI; rw [List.map_append]; rfl
          rw [e] at hp
          exact hp
      · have e : (((rng n).filter fun o => !decide (o ∈ row)).map fun o => dI (row ++ [o])) = (nxt n row).map dI := by unfold nxt; rw [List.map_map]; rfl
        show T.length + (((rng n).filter fun o => !decide (o ∈ row)).map fun o => dI (row ++ [o])).length ≤ sizeLine ∧ _
        rw [e]
        rw [List.length_append] at hL
        refine ⟨by rw [sizeLine_eq]; omega, h2 _ ⟨_, _, rfl⟩⟩
    · rw [List.nil_append, e, List.length_map]
      exact pw _ hk
    · rintro env ⟨s4, s5, rfl⟩
      rw [List.nil_append, e]
      exact hnx _ ⟨_, _, _, _, rfl⟩
  · rintro env ⟨s2, s3, s4, s5, rfl⟩
    have e : ((rng n).map PyData.int).length = n := by rw [List.length_map, rng_len]
    rw [e]
    exact hP
def isPm (n : Nat) (l : List Int) : Bool := decide (l.length = n) && decide l.Nodup && l.all fun x => decide (0 ≤ x) && decide (x < n)
theorem isPm_ok {n : Nat} {l : List Int} (h : isPm n l = true) : Pm n l := by
  unfold isPm at h
  simp only [Bool.and_eq_true, decide_eq_true_eq, List.all_eq_true] at h
  exact ⟨h.1.1, h.1.2, fun x hx => h.2 x hx⟩
theorem turns_pm {n : Nat} (h2 : 2 ≤ n) (h4 : n ≤ 4) : ∀ t ∈ turnsL n n, Pm n t := fun t ht => by
  have all : ∀ n, (n = 2 ∨ n = 3 ∨ n = 4) → (turnsL n n).all (isPm n) = true := by
    rintro n (rfl | rfl | rfl) <;> decide +kernel
  exact isPm_ok (List.all_eq_true.mp (all n (by omega)) t ht)
theorem turns_ne {n : Nat} (h2 : 2 ≤ n) (h4 : n ≤ 4) : turnsL n n ≠ [] ∧ (turnsL n n).length ≤ 24 := by
  have all : ∀ n, (n = 2 ∨ n = 3 ∨ n = 4) → turnsL n n ≠ [] ∧ (turnsL n n).length ≤ 24 := by
    rintro n (rfl | rfl | rfl) <;> decide +kernel
  exact all n (by omega)
structure Tb (n : Nat) (r : List (List Int)) : Prop where
  len : r.length = n
  pm : ∀ x ∈ r, Pm n x
theorem Tb.row {n : Nat} {r : List (List Int)} (T : Tb n r) {x : Int} (hx : Rg n x) : Pm n (rw_ r x) := by
  obtain ⟨k, rfl, hk⟩ := hx.nat
  have hk' : k < r.length := by rw [T.len]; exact hk
  have e : rw_ r (k : Int) = r[k] := by unfold rw_; simp [hk']
  rw [e]
  exact T.pm _ (List.getElem_mem hk')
def Fr (n : Nat) (r : List (List Int)) (x y : Int) : Prop := ∀ z, Rg n z → cyc r (cyc r x y) (cyc r x z) = cyc r (cyc r y x) (cyc r y z)
theorem Tb.rule {n : Nat} {r : List (List Int)} (T : Tb n r) (h : ∀ x y, Rg n x → Rg n y → Fr n r x y) : Rule n r := ⟨T.len, fun x hx => T.row hx, fun x y z hx hy hz => h x y hx hy z hz⟩
theorem boolsL {α : Type} (b : α → Bool) : ∀ l : List α, boolsOf (l.map fun x => PyData.bool (b x)) = some (l.map b)
  | [] => rfl
  | a :: l => by simp only [List.map_cons, boolsOf, boolsL b l]; rfl
end
-- GH.lean
section
variable {P : PyData → Prop} {er : Exn → Prop}
theorem rw_rep {n : Nat} {t : List Int} {x : Int} (hx : Rg n x) : rw_ (List.replicate n t) x = t := by
  obtain ⟨k, rfl, hk⟩ := hx.nat
  unfold rw_
  simp [hk]
theorem rule_rep {n : Nat} {t : List Int} (h : Pm n t) : Rule n (List.replicate n t) where
  len := by simp
  row := fun x hx => by rw [rw_rep hx]; exact h
  fair := fun x y z hx hy hz => by
    have c : ∀ {a b : Int}, Rg n a → cyc (List.replicate n t) a b = ap (bk t) b := fun {a b} ha => by unfold cyc; rw [rw_rep ha]
    have m : ∀ {a b : Int}, Rg n a → Rg n b → Rg n (cyc (List.replicate n t) a b) := fun {a b} ha hb => by rw [c ha]; exact h.bk_mem hb
    rw [c (m hx hy), c (m hy hx), c hx, c hy]
theorem fair_b {n : Nat} (r : List (List Int)) : ∃ b : Bool, b = true ↔ Rule n r := by
  by_cases h : Rule n r
  · exact ⟨true, fun _ => h, fun _ => rfl⟩
  · exact ⟨false, fun z => (by cases z), fun z => absurd z h⟩
noncomputable def fB (n : Nat) (r : List (List Int)) : Bool := Classical.choose (fair_b (n := n) r)
theorem fB_ok {n : Nat} {r : List (List Int)} : fB n r = true ↔ Rule n r := Classical.choose_spec (fair_b (n := n) r)
theorem lc_selG {α : Type} (enc : α → PyData) {c : List MT.Slot → W Bool} {el : List MT.Slot → W PyData} {env : List MT.Slot} {i : Nat} {E : Exn → Prop} (sel : α → Bool) {g : α → PyData} : ∀ (r : List α), (∀ x ∈ r, (∀ P, P (sel x) → c (env.set i (.d (enc x))) P E) ∧ (sel x = true → ∀ P, P (g x) → el (env.set i (.d (enc x))) P E)) → ∀ P, P ((r.filter sel).map g) → lcW (tg1 i) c el env (r.map enc) P E
  | [], _, P, hp => hp
  | x :: r, h, P, hp => by
    obtain ⟨h1, h2⟩ := h x List.mem_cons_self
    have hr := fun y hy => h y (List.mem_cons_of_mem _ hy)
    refine ⟨_, rfl, h1 _ ?_⟩
    by_cases s : sel x = true
    · rw [if_pos s]
      refine h2 s _ (lc_selG enc sel r hr _ ?_)
      rw [List.filter_cons_of_pos s] at hp
      exact hp
    · rw [if_neg s]
      rw [List.filter_cons_of_neg s] at hp
      exact lc_selG enc sel r hr _ hp
def sel3 (a b c : List Int) : Bool := (decide (a = c) || decide (b = c)) || decide (a = b)
def tab3 (ts : List (List Int)) : List (List (List Int)) := ts.flatMap fun a => ts.flatMap fun b => (ts.filter (sel3 a b)).map fun c => [a, b, c]
theorem layLI : ∀ l : List (List Int), PyData.canLayAll0 (l.map dI) = true ∧ PyData.depthAll (l.map dI) ≤ 1
  | [] => by simp [PyData.canLayAll0, PyData.depthAll]
  | a :: l => by
    have h := shL a
    have ih := layLI l
    have e1 : PyData.canLay0 (dI a) = true := by simp [dI, PyData.canLay0, h.1]
    have e2 : PyData.depth (dI a) = 1 := by simp [dI, PyData.depth, h.2]
    simp only [List.map_cons, PyData.canLayAll0, PyData.depthAll, e1, e2, ih.1, Bool.and_self, true_and]
    have := ih.2
    omega
theorem shLI {l : List (List Int)} : SeqAt.shaped (.list (l.map dI)) = true := by
  obtain ⟨a, b⟩ := layLI l
  have e : PyData.depth (.list (l.map dI)) ≤ 64 := by
    have e : PyData.depth (.list (l.map dI)) = PyData.depthAll (l.map dI) + 1 := by simp [PyData.depth]
    rw [e]; omega
  have c : PyData.canLay0 (.list (l.map dI)) = true := by simp [PyData.canLay0, a]
  simp only [SeqAt.shaped, c, decide_eq_true e, Bool.and_self]
theorem tab3_mem {n : Nat} {ts : List (List Int)} (h : ∀ t ∈ ts, Pm 3 t) : ∀ r ∈ tab3 ts, Tb 3 r := fun r hr => by
  obtain ⟨a, ha, hr⟩ := List.mem_flatMap.mp hr
  obtain ⟨b, hb, hr⟩ := List.mem_flatMap.mp hr
  obtain ⟨c, hc, rfl⟩ := List.mem_map.mp hr
  have hc := (List.mem_filter.mp hc).1
  refine ⟨rfl, fun x hx => ?_⟩
  simp only [List.mem_cons, List.not_mem_nil, or_false] at hx
  rcases hx with rfl | rfl | rfl
  · exact h _ ha
  · exact h _ hb
  · exact h _ hc
theorem tab3_len : (tab3 (turnsL 3 3)).length ≤ 216 := by decide +kernel
theorem tab3_id : List.replicate 3 (rng 3) ∈ tab3 (turnsL 3 3) := by decide +kernel
theorem in2 {a b c : List Int} : (([dI a, dI b] : List PyData).any fun z => PyData.eqv z (dI c)) = (decide (a = c) || decide (b = c)) := by
  simp only [List.any_cons, List.any_nil, eqvI, Bool.or_false]
end
-- GI.lean
section
variable {P : PyData → Prop} {er : Exn → Prop}
theorem atL {α : Type} (enc : α → PyData) {l : List α} {i : Int} (h : Rg l.length i) : ∃ x ∈ l, atI (l.map enc) i = some (enc x) := by
  obtain ⟨k, rfl, hk⟩ := h.nat
  refine ⟨l[k], List.getElem_mem hk, ?_⟩
  unfold atI
  rw [List.length_map, ixN_rg h]
  simp [hk]
theorem tb4 {a b : List Int} (ha : Pm 4 a) (hb : Pm 4 b) : ∀ d ∈ [dT [a, a, b, b], dT [a, b, a, b], dT [a, a, a, b]], ∃ r, d = dT r ∧ Tb 4 r := by
  have go : ∀ r : List (List Int), r.length = 4 → (∀ x ∈ r, x = a ∨ x = b) → Tb 4 r := fun r h1 h2 => ⟨h1, fun x hx => (h2 x hx).elim (fun e => e ▸ ha) fun e => e ▸ hb⟩
  intro d hd
  simp only [List.mem_cons, List.not_mem_nil, or_false] at hd
  rcases hd with rfl | rfl | rfl
  · exact ⟨_, rfl, go _ rfl (by simp)⟩
  · exact ⟨_, rfl, go _ rfl (by simp)⟩
  · exact ⟨_, rfl, go _ rfl (by simp)⟩
end
-- GJ.lean
section
variable {P : PyData → Prop} {er : Exn → Prop}
theorem map_mv {n : Nat} {p v : List Int} (hp : Pm n p) : ((rng n).map fun j => PyData.int (ap v (ap (bk p) j))) = (mv p v).map PyData.int := by
  have e : mv p v = (rng n).map fun j => ap v (ap (bk p) j) := by
    unfold mv cmp
    conv => lhs; rw [← map_ap hp.bk.len]
    rw [List.map_map]; rfl
  rw [e, List.map_map]; rfl
theorem w_mvd (F : WS) (hF : F = (dSeq (dOwn 2 (fBin repOf (dLst (dCons (dC (.int 0)) dNil)) (dUn oLen (dNm 1)))) (dSeq (dFor (dEnum (dNm 1)) (tgT ((tg1 3) :: (tg1 4) :: [])) (dPut 2 (dNm 4) (dBin oIx (dNm 0) (dNm 3)))) (dRet (dUn oTuple (dOw 2)))))) {n : Nat} {p v : List Int} (hp : Pm n p) (hv : v.length = n) (hn : n ≤ 1000000) (hP : P (dI (mv p v))) : bodyW 5 F [.d (dI p), .d (dI v)] P er := by
  subst hF
  have hl : (v.map PyData.int).length = n := by rw [List.length_map, hv]
  obtain rfl : n = (v.map PyData.int).length := hl.symm
  obtain ⟨r1, r2, r3⟩ := rep_ok hn
  refine ⟨by show 1 ≤ sizeLine; decide, r1, r2, r3, ?_⟩
  refine forW_inv (fun i env => ∃ (F : List PyData) (s3 s4 : MT.Slot), env = [.d (dI p), .d (dI v), .l F, s3, s4] ∧ F.length = (v.map PyData.int).length ∧ ∀ y : Nat, y < i → F[(ap p y).toNat]? = some (.int (ap v y))) ⟨_, _, _, rfl, by rw [Int.toNat_natCast, rep_zero, List.length_map, List.length_replicate], fun y h => absurd h (Nat.not_lt_zero _)⟩ ?_ ?_
  · rintro i x env nx hx ⟨F, s3, s4, rfl, hF, hvv⟩ hnx
    obtain ⟨hi, rfl⟩ := enum_get hx
    rw [hv] at hi
    have hr := hp.ap_mem (Rg.of hi)
    refine ⟨_, rfl, _, rfl, _, atI_int (by rw [hp.len]; exact Rg.of hi), _, (ap p i).toNat, rfl, by rw [hF]; exact ixN_rg hr, ?_⟩
    exact hnx _ ⟨_, _, _, rfl, by rw [List.length_set]; exact hF, scatter_step (val := fun y => .int (ap v y)) hp hF hi hvv⟩
  · rintro env ⟨F, s3, s4, rfl, hF, hvv⟩
    rw [enumD_length] at hvv
    rw [scatter_end (val := fun y => .int (ap v y)) hp hF hvv, map_mv hp]
    exact hP
theorem oTuple_list {ds : List PyData} {P : PyData → Prop} {E : Exn → Prop} (h : P (.tuple ds)) : oTuple (.list ds) P E := h
theorem lc_ii {el : List MT.Slot → W PyData} {env : List MT.Slot} {i : Nat} {E : Exn → Prop} {g : Int → Int} : ∀ (r : List Int), (∀ x ∈ r, ∀ P, P (.int (g x)) → el (env.set i (.d (.int x))) P E) → ∀ P, P ((r.map g).map PyData.int) → lcW (tg1 i) bYes el env (r.map PyData.int) P E
  | [], _, P, hp => hp
  | x :: r, h, P, hp => ⟨_, rfl, h x List.mem_cons_self _ (lc_ii r (fun y hy => h y (List.mem_cons_of_mem _ hy)) _ hp)⟩
theorem lc_zip {el : List MT.Slot → W PyData} {env : List MT.Slot} {i j : Nat} {E : Exn → Prop} {g : Int → Int → Int} : ∀ (a b : List Int), (∀ x y P, P (.int (g x y)) → el ((env.set i (.d (.int x))).set j (.d (.int y))) P E) → ∀ P, P ((List.zipWith g a b).map PyData.int) → lcW (tgT ((tg1 i) :: (tg1 j) :: [])) bYes el env (zipD (a.map PyData.int) (b.map PyData.int)) P E
  | [], b, h, P, hp => by cases b <;> exact hp
  | x :: a, [], h, P, hp => hp
  | x :: a, y :: b, h, P, hp => ⟨_, rfl, h x y _ (lc_zip a b h _ hp)⟩
theorem zip_pl : ∀ {n : Nat} {a b : List Int}, a.length = n → b.length = n → List.zipWith (· + ·) a b = pl a b := fun {n a b} ha hb => ext_ap (n := n) (by rw [List.length_zipWith, ha, hb, Nat.min_self]) (pl_len.trans ha) fun i hi => by
  rw [ap_pl ha hi]
  obtain ⟨k, rfl, hk⟩ := hi.nat
  rw [ap_get (by rw [List.length_zipWith, ha, hb, Nat.min_self]; exact hk), ap_get (by omega), ap_get (by omega), List.getElem_zipWith]
theorem w_pls (F : WS) (hF : F = dRet (dUn oTuple (dLc (dZip (dNm 0) (dNm 1)) (tgT ((tg1 2) :: (tg1 3) :: [])) bYes (dBin oAdd (dNm 2) (dNm 3)) [2, 3]))) {n : Nat} {a b : List Int} (ha : a.length = n) (hb : b.length = n) (hP : P (dI (pl a b))) : bodyW 4 F [.d (dI a), .d (dI b)] P er := by
  subst hF
  refine lc_zip (g := (· + ·)) a b (fun x y P hp => hp) _ (oTuple_list ?_)
  rw [zip_pl ha hb]
  exact hP
section
variable {n : Nat} {r : List (List Int)}
theorem lc_selE {c : List MT.Slot → W Bool} {el : List MT.Slot → W PyData} {env : List MT.Slot} {i j : Nat} {E : Exn → Prop} (sel : Int → Bool) (h : Int → PyData) {g : Int → PyData} : ∀ (l : List Int), (∀ x ∈ l, (∀ P, P (sel x) → c ((env.set i (.d (.int x))).set j (.d (h x))) P E) ∧ (sel x = true → ∀ P, P (g x) → el ((env.set i (.d (.int x))).set j (.d (h x))) P E)) → ∀ P, P ((l.filter sel).map g) → lcW (tgT ((tg1 i) :: (tg1 j) :: [])) c el env (l.map fun x => .tuple [.int x, h x]) P E
  | [], _, P, hp => hp
  | x :: l, hh, P, hp => by
    obtain ⟨h1, h2⟩ := hh x List.mem_cons_self
    have hr := fun y hy => hh y (List.mem_cons_of_mem _ hy)
    refine ⟨_, rfl, h1 _ ?_⟩
    by_cases s : sel x = true
    · rw [if_pos s]
      refine h2 s _ (lc_selE sel h l hr _ ?_)
      rw [List.filter_cons_of_pos s] at hp
      exact hp
    · rw [if_neg s]
      rw [List.filter_cons_of_neg s] at hp
      exact lc_selE sel h l hr _ hp
theorem lc_mapE {el : List MT.Slot → W PyData} {env : List MT.Slot} {i j : Nat} {E : Exn → Prop} (h : Int → PyData) {g : Int → PyData} : ∀ (l : List Int), (∀ x ∈ l, ∀ P, P (g x) → el ((env.set i (.d (.int x))).set j (.d (h x))) P E) → ∀ P, P (l.map g) → lcW (tgT ((tg1 i) :: (tg1 j) :: [])) bYes el env (l.map fun x => .tuple [.int x, h x]) P E
  | [], _, P, hp => hp
  | x :: l, hh, P, hp => ⟨_, rfl, hh x List.mem_cons_self _ (lc_mapE h l (fun y hy => hh y (List.mem_cons_of_mem _ hy)) _ hp)⟩
theorem enum_rng {ds : List PyData} {m : Nat} {h : Int → PyData} (hl : ds.length = m) (e : ∀ k : Nat, k < m → ds[k]? = some (h k)) : enumD 0 ds = (rng m).map fun x => .tuple [.int x, h x] := by
  refine List.ext_getElem? fun k => ?_
  by_cases hk : k < m
  · rw [enumD_get (e k hk)]
    simp [rng, hk]
  · rw [List.getElem?_eq_none (by rw [enumD_length]; omega), List.getElem?_eq_none (by simp [rng_len]; omega)]
theorem enum_rule (R : Rule n r) : enumD 0 (r.map dI) = (rng n).map fun x => .tuple [.int x, dI (rw_ r x)] := enum_rng (h := fun x => dI (rw_ r x)) (by rw [List.length_map, R.len]) fun k hk => by
  have : k < r.length := by rw [R.len]; exact hk
  simp [rw_, this]
theorem enum_ints {l : List Int} (hl : l.length = n) : enumD 0 (l.map PyData.int) = (rng n).map fun x => .tuple [.int x, .int (ap l x)] := enum_rng (h := fun x => .int (ap l x)) (by rw [List.length_map, hl]) fun k hk => by
  have : k < l.length := by rw [hl]; exact hk
  rw [ap_get this]
  simp [this]
def dgn (n : Nat) (r : List (List Int)) : List Int := (rng n).map fun x => ap (bk (rw_ r x)) x
theorem dgn_len : (dgn n r).length = n := by simp [dgn, rng_len]
def Le (k : Nat) (v : List Int) : Prop := ∀ x ∈ v, x.natAbs ≤ k
theorem le_ap {k : Nat} {v : List Int} (h : Le k v) (hv : v.length = n) {i : Int} (hi : Rg n i) : (ap v i).natAbs ≤ k := by
  obtain ⟨j, rfl, hj⟩ := hi.nat
  have hj' : j < v.length := by rw [hv]; exact hj
  rw [ap_get hj']
  exact h _ (List.getElem_mem hj')
end
end
-- GK.lean
section
variable {P : PyData → Prop} {er : Exn → Prop} {n : Nat} {r : List (List Int)}
theorem le_of {k : Nat} {v : List Int} (hv : v.length = n) (h : ∀ i, Rg n i → (ap v i).natAbs ≤ k) : Le k v := fun x hx => by
  obtain ⟨j, hj, rfl⟩ := List.getElem_of_mem hx
  have := h j (Rg.of (by omega))
  rwa [ap_get hj] at this
theorem le_mono {j k : Nat} {v : List Int} (h : Le j v) (hk : j ≤ k) : Le k v := fun x hx => Nat.le_trans (h x hx) hk
theorem le_pt (R : Rule n r) {j k : Nat} {a b : List Int} (ha : a.length = n) (hb : b.length = n) (la : Le j a) (lb : Le k b) : Le (j + k) (pt n r a b) := le_of (n := n) (pt_len ha) fun i hi => by
  rw [ap_pt R ha hi]
  have := le_ap la ha hi
  have := le_ap lb hb ((R.ft_pm a).bk_mem hi)
  omega
theorem le_zer (k : Nat) : Le k (zer n) := fun x hx => by
  have := List.eq_of_mem_replicate hx
  subst this; exact Nat.zero_le _
theorem Le.big {k : Nat} {v : List Int} (h : Le k v) (hk : k ≤ 10 ^ 30) : Big v := fun x hx => Nat.le_trans (h x hx) hk
theorem shw_le {k : Nat} {v : List Int} (h : Le k v) (hk : k ≤ 10 ^ 30) (hl : v.length ≤ 100) : Shw (dI v) 10000 := by
  have := shw_dI (v := v) fun x hx => Nat.lt_of_le_of_lt (h x hx) (Nat.lt_of_le_of_lt hk (by decide))
  exact ⟨this.a, this.b, this.c, by have := this.l; omega⟩
theorem dep_dI (v : List Int) : (dI v).depth ≤ 59 := by simp [dI, PyData.depth, shL v]
end
-- GL.lean
section
variable {P : PyData → Prop} {er : Exn → Prop}
section
variable {n : Nat}
theorem cut_lo {l : List PyData} {k : Nat} (h : k ≤ l.length) : MT.cutD l none (some (k : Int)) = l.take k := by
  unfold MT.cutD
  rw [HT.sIx_none, HT.sIx_nat, Nat.min_eq_left h]
  simp
theorem cut_hi {l : List PyData} {k : Nat} (h : k ≤ l.length) : MT.cutD l (some (k : Int)) none = l.drop k := by
  unfold MT.cutD
  rw [HT.sIx_none, HT.sIx_nat, Nat.min_eq_left h]
  rw [List.take_of_length_le (by rw [List.length_drop]; omega)]
theorem ad_cut {v : List Int} (hv : v.length = n) {k : Nat} (hk : k < n) (m : Int) : (v.map PyData.int).take k ++ [PyData.int (ap v k + m)] ++ (v.map PyData.int).drop (k + 1) = (MF.ad v k m).map PyData.int := by
  unfold MF.ad
  rw [Int.toNat_natCast, List.map_set, List.set_eq_take_append_cons_drop, if_pos (by rw [List.length_map, hv]; exact hk), List.append_assoc]
  rfl
end
theorem seqSetI {i : Nat} {m : List MT.Slot → W PyData} {g : WS} {E : DE} {env : List MT.Slot} (k x : Int) (h1 : ∀ P : PyData → Prop, P (.int k) → m env P E.er) (e : k = x) (h : g E (env.set i (.d (.int x)))) : dSeq (dSet i m) g E env := h1 _ (by rw [e]; exact h)
theorem zer_len (n : Nat) : (zer n).length = n := by simp [zer]
theorem ft_zer {n : Nat} {r : List (List Int)} : FT n r (zer n) = rng n := by
  have z : ∀ {i : Int}, Rg n i → ap (zer n) i = 0 := fun {i} hi => by
    obtain ⟨k, rfl, hk⟩ := hi.nat
    rw [ap_get (by rw [zer_len]; exact hk)]; simp [zer]
  have go : ∀ (l : List Int), (∀ i ∈ l, Rg n i) → l.foldl (fun f i => stZ n r i (ap (zer n) i) f) (rng n) = rng n := fun l => by
    induction l with
    | nil => intro _; rfl
    | cons i l ih =>
      intro h
      show List.foldl _ (stZ n r i (ap (zer n) i) (rng n)) l = _
      rw [z (h i List.mem_cons_self)]
      exact ih fun j hj => h j (List.mem_cons_of_mem _ hj)
  exact go _ fun i hi => mem_rng.mp hi
structure Wd (n : Nat) (w : List Int) : Prop where
  lt : ∀ l ∈ w, MF.Lt n l
  sh : w.length ≤ 1000
end
-- GM.lean
section
variable {P : PyData → Prop} {er : Exn → Prop} {n : Nat} {r : List (List Int)}
theorem ast_f (s : As) (d : Int) : (ast n r s d).f = if 0 < d then stF r s.f ((d.natAbs : Int) - 1) else bkS n r s.f ((d.natAbs : Int) - 1) := by
  unfold ast; by_cases c : 0 < d
  · simp only [if_pos c]
  · simp only [if_neg c]
theorem ast_ls (s : As) (d : Int) : (ast n r s d).ls = s.ls ++ [if 0 < d then (if 0 < d then ap (bk s.f) ((d.natAbs : Int) - 1) else bkx n r (ap (bk s.f) ((d.natAbs : Int) - 1))) + 1 else -(if 0 < d then ap (bk s.f) ((d.natAbs : Int) - 1) else bkx n r (ap (bk s.f) ((d.natAbs : Int) - 1))) - 1] := by
  unfold ast; by_cases c : 0 < d
  · simp only [if_pos c]
  · simp only [if_neg c]
theorem ast_rch (R : Rule n r) {s : As} (hs : Rch n r s.f) {d : Int} (hd : MF.Lt n d) : Rch n r (ast n r s d).f := by
  rw [ast_f]
  by_cases c : 0 < d
  · rw [if_pos c]; exact hs.st hd.rg
  · rw [if_neg c]; exact (R.bks hs hd.rg).1
theorem as_take (l : List Int) (s : As) (k : Nat) (h : k < l.length) : (l.take (k + 1)).foldl (ast n r) s = ast n r ((l.take k).foldl (ast n r) s) l[k] := by
  have et : l.take (k + 1) = l.take k ++ [l[k]] := by rw [List.take_succ, List.getElem?_eq_getElem h]; rfl
  rw [et, List.foldl_append]; rfl
theorem as_ok (R : Rule n r) : ∀ (l : List Int) (s : As), (∀ d ∈ l, MF.Lt n d) → Rch n r s.f → Rch n r (l.foldl (ast n r) s).f ∧ (l.foldl (ast n r) s).ls.length = s.ls.length + l.length
  | [], s, _, h => ⟨h, rfl⟩
  | d :: l, s, hd, h => by
    obtain ⟨g1, g2⟩ := as_ok R l (ast n r s d) (fun x hx => hd x (List.mem_cons_of_mem _ hx)) (ast_rch R h (hd d List.mem_cons_self))
    refine ⟨g1, ?_⟩
    show (l.foldl (ast n r) (ast n r s d)).ls.length = _
    rw [g2, ast_ls, List.length_append, List.length_cons, List.length_cons, List.length_nil]
    omega
end
-- GN.lean
section
variable {P : PyData → Prop} {er : Exn → Prop} {n : Nat} {r : List (List Int)}
theorem nmI {i : Nat} {env : List MT.Slot} {d : PyData} {P : PyData → Prop} {er : Exn → Prop} (h : env[i]? = some (.d d)) (p : P d) : dNm i env P er := by
  unfold dNm
  rw [h]
  exact p
theorem ws_take (l : List Int) (s : Ws) (k : Nat) (h : k < l.length) : (l.take (k + 1)).foldl (MF.wst r) s = MF.wst r ((l.take k).foldl (MF.wst r) s) l[k] := by
  have et : l.take (k + 1) = l.take k ++ [l[k]] := by rw [List.take_succ, List.getElem?_eq_getElem h]; rfl
  rw [et, List.foldl_append]; rfl
theorem wst_v (R : Rule n r) (s : Ws) {l : Int} (hl : MF.Lt n l) : (MF.wst r s l).v = if 0 < l then MF.ad s.v (ap s.f ((l.natAbs : Int) - 1)) 1 else MF.ad s.v (ap s.f (ap (dgn n r) ((l.natAbs : Int) - 1))) (-1) := by
  have ed : ap (dgn n r) ((l.natAbs : Int) - 1) = ap (bk (rw_ r ((l.natAbs : Int) - 1))) ((l.natAbs : Int) - 1) := ap_mr (g := fun x => ap (bk (rw_ r x)) x) hl.rg
  rw [ed]
  unfold MF.wst
  by_cases c : 0 < l
  · simp only [if_pos c]
  · simp only [if_neg c]
theorem set_ad {v : List Int} {d m : Int} : (v.map PyData.int).set d.toNat (.int (ap v d + m)) = (MF.ad v d m).map PyData.int := by
  unfold MF.ad; rw [List.map_set]
theorem dg_rg (R : Rule n r) {x : Int} (hx : Rg n x) : Rg n (ap (dgn n r) x) := by
  have ed : ap (dgn n r) x = ap (bk (rw_ r x)) x := ap_mr (g := fun x => ap (bk (rw_ r x)) x) hx
  rw [ed]; exact (R.row x hx).bk_mem hx
end
-- GO.lean
section
variable {P : PyData → Prop} {er : Exn → Prop} {n : Nat} {r : List (List Int)}
abbrev putA : WS := dIfS (asB (dBin (oCmp fun i j => decide (j < i)) (dNm 5) (dC (.int 0)))) (dSeq (dSet 7 (dBin oIx (dNm 3) (dNm 6)))
  (dPut 2 (dBin oAdd (dBin oIx (dOw 2) (dNm 7)) (dC (.int 1))) (dNm 7))) (dSeq (dSet 7 (dBin oIx (dNm 3) (dBin oIx (dNm 4) (dNm 6))))
  (dPut 2 (dBin oSub (dBin oIx (dOw 2) (dNm 7)) (dC (.int 1))) (dNm 7)))
theorem put_ok (R : Rule n r) {s : Ws} (ok : Wok n s) {l : Int} (hl : MF.Lt n l) {s0 s1 s7 : MT.Slot} {E : DE} (h : ∀ s7, E.nx [s0, s1, .l ((MF.wst r s l).v.map PyData.int), .d (dI s.f), .d (dI (dgn n r)), .d (.int l), .d (.int ((l.natAbs : Int) - 1)), s7]) :
    putA E [s0, s1, .l (s.v.map PyData.int), .d (dI s.f), .d (dI (dgn n r)), .d (.int l), .d (.int ((l.natAbs : Int) - 1)), s7] := by
  have hx := hl.rg
  rw [wst_v R s hl] at h
  show if decide (0 < l) = true then _ else _
  by_cases c : 0 < l
  · rw [if_pos (decide_eq_true c)]
    simp only [if_pos c] at h
    have ht := ok.f.ap_mem hx
    refine ⟨_, atI_int (by rw [ok.f.len]; exact hx), _, rfl, _, atI_int (by rw [ok.v]; exact ht), _, (ap s.f ((l.natAbs : Int) - 1)).toNat, rfl, by rw [List.length_map, ok.v]; exact ixN_rg ht, ?_⟩
    have := h (.d (.int (ap s.f ((l.natAbs : Int) - 1))))
    rw [← set_ad] at this
    exact this
  · rw [if_neg (by rw [decide_eq_true_eq]; exact c)]
    simp only [if_neg c] at h
    have hd := dg_rg R hx
    have ht := ok.f.ap_mem hd
    refine ⟨_, atI_int (by rw [dgn_len]; exact hx), _, atI_int (by rw [ok.f.len]; exact hd), _, rfl, _, atI_int (by rw [ok.v]; exact ht), _, (ap s.f (ap (dgn n r) ((l.natAbs : Int) - 1))).toNat, rfl, by rw [List.length_map, ok.v]; exact ixN_rg ht, ?_⟩
    have := h (.d (.int (ap s.f (ap (dgn n r) ((l.natAbs : Int) - 1)))))
    rw [← set_ad] at this
    exact this
theorem seqI {f g : WS} {E : DE} {env : List MT.Slot} (h : f ⟨g E, E.rt, E.bk, E.ct, E.er⟩ env) : dSeq f g E env := h
theorem put_k (R : Rule n r) {s : Ws} (ok : Wok n s) {l : Int} (hl : MF.Lt n l) {s0 s1 s7 : MT.Slot} {E : DE} {K : WS} (h : ∀ s7, K E [s0, s1, .l ((MF.wst r s l).v.map PyData.int), .d (dI s.f), .d (dI (dgn n r)), .d (.int l), .d (.int ((l.natAbs : Int) - 1)), s7]) :
    dSeq putA K E [s0, s1, .l (s.v.map PyData.int), .d (dI s.f), .d (dI (dgn n r)), .d (.int l), .d (.int ((l.natAbs : Int) - 1)), s7] := seqI (put_ok (E := ⟨K E, E.rt, E.bk, E.ct, E.er⟩) R ok hl h)
abbrev appA : WS := dApp 2 (dIf (asB (dBin (oCmp fun i j => decide (j < i)) (dNm 5) (dC (.int 0)))) (dBin oAdd (dBin oIx (dNm 3) (dNm 6)) (dC (.int 1))) (dUn oNeg (dBin oAdd (dBin oIx (dNm 3) (dBin oIx (dNm 4) (dNm 6))) (dC (.int 1)))))
theorem app_ok (R : Rule n r) {s : Ws} (ok : Wok n s) (hz : s.ds.length < sizeLine) {l : Int} (hl : MF.Lt n l) {s0 s1 : MT.Slot} {E : DE} (h : E.nx [s0, s1, .l ((MF.wst r s l).ds.map PyData.int), .d (dI s.f), .d (dI (dgn n r)), .d (.int l), .d (.int ((l.natAbs : Int) - 1))]) :
    appA E [s0, s1, .l (s.ds.map PyData.int), .d (dI s.f), .d (dI (dgn n r)), .d (.int l), .d (.int ((l.natAbs : Int) - 1))] := by
  have hx := hl.rg
  rw [wst_ds, List.map_append] at h
  have ed : ap (dgn n r) ((l.natAbs : Int) - 1) = ap (bk (rw_ r ((l.natAbs : Int) - 1))) ((l.natAbs : Int) - 1) := ap_mr (g := fun x => ap (bk (rw_ r x)) x) hx
  have hd := dg_rg R hx
  refine ⟨_, rfl, ?_⟩
  show if decide (0 < l) = true then _ else _
  unfold dirL at h
  by_cases c : 0 < l
  · rw [if_pos (decide_eq_true c)]
    rw [if_pos c] at h
    exact ⟨_, atI_int (by rw [ok.f.len]; exact hx), by rw [List.length_map]; exact hz, h⟩
  · rw [if_neg (by rw [decide_eq_true_eq]; exact c)]
    rw [if_neg c, ← ed, show -(ap s.f (ap (dgn n r) ((l.natAbs : Int) - 1))) - 1 = -(ap s.f (ap (dgn n r) ((l.natAbs : Int) - 1)) + 1) by omega] at h
    exact ⟨_, atI_int (by rw [dgn_len]; exact hx), _, atI_int (by rw [ok.f.len]; exact hd), by rw [List.length_map]; exact hz, h⟩
theorem app_k (R : Rule n r) {s : Ws} (ok : Wok n s) (hz : s.ds.length < sizeLine) {l : Int} (hl : MF.Lt n l) {s0 s1 : MT.Slot} {E : DE} {K : WS} (h : K E [s0, s1, .l ((MF.wst r s l).ds.map PyData.int), .d (dI s.f), .d (dI (dgn n r)), .d (.int l), .d (.int ((l.natAbs : Int) - 1))]) :
    dSeq appA K E [s0, s1, .l (s.ds.map PyData.int), .d (dI s.f), .d (dI (dgn n r)), .d (.int l), .d (.int ((l.natAbs : Int) - 1))] := seqI (app_ok (E := ⟨K E, E.rt, E.bk, E.ct, E.er⟩) R ok hz hl h)
end
-- GP.lean
section
variable {P : PyData → Prop} {er : Exn → Prop} {n : Nat} {r : List (List Int)}
theorem sgn_mem {d : PyData} (hd : d ∈ [PyData.int 1, PyData.int 1, PyData.int (-1)]) : d = .int 1 ∨ d = .int (-1) := by
  simp only [List.mem_cons, List.not_mem_nil, or_false] at hd
  rcases hd with h | h | h
  · exact .inl h
  · exact .inl h
  · exact .inr h
theorem ints_lt : ∀ ys : List PyData, (∀ y ∈ ys, ∃ l : Int, y = .int l ∧ MF.Lt n l) → ∃ w : List Int, ys = w.map PyData.int ∧ ∀ l ∈ w, MF.Lt n l
  | [], _ => ⟨[], rfl, fun _ h => (nomatch h)⟩
  | y :: ys, h => by
    obtain ⟨l, rfl, hl⟩ := h y List.mem_cons_self
    obtain ⟨w, rfl, hw⟩ := ints_lt ys fun z hz => h z (List.mem_cons_of_mem _ hz)
    refine ⟨l :: w, rfl, fun x hx => ?_⟩
    rcases List.mem_cons.mp hx with rfl | hx
    · exact hl
    · exact hw x hx
end
-- GQ.lean
section
variable {P : PyData → Prop} {er : Exn → Prop} {n : Nat} {r : List (List Int)}
theorem rep_one (k : Nat) : repD [PyData.int 1] k = (List.replicate k (1 : Int)).map PyData.int := by
  unfold repD
  rw [List.map_replicate]
  induction k with
  | zero => rfl
  | succ k ih => rw [List.replicate_succ, List.replicate_succ, List.flatten_cons, ih]; rfl
end
-- FD.lean
section
variable {P : PyData → Prop} {er : Exn → Prop}
end
-- FJ.lean
section
variable {P : PyData → Prop} {er : Exn → Prop}
section
variable {n : Nat} {r : List (List Int)}
end
end
-- FL.lean
section
variable {P : PyData → Prop} {er : Exn → Prop} {n : Nat} {r : List (List Int)}
theorem le_unt {k : Nat} (p : Int) (hp : p.natAbs ≤ k) {x : Int} : Le k (sml p (unt n x)) := le_of (n := n) (sml_len.trans unt_len) fun i hi => by
  rw [ap_sml unt_len hi, ap_unt hi]
  split
  · rw [Int.mul_one]; exact hp
  · rw [Int.mul_zero]; exact Nat.zero_le _
theorem rg200 {k : Nat} {x : PyData} (h : (rgD 1 200)[k]? = some x) : k < 199 ∧ x = .int ((k + 1 : Nat) : Int) := by
  have hk : k < 199 := by have := (List.getElem?_eq_some_iff.mp h).1; rwa [rgD_length] at this
  refine ⟨hk, ?_⟩
  unfold rgD at h
  rw [List.getElem?_map, List.getElem?_range (by exact hk)] at h
  have := (Option.some.inj h).symm
  rw [this]
  show PyData.int (1 + (k : Int)) = _
  rw [show (1 + (k : Int)) = ((k + 1 : Nat) : Int) by omega]
theorem all_dec {β : Type} (l : List β) (p : β → Prop) [DecidablePred p] : ((l.map fun x => decide (p x)).all _root_.id = true) ↔ ∀ x ∈ l, p x := by
  simp
theorem shIL (l : List Int) : SeqAt.shaped (.list (l.map PyData.int)) = true := by simp [SeqAt.shaped, PyData.canLay0, PyData.depth, shL l]
theorem sorted_rng {l : List Int} (h : Pm n l) {m : List Int} (p : m.Perm l) (s : m.Pairwise (· ≤ ·)) : m = rng n := by
  have pr : (rng n).Pairwise (fun a b : Int => a ≤ b) := by
    unfold rng
    rw [List.pairwise_map]
    refine List.pairwise_iff_getElem.mpr fun a b ha hb hab => ?_
    simp only [List.getElem_range]
    omega
  have pp : m.Perm (rng n) := p.trans ((List.perm_ext_iff_of_nodup h.nd (nd_rng n)).mpr fun x => ⟨fun z => mem_rng.mpr (h.mem x z), fun z => h.surj (mem_rng.mp z)⟩)
  exact List.Perm.eq_of_pairwise (le := fun a b : Int => a ≤ b) (fun a b _ _ h1 h2 => Int.le_antisymm h1 h2) s pr pp
theorem turn_len {f : List PyData} {F G : Prop} (h1 : 1 ≤ f.length) (h2 : f.length ≤ 24) : (1 : Int) ≤ ((f.length : Nat) : Int) ∧ ((f.length : Nat) : Int) ≤ 24 := ⟨by omega, by omega⟩
end
-- EJ.lean
section
variable {P : PyData → Prop} {er : Exn → Prop}
section
variable {n : Nat} {r : List (List Int)}
end
end
-- EK.lean
section
variable {P : PyData → Prop} {er : Exn → Prop} {n : Nat} {r : List (List Int)}
theorem le_opp (R : Rule n r) {k : Nat} {a : List Int} (ha : a.length = n) (la : Le k a) : Le k (opp n r a) := le_of (n := n) (R.opp_len a) fun i hi => by
  have p := (R.ft_pm a).bk
  have m := p.bk_mem hi
  unfold opp
  rw [ap_mvj p hi, ap_ngv ha m]
  have := le_ap la ha m
  omega
theorem le_pwr (R : Rule n r) {k : Nat} {a : List Int} (ha : a.length = n) (la : Le k a) : ∀ j, Le (j * k) (pwr n r a j)
  | 0 => le_zer _
  | j + 1 => by
    have := le_pt R (pwr_len j) ha (le_pwr R ha la j) la
    rw [Nat.succ_mul]
    exact this
theorem w_nothing {env : List MT.Slot} {i : Nat} (hl : r.length = n) (h1 : 1 ≤ n) (h2 : n ≤ 8) (he : env[i]? = some (.d (dT r))) (hP : P (dI (zer n))) : dBin oMul (dTup (dCons (dC (.int 0)) dNil)) (dUn oLen (dNm i)) env P er := by
  have hl2 : (r.map dI).length = n := by rw [List.length_map, hl]
  refine ⟨by show 1 ≤ sizeLine; decide, ?_⟩
  show dNm i env (fun d => oLen d (fun e => oMul (.tuple [.int 0]) e P er) er) er
  unfold dNm
  rw [he]
  refine ⟨by simp, ?_, ?_, by decide, ?_⟩
  · show -(2 ^ 63) ≤ (((r.map dI).length : Nat) : Int); rw [hl2]; omega
  · show (((r.map dI).length : Nat) : Int) ≤ 10000; rw [hl2]; omega
  · show P (.tuple (repD [.int 0] (((r.map dI).length : Nat) : Int).toNat))
    rw [hl2, Int.toNat_natCast, rep_zero]
    exact hP
abbrev pwC : List MT.Slot → W Bool := asB (dBin (oCmp fun i j => decide (j < i)) (dNm 5) (dC (.int 0)))
end
-- DD.lean
section
variable {P : PyData → Prop} {er : Exn → Prop}
def Few (v : List Int) : Prop := ∀ x ∈ v, x.natAbs < 10000000
theorem few_ap {n : Nat} {v : List Int} (h : Few v) (hv : v.length = n) {i : Int} (hi : Rg n i) : (ap v i).natAbs < 10000000 := by
  obtain ⟨k, rfl, hk⟩ := hi.nat
  have hk' : k < v.length := by rw [hv]; exact hk
  rw [ap_get hk']
  exact h _ (List.getElem_mem hk')
end
-- DE.lean
section
variable {P : PyData → Prop} {er : Exn → Prop}
theorem few_zer (n : Nat) : Few (zer n) := fun x hx => by
  have := List.eq_of_mem_replicate hx
  subst this; decide
structure Rw (n : Nat) (row : List Int) : Prop where
  mem : ∀ x ∈ row, Rg n x
  sh : row.length ≤ 1000
theorem plainL : ∀ l : List Int, PyData.plainAll (l.map PyData.int) = true
  | [] => rfl
  | a :: l => by simp only [List.map_cons, PyData.plainAll, plainL l]; rfl
theorem count_map (l : List Int) (j : Int) : ((l.map PyData.int).countP fun y => PyData.eqv y (.int j)) = l.count j := by
  rw [List.countP_map]
  unfold List.count
  refine List.countP_congr fun x _ => ?_
  simp [eqv_int]
end
-- DF.lean
section
variable {P : PyData → Prop} {er : Exn → Prop}
theorem ap_mid {a b : List Int} {x : Int} : ap (a ++ x :: b) (a.length : Int) = x := by
  rw [ap_get (by simp)]; simp
end
-- DJ.lean
section
variable {P : PyData → Prop} {er : Exn → Prop}
theorem rw_map_rng {n : Nat} {g : Int → List Int} {j : Int} (h : Rg n j) : rw_ ((rng n).map g) j = g j := by
  obtain ⟨k, rfl, hk⟩ := h.nat
  show ((rng n).map g).getD (k : Int).toNat [] = _
  rw [Int.toNat_natCast, List.getD_eq_getElem?_getD, List.getElem?_map]
  have e : (rng n)[k]? = some (k : Int) := by unfold rng; rw [List.getElem?_map, List.getElem?_range hk]; rfl
  rw [e]; rfl
theorem ap_map_rng {n : Nat} {g : Int → Int} {j : Int} (h : Rg n j) : ap ((rng n).map g) j = g j := by
  obtain ⟨k, rfl, hk⟩ := h.nat
  show ((rng n).map g).getD (k : Int).toNat 0 = _
  rw [Int.toNat_natCast, List.getD_eq_getElem?_getD, List.getElem?_map]
  have e : (rng n)[k]? = some (k : Int) := by unfold rng; rw [List.getElem?_map, List.getElem?_range hk]; rfl
  rw [e]; rfl
def renT (p : List Int) (n : Nat) (r : List (List Int)) : List (List Int) := (rng n).map fun j => cj p (rw_ r (ap (bk p) j))
theorem ren_ok {n : Nat} {p : List Int} {r : List (List Int)} (hp : Pm n p) (R : Rule n r) : Ren n p r (renT p n r) where
  pm := hp
  len := by simp [renT, rng_len]
  row := fun x hx => by
    have hy := hp.ap_mem hx
    unfold renT
    rw [rw_map_rng hy, hp.ba hx]
theorem map_cj {n : Nat} {p f : List Int} (hp : Pm n p) (hf : f.length = n) : ((rng n).map fun j => PyData.int (ap p (ap f (ap (bk p) j)))) = (cj p f).map PyData.int := by
  have e : cj p f = (rng n).map fun j => ap p (ap f (ap (bk p) j)) := by
    refine ext_ap (n := n) (cj_len hp) (by simp [rng_len]) fun j hj => ?_
    have b := hp.bk_mem hj
    have h1 := ap_cj hp hf b
    rw [hp.ab hj] at h1
    rw [h1, ap_map_rng hj]
  rw [e, List.map_map]; rfl
theorem enum_tab {r : List (List Int)} {i : Nat} {x : PyData} (h : (enumD 0 (r.map dI))[i]? = some x) : i < r.length ∧ x = .tuple [.int (i : Nat), dI (rw_ r i)] := by
  have hi : i < r.length := by
    have := (List.getElem?_eq_some_iff.mp h).1
    rwa [enumD_length, List.length_map] at this
  have e : (r.map dI)[i]? = some (dI (rw_ r (i : Int))) := by unfold rw_; simp [hi]
  rw [enumD_get e] at h
  refine ⟨hi, ?_⟩
  simpa using h.symm
theorem rep_len (d : PyData) (n : Nat) : (repD [d] n).length = n := by unfold repD; rw [flat_len]; simp
end
-- DK.lean
section
variable {P : PyData → Prop} {er : Exn → Prop}
theorem le_ad {k n : Nat} {v : List Int} (h : Le k v) (hv : v.length = n) {d m : Int} (hd : Rg n d) (hm : m.natAbs ≤ 1) : Le (k + 1) (MF.ad v d m) := fun x hx => by
  rcases List.mem_or_eq_of_mem_set hx with hx | rfl
  · have := h x hx; omega
  · have := le_ap h hv hd; omega
theorem wl_le {n : Nat} {r : List (List Int)} (R : Rule n r) : ∀ (w : List Int) (s : Ws) (k : Nat), (∀ l ∈ w, MF.Lt n l) → Wok n s → Le k s.v → Le (k + w.length) (w.foldl (MF.wst r) s).v ∧ (w.foldl (MF.wst r) s).v.length = n
  | [], s, k, _, h, hk => ⟨hk, h.v⟩
  | l :: w, s, k, hw, h, hk => by
    have hl := hw l List.mem_cons_self
    have hx := hl.rg
    have d := R.dir h.f hx
    have h1 : Le (k + 1) (MF.wst r s l).v := by
      unfold MF.wst
      by_cases c : 0 < l
      · simp only [if_pos c]; exact le_ad hk h.v d.1 (by decide)
      · simp only [if_neg c]; exact le_ad hk h.v d.2 (by decide)
    have := wl_le R w _ (k + 1) (fun x hx => hw x (List.mem_cons_of_mem _ hx)) (R.wst h hl) h1
    rw [List.length_cons, Nat.add_comm w.length 1, ← Nat.add_assoc]
    exact this
theorem wl_ok {n : Nat} {r : List (List Int)} (R : Rule n r) {w : List Int} (hw : ∀ l ∈ w, MF.Lt n l) : Le w.length (MF.wl n r w).v ∧ (MF.wl n r w).v.length = n := by
  have := wl_le R w ⟨rng n, zer n, []⟩ 0 hw (wok0 n) fun x hx => by
    have := List.eq_of_mem_replicate hx
    subst this; decide
  rwa [Nat.zero_add] at this
theorem Le.few {k : Nat} {v : List Int} (h : Le k v) (hk : k < 10000000) : Few v := fun x hx => by have := h x hx; omega
theorem le_mv {k n : Nat} {p v : List Int} (hp : Pm n p) (hv : v.length = n) (h : Le k v) : Le k (mv p v) := fun x hx => by
  obtain ⟨j, hj, rfl⟩ := List.mem_map.mp hx
  exact le_ap h hv (hp.bk.mem j hj)
theorem le_cnt {n : Nat} {l : List Int} : Le l.length (MF.cnt n l) := fun x hx => by
  obtain ⟨j, _, rfl⟩ := List.mem_map.mp hx
  have := List.count_le_length (a := j) (l := l)
  omega
theorem pr_len {r : List (List Int)} : ∀ (row f : List Int), (pr r f row).length = row.length
  | [], f => rfl
  | x :: t, f => by simp [pr, pr_len t]
theorem pr_mem {n : Nat} {r : List (List Int)} (R : Rule n r) : ∀ (row f : List Int), (∀ x ∈ row, Rg n x) → Pm n f → ∀ y ∈ pr r f row, Rg n y
  | [], f, _, _, y, hy => by cases hy
  | x :: t, f, h, hf, y, hy => by
    have hx := h x List.mem_cons_self
    rcases List.mem_cons.mp hy with rfl | hy
    · exact hf.ap_mem hx
    · exact pr_mem R t _ (fun z hz => h z (List.mem_cons_of_mem _ hz)) (hf.cmp (R.row x hx)) y hy
theorem ren_lt {n : Nat} {p : List Int} (hp : Pm n p) {l : Int} (hl : MF.Lt n l) : MF.Lt n (ren p l) := by
  have := hp.ap_mem hl.rg
  unfold ren
  obtain ⟨a, b⟩ := this
  by_cases c : 0 < l
  · rw [if_pos c, Int.mul_one]; exact ⟨by omega, by omega, by omega⟩
  · rw [if_neg c, Int.mul_neg, Int.mul_one]; exact ⟨by omega, by omega, by omega⟩
theorem row_lt {n : Nat} {row : List Int} (h : ∀ x ∈ row, Rg n x) : ∀ l ∈ row.map (· + 1), MF.Lt n l := fun l hl => by
  obtain ⟨x, hx, rfl⟩ := List.mem_map.mp hl
  obtain ⟨a, b⟩ := h x hx
  exact ⟨by omega, by omega, by omega⟩
theorem map_plus (row : List Int) : (row.map fun x => PyData.int (x + 1)) = (row.map (· + 1)).map PyData.int := by rw [List.map_map]; rfl
theorem cnt_eq {n : Nat} (l : List Int) : ((rng n).map fun x => PyData.int ((((l.filter fun t => decide (t = x)).map fun _ => PyData.int 1).length : Nat) : Int)) = (MF.cnt n l).map PyData.int := by
  unfold MF.cnt
  rw [List.map_map]
  refine List.map_congr_left fun x _ => ?_
  rw [List.length_map, ← List.countP_eq_length_filter]
  show PyData.int _ = PyData.int _
  congr 2
theorem ints_of {n : Nat} : ∀ ys : List PyData, (∀ y ∈ ys, ∃ x : Int, y = .int x ∧ Rg n x) → ∃ row : List Int, ys = row.map PyData.int ∧ ∀ x ∈ row, Rg n x
  | [], _ => ⟨[], rfl, fun _ h => (nomatch h)⟩
  | y :: ys, h => by
    obtain ⟨x, rfl, hx⟩ := h y List.mem_cons_self
    obtain ⟨row, rfl, hr⟩ := ints_of ys fun z hz => h z (List.mem_cons_of_mem _ hz)
    refine ⟨x :: row, rfl, fun z hz => ?_⟩
    rcases List.mem_cons.mp hz with rfl | hz
    · exact hx
    · exact hr z hz
theorem cut2 {l : List Int} {i : Nat} (h : i + 1 < l.length) : ∃ a x y b, l = a ++ x :: y :: b ∧ a.length = i := by
  refine ⟨l.take i, l[i], l[i + 1], l.drop (i + 2), ?_, by simp; omega⟩
  conv => lhs; rw [← List.take_append_drop i l, List.drop_eq_getElem_cons (by omega : i < l.length), List.drop_eq_getElem_cons (by omega : i + 1 < l.length)]
end
-- LB.lean
section
variable {P : PyData → Prop} {er : Exn → Prop} {n : Nat} {r : List (List Int)}
theorem forE {α : Type} (enc : α → PyData) {i : Nat} {body : WS} {E : DE} (l : List α) (I : List α → List MT.Slot → Prop) : ∀ (b a : List α) {env : List MT.Slot}, a ++ b = l → I a env → (∀ (a : List α) (x : α) (b : List α) (env : List MT.Slot) (nx : List MT.Slot → Prop), a ++ x :: b = l → I a env → (∀ env', I (a ++ [x]) env' → nx env') → body ⟨nx, E.rt, E.nx, nx, E.er⟩ (env.set i (.d (enc x)))) → (∀ env, I l env → E.nx env) → forW (tg1 i) body (b.map enc) E env
  | [], a, env, e, h, _, hd => by rw [List.append_nil] at e; subst e; exact hd env h
  | x :: b, a, env, e, h, hs, hd => ⟨_, rfl, hs a x b env _ e h fun env' h' => forE enc l I b (a ++ [x]) (by rw [← e]; simp) h' hs hd⟩
theorem forN {α : Type} (enc : α → PyData) {i j : Nat} {body : WS} {E : DE} (l : List α) (I : List α → List MT.Slot → Prop) : ∀ (b a : List α) {env : List MT.Slot}, a ++ b = l → I a env → (∀ (a : List α) (x : α) (b : List α) (env : List MT.Slot) (nx : List MT.Slot → Prop), a ++ x :: b = l → I a env → (∀ env', I (a ++ [x]) env' → nx env') → body ⟨nx, E.rt, E.nx, nx, E.er⟩ ((env.set i (.d (.int (a.length : Nat)))).set j (.d (enc x)))) → (∀ env, I l env → E.nx env) → forW (tgT ((tg1 i) :: (tg1 j) :: [])) body (enumD a.length (b.map enc)) E env
  | [], a, env, e, h, _, hd => by rw [List.append_nil] at e; subst e; exact hd env h
  | x :: b, a, env, e, h, hs, hd => ⟨_, rfl, hs a x b env _ e h fun env' h' => by
    have := forN enc l I b (a ++ [x]) (by rw [← e]; simp) h' hs hd
    rw [List.length_append] at this
    exact this⟩
theorem rep_c (c : Int) (k : Nat) : repD [PyData.int c] k = (List.replicate k c).map PyData.int := by
  unfold repD
  rw [List.map_replicate]
  induction k with
  | zero => rfl
  | succ k ih => rw [List.replicate_succ, List.replicate_succ, List.flatten_cons, ih]; rfl
theorem sum_mid {g : Int → Nat} {a b : List Int} {x : Int} : ((a ++ x :: b).map g).sum = (a.map g).sum + (g x + (b.map g).sum) := by simp
theorem lc_iiR {el : List MT.Slot → W PyData} {env : List MT.Slot} {i : Nat} {E : Exn → Prop} {g : Int → Int} (r : List Int) (h : ∀ x ∈ r.reverse, ∀ P, P (.int (g x)) → el (env.set i (.d (.int x))) P E) (P : List PyData → Prop) (hp : P ((r.reverse.map g).map PyData.int)) : lcW (tg1 i) bYes el env ((r.map PyData.int).reverse) P E := by
  rw [← List.map_reverse]
  exact lc_ii r.reverse h P hp
theorem dNmI {i : Nat} {env : List MT.Slot} {d : PyData} {P : PyData → Prop} {er : Exn → Prop} (h : env[i]? = some (.d d)) (p : P d) : dNm i env P er := by
  unfold dNm; rw [h]; exact p
theorem rev_neg {l : List Int} {env : List MT.Slot} {i j : Nat} (h : env[i]? = some (.d (dI l))) (hj : j < env.length) (hP : P (dI (rvw l))) : dUn oTuple (dLc (dItems (dUn oRev (dNm i))) (tg1 j) bYes (dUn oNeg (dNm j)) [j]) env P er := by
  refine dNmI (er := er) h ?_
  refine lc_iiR (g := fun l => -l) l (fun x _ P hp => dNmI (P := fun x => oNeg x P fun _ => False) (er := fun _ => False) (d := .int x) ?_ hp) _ (oTuple_list hP)
  show ((env.set j .un).set j (.d (.int x)))[j]? = _
  rw [List.getElem?_set_self (by simpa using hj)]
theorem sum_le_nrm {g : Int → Nat} (hg : ∀ x, g x ≤ x.natAbs) : ∀ v : List Int, (v.map g).sum ≤ nrm v
  | [] => Nat.le_refl _
  | x :: v => by
    have := sum_le_nrm hg v
    have := hg x
    simp only [nrm, List.map_cons, List.sum_cons] at *
    omega
theorem psv_sum {v : List Int} : ((psv v).map Int.toNat).sum ≤ nrm v := by
  unfold psv
  rw [List.map_map]
  exact sum_le_nrm (fun x => by show (ps x).toNat ≤ _; unfold ps; split <;> omega) v
theorem ngp_sum {v : List Int} : ((ngp v).map Int.toNat).sum ≤ nrm v := by
  unfold ngp
  rw [List.map_map]
  exact sum_le_nrm (fun x => by show (ps (-x)).toNat ≤ _; unfold ps; split <;> omega) v
theorem nrm_big {v : List Int} : ∀ x ∈ v, x.natAbs ≤ nrm v := by
  induction v with
  | nil => intro x h; cases h
  | cons y v ih =>
    intro x h
    rcases List.mem_cons.mp h with rfl | h
    · simp [nrm]
    · have := ih x h; simp only [nrm, List.map_cons, List.sum_cons] at *; omega
theorem cst_snd : ∀ (l : List Int) (s : Int × Int), (l.foldl cst s).2 = s.2 + l.length
  | [], s => by simp
  | x :: l, s => by
    show (l.foldl cst (cst s x)).2 = _
    rw [cst_snd l]; simp [cst]; omega
theorem ks_len : ∀ p : List Int, (p.flatMap ksl).length = nrm p
  | [] => rfl
  | x :: p => by rw [List.flatMap_cons, List.length_append, ks_len p]; simp [ksl, nrm]
theorem rgD_ks {x : Int} : rgD 1 ((x.natAbs : Int) + 1) = (ksl x).map PyData.int := by
  unfold rgD ksl
  rw [List.map_map, show ((x.natAbs : Int) + 1 - 1).toNat = x.natAbs by omega]; rfl
theorem w_cnt (B : WS) (hB : ∀ {E : DE} {s0 s3 : MT.Slot} {f m k : Int}, 0 < k → k < 100000 → 0 ≤ m → m < 100000 → E.nx [s0, .d (.int (f * (m + 1) / k)), .d (.int (m + 1)), s3, .d (.int k)] → B E [s0, .d (.int f), .d (.int m), s3, .d (.int k)]) {p : List Int} (hz : nrm p ≤ 1000) {E : DE} (s0 s3 s4 : MT.Slot) (h : ∀ m s3 s4, E.nx [s0, .d (.int (cnp p)), .d (.int m), s3, s4]) :
    forW (tg1 3) (dFor (dRng2 (dC (.int 1)) (dBin oAdd (dUn oAbs (dNm 3)) (dC (.int 1)))) (tg1 4) B) (p.map PyData.int) E [s0, .d (.int 1), .d (.int 0), s3, s4] := by
  refine forE PyData.int p (fun a env => ∃ s3 s4, env = [s0, .d (.int ((a.flatMap ksl).foldl cst (1, 0)).1), .d (.int ((a.flatMap ksl).foldl cst (1, 0)).2), s3, s4]) p [] rfl ⟨_, _, rfl⟩ ?_ ?_
  · rintro a x b env nx e ⟨t3, t4, rfl⟩ hnx
    have hx : nrm a + (x.natAbs + nrm b) ≤ 1000 := by unfold nrm; rw [← sum_mid, e]; exact hz
    show RgOk 1 ((if x < 0 then -x else x) + 1) ∧ forW _ _ (rgD 1 ((if x < 0 then -x else x) + 1)) _ _
    rw [abs_eq, rgD_ks]
    refine ⟨⟨by decide, by decide, by omega, by omega, by omega⟩, ?_⟩
    refine forE PyData.int (ksl x) (fun c env => ∃ t4, env = [s0, .d (.int ((a.flatMap ksl ++ c).foldl cst (1, 0)).1), .d (.int ((a.flatMap ksl ++ c).foldl cst (1, 0)).2), .d (.int x), t4]) (ksl x) [] rfl ⟨t4, by rw [List.append_nil]; rfl⟩ ?_ ?_
    · rintro c k d env nx2 e2 ⟨t5, rfl⟩ hnx2
      have hk : k ∈ ksl x := by rw [← e2]; simp
      obtain ⟨i, hi, rfl⟩ := List.mem_map.mp hk
      have hi := List.mem_range.mp hi
      have hc : c.length ≤ x.natAbs := by
        have : (ksl x).length = x.natAbs := by simp [ksl]
        rw [← e2] at this; simp at this; omega
      have hm := cst_snd (a.flatMap ksl ++ c) (1, 0)
      rw [List.length_append, ks_len] at hm
      have em : ((a.flatMap ksl ++ (c ++ [1 + (i : Int)])).foldl cst (1, 0)) = cst ((a.flatMap ksl ++ c).foldl cst (1, 0)) (1 + i) := by rw [← List.append_assoc, List.foldl_append (l' := [1 + (i : Int)])]; rfl
      have hn2 := hnx2 _ ⟨.d (.int (1 + i)), rfl⟩
      rw [em] at hn2
      have hm : ((a.flatMap ksl ++ c).foldl cst (1, 0)).2 = 0 + ((nrm a + c.length : Nat) : Int) := hm
      exact hB (by omega) (by omega) (by omega) (by omega) hn2
    · rintro env ⟨t5, rfl⟩
      refine hnx _ ⟨.d (.int x), t5, ?_⟩
      rw [List.flatMap_append]
      simp
  · rintro env ⟨t3, t4, rfl⟩
    exact h _ _ _
end
section
variable {P : PyData → Prop} {er : Exn → Prop} {n : Nat} {r : List (List Int)}
theorem shw_all : ∀ {ds : List PyData} {k m : Nat}, (∀ d ∈ ds, Shw d k ∧ d.depth ≤ m) → PyData.showableAll ds = true ∧ PyData.hasDictAll ds = false ∧ PyData.depthAll ds ≤ m ∧ piled (PyData.shownAll ds) ≤ (k + 2) * ds.length
  | [], k, m, _ => ⟨by simp [PyData.showableAll], by simp [PyData.hasDictAll], by simp [PyData.depthAll], by simp [PyData.shownAll, piled]⟩
  | d :: ds, k, m, h => by
    obtain ⟨g1, g2⟩ := h d List.mem_cons_self
    obtain ⟨h1, h2, h3, h4⟩ := shw_all (ds := ds) (k := k) (m := m) fun e he => h e (List.mem_cons_of_mem _ he)
    refine ⟨by simp [PyData.showableAll, g1.a, h1], by simp [PyData.hasDictAll, g1.b, h2], ?_, ?_⟩
    · simp only [PyData.depthAll]; omega
    · simp only [PyData.shownAll, piled_cons, List.length_cons, Nat.mul_succ]
      have := g1.l
      omega
theorem shw_list {ds : List PyData} {k : Nat} (h : ∀ d ∈ ds, Shw d k ∧ d.depth ≤ 59) : Shw (.list ds) (4 + (k + 2) * ds.length) := by
  obtain ⟨h1, h2, h3, h4⟩ := shw_all h
  refine ⟨by simp [PyData.showable, h1], by simp [PyData.hasDict, h2], by simp only [PyData.depth]; omega, ?_⟩
  simp only [PyData.shown]
  unfold listText
  have := textFrom_le (PyData.shownAll ds) 0 "["
  rw [Str.length_append]
  have e1 : ("[" : Str).length = 1 := rfl
  have e2 : ("]" : Str).length = 1 := rfl
  omega
theorem shw_tup {ds : List PyData} {k : Nat} (h : ∀ d ∈ ds, Shw d k ∧ d.depth ≤ 59) : Shw (.tuple ds) (4 + (k + 2) * ds.length) := by
  obtain ⟨h1, h2, h3, h4⟩ := shw_all h
  refine ⟨by simp [PyData.showable, h1], by simp [PyData.hasDict, h2], by simp only [PyData.depth]; omega, ?_⟩
  simp only [PyData.shown]
  have := tupT_le (PyData.shownAll ds)
  omega
theorem shw_int {x : Int} (h : x.natAbs < 10 ^ 31) : Shw (.int x) 32 ∧ (PyData.int x).depth ≤ 59 := by
  have := shownL [x] fun y hy => by rw [List.mem_singleton.mp hy]; exact h
  obtain ⟨h1, h2, h3, _⟩ := this
  refine ⟨⟨by simpa [PyData.showableAll] using h2, by simp [PyData.hasDict], by simp [PyData.depth], ?_⟩, by simp [PyData.depth]⟩
  simp only [List.map_cons, List.map_nil, PyData.shownAll, piled_cons, piled_nil, List.length_cons, List.length_nil] at h1
  omega
theorem lc_mapG {α : Type} (enc : α → PyData) {el : List MT.Slot → W PyData} {env : List MT.Slot} {i : Nat} {E : Exn → Prop} {g : α → PyData} : ∀ (r : List α), (∀ x ∈ r, ∀ P, P (g x) → el (env.set i (.d (enc x))) P E) → ∀ P, P (r.map g) → lcW (tg1 i) bYes el env (r.map enc) P E
  | [], _, P, hp => hp
  | x :: r, h, P, hp => ⟨_, rfl, h x List.mem_cons_self _ (lc_mapG enc r (fun y hy => h y (List.mem_cons_of_mem _ hy)) _ hp)⟩
def stA (n : Nat) (r : List (List Int)) (l : List Int) : As := l.foldl (ast n r) ⟨rng n, []⟩
theorem stA_snoc {l : List Int} {d : Int} : stA n r (l ++ [d]) = ast n r (stA n r l) d := by unfold stA; rw [List.foldl_append]; rfl
def lsD (s : As) : List PyData := (s.ls.map (· - 1)).map PyData.int
theorem ast_up (s : As) {k : Int} (hk : 0 ≤ k) : (ast n r s (k + 1)).f = stF r s.f k ∧ lsD (ast n r s (k + 1)) = lsD s ++ [.int (ap (bk s.f) k)] := by
  unfold ast lsD
  simp only [if_pos (show 0 < k + 1 by omega), show ((k + 1).natAbs : Int) - 1 = k by omega, true_and]
  simp
theorem map_back (l : List Int) : (l.map (· - 1)).map (· + 1) = l := by
  rw [List.map_map]
  have : ((fun x : Int => x + 1) ∘ fun x => x - 1) = _root_.id := by funext x; show x - 1 + 1 = x; omega
  rw [this, List.map_id]
theorem map_neg (l : List Int) : ((l.map (· - 1)).reverse).map (fun x => -(x + 1)) = rvw l := by
  unfold rvw
  rw [← List.map_reverse, List.map_map]
  refine List.map_congr_left fun x _ => ?_
  show -(x - 1 + 1) = -x
  omega
end
-- LC.lean
section
variable {P : PyData → Prop} {er : Exn → Prop} {n : Nat} {r : List (List Int)}
theorem eqvLI : ∀ a b : List (List Int), PyData.eqvAll (a.map dI) (b.map dI) = decide (a = b)
  | [], [] => by simp [PyData.eqvAll]
  | [], b :: bs => by simp [PyData.eqvAll]
  | a :: as, [] => by simp [PyData.eqvAll]
  | a :: as, b :: bs => by
    simp only [List.map_cons, PyData.eqvAll, eqvLI as bs, eqvI]
    by_cases h : a = b <;> by_cases g : as = bs <;> simp [h, g]
theorem eqvT (a b : List (List Int)) : PyData.eqv (dT a) (dT b) = decide (a = b) := by simp only [dT, PyData.eqv]; exact eqvLI a b
theorem shTt (r : List (List Int)) : SeqAt.shaped (dT r) = true := by
  obtain ⟨a, b⟩ := layLI r
  have e : PyData.depth (dT r) ≤ 64 := by
    have e : PyData.depth (dT r) = PyData.depthAll (r.map dI) + 1 := by simp [PyData.depth, dT]
    rw [e]; omega
  have c : PyData.canLay0 (dT r) = true := by simp [PyData.canLay0, a, dT]
  simp only [SeqAt.shaped, c, decide_eq_true e, Bool.and_self]
theorem shIl (l : List Int) : SeqAt.shaped (.list (l.map PyData.int)) = true := by simp [SeqAt.shaped, PyData.canLay0, PyData.depth, shL l]
theorem eqvNil (l : List Int) : PyData.eqv (.list (l.map PyData.int)) (.list []) = decide (l = []) := by
  have := eqvL l []
  simpa [PyData.eqv] using this
theorem era_map {α β : Type} (f : α → β) : ∀ (l : List α) (j : Nat), (l.map f).eraseIdx j = (l.eraseIdx j).map f
  | [], _ => rfl
  | _ :: _, 0 => rfl
  | a :: l, j + 1 => by simp only [List.map_cons, List.eraseIdx_cons_succ, era_map f l j]
theorem era_perm : ∀ (l : List Int) (j : Nat) (h : j < l.length), (l[j] :: l.eraseIdx j).Perm l
  | [], _, h => absurd h (Nat.not_lt_zero _)
  | a :: l, 0, _ => .refl _
  | a :: l, j + 1, h => by
    have hj : j < l.length := by simpa using h
    have := era_perm l j hj
    simp only [List.getElem_cons_succ, List.eraseIdx_cons_succ]
    exact (List.Perm.swap a l[j] (l.eraseIdx j)).trans (this.cons a)
theorem w_shuffled {l : List Int} (hl : l.length ≤ 100000) (hP : ∀ m : List Int, m.Perm l → P (.list (m.map PyData.int))) : sp__law_shuffled [.dr, .d (.list (l.map PyData.int))] P er := by
  refine ⟨Nat.zero_le _, rfl, l.length + 1, ?_⟩
  have go : ∀ (fuel : Nat) (a b : List Int) (E : DE) (s1 : MT.Slot), a.length < fuel → (b ++ a).Perm l → (∀ m : List Int, m.Perm l → E.nx [.dr, s1, .l [], .l (m.map PyData.int)]) → whileW (asB (dBin oNe (dOw 2) (dLst dNil))) (dAppPop 3 2 (dCallD 2 0 sp__law_take (dCons (dUn oLen (dOw 2)) dNil))) fuel E [.dr, s1, .l (a.map PyData.int), .l (b.map PyData.int)] := fun fuel => by
    induction fuel with
    | zero => intro a b E s1 h; omega
    | succ fuel ih =>
      intro a b E s1 h1 h2 h3
      refine ⟨Nat.zero_le _, shIl a, shIl [], ?_⟩
      show if (!PyData.eqv (.list (a.map PyData.int)) (.list [])) = true then _ else _
      rw [eqvNil]
      by_cases c : a = []
      · subst c
        rw [if_neg (by decide)]
        rw [List.append_nil] at h2
        exact h3 b h2
      · rw [decide_eq_false c, if_pos (by decide)]
        have hl2 := h2.length_eq
        rw [List.length_append] at hl2
        have ha : 0 < a.length := List.length_pos_iff.mpr c
        have eL : (((a.map PyData.int).length : Nat) : Int) = a.length := by rw [List.length_map]
        refine ⟨_, rfl, by decide, _, rfl, rfl, rfl, ?_⟩
        show sp__law_take [.dr, .d (.int (((a.map PyData.int).length : Nat) : Int))] _ _
        rw [eL]
        refine w_take (by omega) (by omega) fun k k0 k1 => ?_
        have hr : Rg a.length k := ⟨k0, k1⟩
        obtain ⟨j, rfl, hj⟩ := hr.nat
        refine ⟨(j : Int), j, .int a[j], rfl, by rw [List.length_map, ixN_rg hr, Int.toNat_natCast], by simp [hj], by rw [List.length_map, sizeLine_eq]; omega, ?_⟩
        have e1 : (a.map PyData.int).eraseIdx j = (a.eraseIdx j).map PyData.int := era_map PyData.int a j
        have e2 : b.map PyData.int ++ [PyData.int a[j]] = (b ++ [a[j]]).map PyData.int := by simp
        have hp : (b ++ [a[j]] ++ a.eraseIdx j).Perm l := by
          rw [List.append_assoc]
          exact (List.Perm.append_left b (era_perm a j hj)).trans h2
        have := ih (a.eraseIdx j) (b ++ [a[j]]) E s1 (by rw [List.length_eraseIdx_of_lt hj]; omega) hp h3
        show whileW _ _ fuel E [.dr, s1, .l ((a.map PyData.int).eraseIdx j), .l (b.map PyData.int ++ [PyData.int a[j]])]
        rw [e1, e2]
        exact this
  exact go (l.length + 1) l [] _ _ (by omega) (.refl _) fun m hm => hP m hm
theorem pm_perm {m : List Int} (h : m.Perm (rng n)) : Pm n m := ⟨h.length_eq.trans (rng_len n), h.nodup_iff.mpr (nd_rng n), fun x hx => mem_rng.mp (h.mem_iff.mp hx)⟩
theorem w_law_undone {l : List Int} (h : Pm n l) (hn : n ≤ 1000000) (hP : P (dI (bk l))) : sp__law_undone [.d (dI l)] P er := by
  have hl : (((l.map PyData.int).length : Nat) : Int) = n := by rw [List.length_map, h.len]
  obtain ⟨b1, b2⟩ := rng1 hn
  show -(2 ^ 62) ≤ (((l.map PyData.int).length : Nat) : Int) ∧ (((l.map PyData.int).length : Nat) : Int) ≤ 16777216 ∧ lcW _ _ _ _ (rgD 0 (((l.map PyData.int).length : Nat) : Int)) _ _
  rw [hl, rgD_rng]
  refine ⟨b1, b2, ?_⟩
  refine lc_ii (g := fun j => ((l.idxOf j : Nat) : Int)) (rng n) (fun x hx P hp => ?_) _ (oTuple_list ?_)
  · exact ⟨_, rfl, rfl, flat_ints l, _, idx_int (h.surj (mem_rng.mp hx)), hp⟩
  · unfold bk at hP
    rw [h.len] at hP
    exact hP
theorem w_behind {f g : List Int} (h : ∀ x ∈ g, Rg f.length x) (hP : P (dI (cmp f g))) : sp__law_behind [.d (dI f), .d (dI g)] P er := w_aft _ rfl h hP
theorem map_dT {l : List Int} {f : Int → List Int} {r : List (List Int)} (e : l.map f = r) : l.map (fun x => dI (f x)) = r.map dI := by rw [← e, List.map_map]; rfl
theorem w_renamedA {p : List Int} (hp : Pm n p) (R : Rule n r) (hn : n ≤ 1000000) (hP : P (dT (renT p n r))) : sp__law_renamed [.d (dT r), .d (dI p)] P er := by
  have hl : (((r.map dI).length : Nat) : Int) = n := by rw [List.length_map, R.len]
  obtain ⟨b1, b2⟩ := rng1 hn
  have pb := hp.bk
  refine ⟨rfl, w_law_undone hp hn ?_⟩
  show -(2 ^ 62) ≤ (((r.map dI).length : Nat) : Int) ∧ (((r.map dI).length : Nat) : Int) ≤ 16777216 ∧ lcW _ _ _ _ (rgD 0 (((r.map dI).length : Nat) : Int)) _ _
  rw [hl, rgD_rng]
  refine ⟨b1, b2, ?_⟩
  refine lc_ints (g := fun x => dI (cj p (rw_ r (ap (bk p) x)))) (rng n) (fun x hx P hq => ?_) _ (oTuple_list ?_)
  · have hx := mem_rng.mp hx
    have bx := hp.bk_mem hx
    have row := R.row _ bx
    show -(2 ^ 62) ≤ (((r.map dI).length : Nat) : Int) ∧ (((r.map dI).length : Nat) : Int) ≤ 16777216 ∧ lcW _ _ _ _ (rgD 0 (((r.map dI).length : Nat) : Int)) _ _
    rw [hl, rgD_rng]
    refine ⟨b1, b2, ?_⟩
    refine lc_ii (g := fun y => ap p (ap (rw_ r (ap (bk p) x)) (ap (bk p) y))) (rng n) (fun y hy P hy2 => ?_) _ (oTuple_list ?_)
    · have hy := mem_rng.mp hy
      have b_y := hp.bk_mem hy
      exact ⟨_, atI_int (by rw [pb.len]; exact hx), _, atR R bx, _, atI_int (by rw [pb.len]; exact hy), _, atI_int (by rw [row.len]; exact b_y), _, atI_int (by rw [hp.len]; exact row.ap_mem b_y), hy2⟩
    · have e : (rng n).map (fun y => ap p (ap (rw_ r (ap (bk p) x)) (ap (bk p) y))) = cj p (rw_ r (ap (bk p) x)) := ext_ap (n := n) (by simp [rng_len]) (cj_len hp) fun y hy => by
        rw [ap_mr (g := fun y => ap p (ap (rw_ r (ap (bk p) x)) (ap (bk p) y))) hy]
        unfold cj
        rw [ap_cmp pb.len hy, ap_cmp row.len (hp.bk_mem hy)]
      rw [e]; exact hq
  · rw [map_dT (f := fun x => cj p (rw_ r (ap (bk p) x))) rfl]
    exact hP
theorem turns_pmA (h1 : 1 ≤ n) (h4 : n ≤ 4) : (∀ t ∈ turnsL n n, Pm n t) ∧ rng n ∈ turnsL n n ∧ (turnsL n n).length ≤ 24 := by
  have all : ∀ n, (n = 1 ∨ n = 2 ∨ n = 3 ∨ n = 4) → (turnsL n n).all (isPm n) = true ∧ rng n ∈ turnsL n n ∧ (turnsL n n).length ≤ 24 := by
    rintro n (rfl | rfl | rfl | rfl) <;> decide +kernel
  obtain ⟨a, b⟩ := all n (by omega)
  exact ⟨fun t ht => isPm_ok (List.all_eq_true.mp a t ht), b⟩
theorem ren_id (R : Rule n r) : renT (rng n) n r = r := by
  have p := pm_rng n
  have hl : (renT (rng n) n r).length = n := by simp [renT, rng_len]
  refine List.ext_getElem (hl.trans R.len.symm) fun k h1 h2 => ?_
  have hk : Rg n (k : Int) := Rg.of (by omega)
  have row := R.row k hk
  have e : r[k] = rw_ r (k : Int) := by unfold rw_; simp [h2]
  rw [e]
  simp only [renT, List.getElem_map]
  have e2 : (rng n)[k]'(by rw [rng_len]; omega) = (k : Int) := by simp [rng]
  rw [e2, bk_rng hk]
  refine ext_ap (n := n) (cj_len p) row.len fun i hi => ?_
  unfold cj
  rw [ap_cmp p.bk.len hi, bk_rng hi, ap_cmp row.len hi, ap_rng (row.ap_mem hi)]
theorem w_namings (R : Rule n r) (h1 : 1 ≤ n) (h4 : n ≤ 4) (hP : P (.list (((turnsL n n).filter fun p => decide (renT p n r = r)).map dI))) : sp__law_namings [.d (dT r)] P er := by
  have hl : (((r.map dI).length : Nat) : Int) = n := by rw [List.length_map, R.len]
  obtain ⟨t1, _, _⟩ := turns_pmA h1 h4
  refine ⟨rfl, ?_⟩
  show sp__law_turns [.d (.int (((r.map dI).length : Nat) : Int))] _ _
  rw [hl]
  refine w_turns h4 ?_
  refine lc_selG dI (fun p => decide (renT p n r = r)) (g := dI) (turnsL n n) (fun p hp => ⟨fun P hq => ⟨rfl, w_renamedA (t1 p hp) R (by omega) ⟨shTt _, shTt _, ?_⟩⟩, fun _ P hp => hp⟩) _ hP
  rw [eqvT]; exact hq
theorem nam_ok (R : Rule n r) (h1 : 1 ≤ n) (h4 : n ≤ 4) : (∀ p ∈ (turnsL n n).filter fun p => decide (renT p n r = r), Ren n p r r) ∧ ((turnsL n n).filter fun p => decide (renT p n r = r)) ≠ [] ∧ ((turnsL n n).filter fun p => decide (renT p n r = r)).length ≤ 24 := by
  obtain ⟨t1, t2, t3⟩ := turns_pmA h1 h4
  refine ⟨fun p hp => ?_, fun z => ?_, Nat.le_trans (List.length_filter_le _ _) t3⟩
  · obtain ⟨a, b⟩ := List.mem_filter.mp hp
    have e : renT p n r = r := of_decide_eq_true b
    have := ren_ok (t1 p a) R
    rwa [e] at this
  · have : rng n ∈ (turnsL n n).filter fun p => decide (renT p n r = r) := List.mem_filter.mpr ⟨t2, decide_eq_true (ren_id R)⟩
    rw [z] at this
    cases this
def litL (l : List Int) : List MT.Slot → W (List PyData) := l.foldr (fun x m => dCons (dC (.int x)) m) dNil
def litI (l : List Int) : List MT.Slot → W PyData := dTup (litL l)
def litT (r : List (List Int)) : List MT.Slot → W PyData := dTup (r.foldr (fun l m => dCons (litI l) m) dNil)
theorem litL_ok {env : List MT.Slot} {E : Exn → Prop} : ∀ (l : List Int) (P : List PyData → Prop), P (l.map PyData.int) → litL l env P E
  | [], P, h => h
  | x :: l, P, h => litL_ok l (fun ds => P (.int x :: ds)) h
theorem litI_ok {env : List MT.Slot} {E : Exn → Prop} {l : List Int} (hl : l.length ≤ 1000) (hP : P (dI l)) : litI l env P E := litL_ok l _ ⟨by rw [List.length_map, sizeLine_eq]; omega, hP⟩
theorem litT_ok {env : List MT.Slot} {E : Exn → Prop} {r : List (List Int)} (hr : r.length ≤ 1000) (hl : ∀ l ∈ r, l.length ≤ 1000) (hP : P (dT r)) : litT r env P E := by
  have go : ∀ (r : List (List Int)) (P : List PyData → Prop), (∀ l ∈ r, l.length ≤ 1000) → P (r.map dI) → (r.foldr (fun l m => dCons (litI l) m) dNil) env P E := fun r => by
    induction r with
    | nil => intro P _ h; exact h
    | cons l r ih =>
      intro P hl h
      exact litI_ok (P := fun x => (r.foldr (fun l m => dCons (litI l) m) dNil) env (fun ds => P (x :: ds)) E) (hl l List.mem_cons_self) (ih (fun ds => P (dI l :: ds)) (fun x hx => hl x (List.mem_cons_of_mem _ hx)) h)
  exact go r _ hl ⟨by rw [List.length_map, sizeLine_eq]; omega, hP⟩
theorem mulT_ok {env : List MT.Slot} {E : Exn → Prop} {l : List Int} {k : Nat} (hl : l.length ≤ 1000) (hk : k ≤ 1000) (hP : P (dT (List.replicate k l))) : dBin oMul (litT [l]) (dC (.int (k : Nat))) env P E := by
  refine litT_ok (by simp) (fun x hx => by rw [List.mem_singleton.mp hx]; exact hl) ?_
  refine ⟨by simp, by omega, by omega, by show 1 ≤ 1000; decide, ?_⟩
  rw [Int.toNat_natCast]
  have e : repD ([l].map dI) k = (List.replicate k l).map dI := by
    unfold repD
    rw [List.map_replicate]
    clear hP hk
    induction k with
    | zero => rfl
    | succ k ih => rw [List.replicate_succ, List.replicate_succ, List.flatten_cons, ih]; rfl
  rw [e]; exact hP
end
section
variable {P : PyData → Prop} {er : Exn → Prop} {n : Nat} {r : List (List Int)}
def smL : List (List (List Int)) := [[[0]], [[0, 1], [0, 1]], [[1, 0], [1, 0]], List.replicate 3 [1, 2, 0], [[0, 2, 1], [0, 1, 2], [0, 1, 2]], List.replicate 3 [0, 2, 1], [[0, 1, 2], [0, 1, 2], [1, 0, 2]], [[1, 0, 3, 2], [3, 2, 1, 0], [1, 0, 3, 2], [3, 2, 1, 0]], [[1, 0, 2, 3], [2, 3, 1, 0], [0, 1, 3, 2], [3, 2, 0, 1]], List.replicate 4 [1, 2, 3, 0]]
def smE : List MT.Slot → W PyData := dLst (dCons (litT [[0]]) (dCons (litT [[0, 1], [0, 1]]) (dCons (litT [[1, 0], [1, 0]]) (dCons (dBin oMul (litT [[1, 2, 0]]) (dC (.int 3))) (dCons (litT [[0, 2, 1], [0, 1, 2], [0, 1, 2]]) (dCons (dBin oMul (litT [[0, 2, 1]]) (dC (.int 3))) (dCons (litT [[0, 1, 2], [0, 1, 2], [1, 0, 2]]) (dCons (litT [[1, 0, 3, 2], [3, 2, 1, 0], [1, 0, 3, 2], [3, 2, 1, 0]]) (dCons (litT [[1, 0, 2, 3], [2, 3, 1, 0], [0, 1, 3, 2], [3, 2, 0, 1]]) (dCons (dBin oMul (litT [[1, 2, 3, 0]]) (dC (.int 4))) dNil))))))))))
theorem cons_ok {m : List MT.Slot → W PyData} {mr : List MT.Slot → W (List PyData)} {env : List MT.Slot} {Q : List PyData → Prop} {E : Exn → Prop} (h : m env (fun x => mr env (fun r => Q (x :: r)) E) E) : dCons m mr env Q E := h
theorem lst_ok {m : List MT.Slot → W (List PyData)} {env : List MT.Slot} {Q : PyData → Prop} {E : Exn → Prop} (h : m env (fun ds => ds.length ≤ sizeLine ∧ Q (.list ds)) E) : dLst m env Q E := h
theorem seqSet_ok {i : Nat} {m : List MT.Slot → W PyData} {K : WS} {E : DE} {env : List MT.Slot} (h : m env (fun d => K E (env.set i (.d d))) E.er) : dSeq (dSet i m) K E env := h
theorem smE_ok {env : List MT.Slot} {Q : PyData → Prop} (hP : Q (.list (smL.map dT))) : smE env Q er := by
  unfold smE
  refine lst_ok ?_
  refine cons_ok (litT_ok (r := [[0]]) (by decide) (by decide) ?_)
  refine cons_ok (litT_ok (r := [[0, 1], [0, 1]]) (by decide) (by decide) ?_)
  refine cons_ok (litT_ok (r := [[1, 0], [1, 0]]) (by decide) (by decide) ?_)
  refine cons_ok (mulT_ok (l := [1, 2, 0]) (k := 3) (by decide) (by decide) ?_)
  refine cons_ok (litT_ok (r := [[0, 2, 1], [0, 1, 2], [0, 1, 2]]) (by decide) (by decide) ?_)
  refine cons_ok (mulT_ok (l := [0, 2, 1]) (k := 3) (by decide) (by decide) ?_)
  refine cons_ok (litT_ok (r := [[0, 1, 2], [0, 1, 2], [1, 0, 2]]) (by decide) (by decide) ?_)
  refine cons_ok (litT_ok (r := [[1, 0, 3, 2], [3, 2, 1, 0], [1, 0, 3, 2], [3, 2, 1, 0]]) (by decide) (by decide) ?_)
  refine cons_ok (litT_ok (r := [[1, 0, 2, 3], [2, 3, 1, 0], [0, 1, 3, 2], [3, 2, 0, 1]]) (by decide) (by decide) ?_)
  refine cons_ok (mulT_ok (l := [1, 2, 3, 0]) (k := 4) (by decide) (by decide) ?_)
  exact ⟨by show 10 ≤ sizeLine; decide, hP⟩
theorem small_fb : fb__law_small = dSeq (dSet 2 smE) (dRet (dCallD 2 0 sp__law_pick (dCons (dLc (dItems (dNm 2)) (tg1 3) (asB (dBin (oCmp fun i j => decide (i ≤ j)) (dUn oLen (dNm 3)) (dNm 1))) (dNm 3) [3]) dNil))) := rfl
theorem smL_ok : ∀ r ∈ smL, chkR r.length r = true ∧ 1 ≤ r.length ∧ r.length ≤ 4 := by decide +kernel
structure Sml (most n : Nat) (r : List (List Int)) : Prop where
  R : Rule n r
  p : 1 ≤ n
  q : n ≤ 4
  m : n ≤ most
theorem w_small {most : Nat} (h0 : 1 ≤ most) (h9 : most ≤ 100) (hP : ∀ n r, Sml most n r → P (dT r)) : sp__law_small [.dr, .d (.int (most : Nat))] P er := by
  show bodyW 4 fb__law_small _ _ _
  rw [small_fb]
  refine seqSet_ok (smE_ok ?_)
  refine ⟨rfl, ?_⟩
  refine lc_selG dT (fun r => decide ((r.length : Int) ≤ (most : Int))) (g := dT) smL (fun r hr => ⟨fun P hp => ?_, fun _ P hp => hp⟩) _ ?_
  · show P (decide ((((r.map dI).length : Nat) : Int) ≤ (most : Int)))
    rw [List.length_map]; exact hp
  · have hm : [[0]] ∈ smL.filter fun r => decide ((r.length : Int) ≤ (most : Int)) := List.mem_filter.mpr ⟨by decide, decide_eq_true (by show (1 : Int) ≤ most; omega)⟩
    refine ⟨rfl, w_pick (fun z => ?_) ?_ fun d hd => ?_⟩
    · have z : (smL.filter fun r => decide ((r.length : Int) ≤ (most : Int))) = [] := by simpa using z
      rw [z] at hm
      cases hm
    · rw [List.length_map]
      have := List.length_filter_le (fun r : List (List Int) => decide ((r.length : Int) ≤ (most : Int))) smL
      have : smL.length = 10 := rfl
      omega
    · obtain ⟨r, hr, rfl⟩ := List.mem_map.mp hd
      obtain ⟨h1, h2⟩ := List.mem_filter.mp hr
      obtain ⟨c1, c2, c3⟩ := smL_ok r h1
      have h2 := of_decide_eq_true h2
      exact hP _ r ⟨chkR_ok c1, c2, c3, by omega⟩
theorem sm_row {n m : Nat} {p q : List Int} (hq : q.length = m) : p.map PyData.int ++ ((rng m).map fun y => (n : Int) + ap q y).map PyData.int = (sm n p q).map PyData.int := by
  unfold sm
  rw [List.map_append]
  congr 2
  have : q = (rng m).map (ap q) := (map_ap hq).symm
  conv => rhs; rw [this]
  rw [List.map_map]; rfl
theorem w_beside {n m : Nat} {one other : List (List Int)} (R : Rule n one) (S : Rule m other) (h1 : 1 ≤ n) (h2 : n ≤ 4) (g1 : 1 ≤ m) (g2 : m ≤ 4) (hP : ∀ a b, Ren n a one one → Ren m b other other → P (dT (bsd n m one other a b))) : sp__law_beside [.dr, .d (dT one), .d (dT other)] P er := by
  have hln : (((one.map dI).length : Nat) : Int) = n := by rw [List.length_map, R.len]
  have hlm : (((other.map dI).length : Nat) : Int) = m := by rw [List.length_map, S.len]
  obtain ⟨b1, b2⟩ := rng1 (n := n) (by omega)
  obtain ⟨c1, c2⟩ := rng1 (n := m) (by omega)
  refine ⟨rfl, ?_⟩
  show dSeq _ _ _ [.dr, .d (dT one), .d (dT other), .d (.int (((one.map dI).length : Nat) : Int)), .d (.int (((other.map dI).length : Nat) : Int)), .un, .un, .un, .un, .un, .un]
  rw [hln, hlm]
  show if decide ((n : Int) < 5) = true then _ else _
  rw [if_pos (decide_eq_true (by omega))]
  obtain ⟨n1, n2, n3⟩ := nam_ok R h1 h2
  obtain ⟨m1, m2, m3⟩ := nam_ok S g1 g2
  refine ⟨rfl, rfl, w_namings R h1 h2 ⟨rfl, w_pick (by simpa using n2) (by rw [List.length_map]; omega) fun d hd => ?_⟩⟩
  obtain ⟨a, ha, rfl⟩ := List.mem_map.mp hd
  have A := n1 a ha
  show if decide ((m : Int) < 5) = true then _ else _
  rw [if_pos (decide_eq_true (by omega))]
  refine ⟨rfl, rfl, w_namings S g1 g2 ⟨rfl, w_pick (by simpa using m2) (by rw [List.length_map]; omega) fun d hd => ?_⟩⟩
  obtain ⟨b, hb, rfl⟩ := List.mem_map.mp hd
  have B := m1 b hb
  have hPP := hP a b A B
  show -(2 ^ 62) ≤ (n : Int) ∧ (n : Int) ≤ 16777216 ∧ lcW _ _ _ _ (rgD 0 (n : Int)) _ _
  rw [rgD_rng]
  refine ⟨b1, b2, ?_⟩
  refine lc_ints (g := fun x => dI (sm n (rw_ one x) b)) (rng n) (fun x hx P hq => ?_) _ ?_
  · have hx := mem_rng.mp hx
    refine ⟨_, atR R hx, ?_⟩
    show -(2 ^ 62) ≤ (m : Int) ∧ (m : Int) ≤ 16777216 ∧ lcW _ _ _ _ (rgD 0 (m : Int)) _ _
    rw [rgD_rng]
    refine ⟨c1, c2, ?_⟩
    refine lc_ii (g := fun y => (n : Int) + ap b y) (rng m) (fun y hy P hy2 => ?_) _ (oTuple_list ?_)
    · exact ⟨_, atI_int (by rw [B.pm.len]; exact mem_rng.mp hy), hy2⟩
    · refine ⟨by rw [List.length_map, List.length_map, List.length_map, rng_len, (R.row x hx).len, sizeLine_eq]; omega, ?_⟩
      rw [sm_row B.pm.len]
      exact hq
  · show -(2 ^ 62) ≤ (m : Int) ∧ (m : Int) ≤ 16777216 ∧ lcW _ _ _ _ (rgD 0 (m : Int)) _ _
    rw [rgD_rng]
    refine ⟨c1, c2, ?_⟩
    refine lc_ints (g := fun y => dI (sm n a (rw_ other y))) (rng m) (fun y hy P hq => ?_) _ ?_
    · have hy := mem_rng.mp hy
      refine ⟨_, atR S hy, ?_⟩
      refine lc_ii (g := fun k => (n : Int) + k) (rw_ other y) (fun k _ P hk => hk) _ (oTuple_list ?_)
      refine ⟨by rw [List.length_map, List.length_map, List.length_map, A.pm.len, (S.row y hy).len, sizeLine_eq]; omega, ?_⟩
      rw [← List.map_append]
      exact hq
    · refine ⟨by rw [List.length_map, List.length_map, rng_len, rng_len, sizeLine_eq]; omega, oTuple_list ?_⟩
      have e : ((rng n).map fun x => dI (sm n (rw_ one x) b)) ++ ((rng m).map fun y => dI (sm n a (rw_ other y))) = (bsd n m one other a b).map dI := by
        unfold bsd
        rw [List.map_append, List.map_map, List.map_map]; rfl
      rw [e]
      exact hPP
theorem w_ruleA {most : Nat} (h0 : 1 ≤ most) (h9 : most ≤ 8) (hP : ∀ n r, 1 ≤ n → n ≤ most → Rule n r → P (dT r)) : sp__law_rule [.dr, .d (.int (most : Nat))] P er := by
  have tail : ∀ (n : Nat) (r : List (List Int)), 1 ≤ n → n ≤ most → Rule n r → (dRet (dCall 2 sp__law_renamed (dCons (dNm 2) (dCons (dUn oTuple (dCallD 2 0 sp__law_shuffled (dCons (dLstRg (dRg1 (dUn oLen (dNm 2)))) dNil))) dNil)))) ⟨fun _ => P .none, fun _ d => P d, fun _ => False, fun _ => False, er⟩ [.dr, .d (.int (most : Nat)), .d (dT r)] := fun n r h1 h2 R => by
    have hl : (((r.map dI).length : Nat) : Int) = n := by rw [List.length_map, R.len]
    refine ⟨rfl, ?_⟩
    show RgOk 0 (((r.map dI).length : Nat) : Int) ∧ _ ∧ sp__law_shuffled [.dr, .d (.list (rgD 0 (((r.map dI).length : Nat) : Int)))] _ _
    rw [hl, rgD_rng]
    refine ⟨rgOk0 (by omega), rfl, w_shuffled (by rw [rng_len]; omega) fun m hm => oTuple_list ?_⟩
    have pm := pm_perm hm
    exact ⟨rfl, w_renamedA pm R (by omega) (hP n _ h1 h2 ((ren_ok pm R).rule R))⟩
  refine ⟨rfl, rfl, w_small h0 (by omega) fun n r s => ?_⟩
  have hl : (((r.map dI).length : Nat) : Int) = n := by rw [List.length_map, s.R.len]
  show if decide ((((r.map dI).length : Nat) : Int) < (most : Int)) = true then _ else _
  rw [hl]
  by_cases c : n < most
  · rw [if_pos (decide_eq_true (by omega))]
    refine ⟨rfl, rfl, w_take (by decide) (by decide) fun k k0 k1 => ⟨sh_int _, sh_int _, ?_⟩⟩
    show if PyData.eqv (.int k) (.int 0) = true then _ else _
    rw [eqv_int]
    by_cases z : k = 0
    · rw [if_pos (decide_eq_true z)]
      have em : (most : Int) - (((r.map dI).length : Nat) : Int) = ((most - n : Nat) : Int) := by rw [hl]; omega
      refine ⟨rfl, rfl, rfl, ?_⟩
      show sp__law_small [.dr, .d (.int ((most : Int) - (((r.map dI).length : Nat) : Int)))] _ _
      rw [em]
      refine w_small (by omega) (by omega) fun m o t => ?_
      refine ⟨rfl, w_beside s.R t.R s.p s.q t.p t.q fun a b A B => ?_⟩
      have tm := t.m
      have sp := s.p
      exact tail (n + m) _ (by omega) (by omega) (bsd_rule s.R t.R A B)
    · rw [if_neg (by rw [decide_eq_true_eq]; exact z)]
      exact tail n r s.p s.m s.R
  · rw [if_neg (by rw [decide_eq_true_eq]; omega)]
    exact tail n r s.p s.m s.R
end
section
variable {P : PyData → Prop} {er : Exn → Prop} {n : Nat} {r : List (List Int)}
theorem w_own (R : Rule n r) (hn : n ≤ 1000000) (hP : P (dI (dgn n r))) : sp__law_own [.d (dT r)] P er := by
  have hl : (((r.map dI).length : Nat) : Int) = n := by rw [List.length_map, R.len]
  obtain ⟨b1, b2⟩ := rng1 hn
  show -(2 ^ 62) ≤ (((r.map dI).length : Nat) : Int) ∧ (((r.map dI).length : Nat) : Int) ≤ 16777216 ∧ lcW _ _ _ _ (rgD 0 (((r.map dI).length : Nat) : Int)) _ _
  rw [hl, rgD_rng]
  refine ⟨b1, b2, ?_⟩
  refine lc_ii (g := fun x => ap (bk (rw_ r x)) x) (rng n) (fun x hx P hp => ?_) _ (oTuple_list hP)
  have hx := mem_rng.mp hx
  have row := R.row x hx
  refine ⟨_, atR R hx, _, rfl, rfl, flat_ints (rw_ r x), _, idx_int (row.surj hx), ?_⟩
  rw [← ap_bk row hx]
  exact hp
abbrev wkB : WS := dSeq (dSet 7 (dBin oSub (dUn oAbs (dNm 6)) (dC (.int 1))))
  (dIfS (asB (dBin (oCmp fun i j => decide (j < i)) (dNm 6) (dC (.int 0)))) (dSeq (dSet 8 (dBin oIx (dNm 3) (dNm 7)))
  (dSeq (dPut 2 (dBin oAdd (dBin oIx (dOw 2) (dNm 8)) (dC (.int 1))) (dNm 8))
  (dSeq (dSet 3 (dCall 2 sp__law_behind (dCons (dNm 3) (dCons (dBin oIx (dNm 0) (dNm 7)) dNil))))
  (dSet 4 (dBin oAdd (dNm 4) (dTup (dCons (dBin oAdd (dNm 8) (dC (.int 1))) dNil))))))) (dSeq (dSet 8 (dBin oIx (dNm 3) (dBin oIx (dNm 5) (dNm 7))))
  (dSeq (dPut 2 (dBin oSub (dBin oIx (dOw 2) (dNm 8)) (dC (.int 1))) (dNm 8))
  (dSeq (dSet 3 (dCall 2 sp__law_behind (dCons (dNm 3) (dCons (dCall 1 sp__law_undone (dCons (dBin oIx (dNm 0) (dNm 7)) dNil)) dNil))))
  (dSet 4 (dBin oAdd (dNm 4) (dTup (dCons (dBin oSub (dUn oNeg (dNm 8)) (dC (.int 1))) dNil))))))))
theorem wk_step (R : Rule n r) (hn : n ≤ 1000000) {s : Ws} (ok : Wok n s) (hz : s.ds.length ≤ 1000000) {l : Int} (hl : MF.Lt n l) {s1 s7 s8 : MT.Slot} {E : DE} (h : ∀ s7 s8, E.nx [.d (dT r), s1, .l ((MF.wst r s l).v.map PyData.int), .d (dI (MF.wst r s l).f), .d (dI (MF.wst r s l).ds), .d (dI (dgn n r)), .d (.int l), s7, s8]) :
    wkB E [.d (dT r), s1, .l (s.v.map PyData.int), .d (dI s.f), .d (dI s.ds), .d (dI (dgn n r)), .d (.int l), s7, s8] := by
  have hx := hl.rg
  have hrow := R.row _ hx
  have rf := ok.f
  have dz : ∀ d : Int, (s.ds.map PyData.int).length + [PyData.int d].length ≤ sizeLine := fun d => by rw [List.length_map, List.length_singleton, sizeLine_eq]; omega
  have edz : ∀ d : Int, PyData.tuple (s.ds.map PyData.int ++ [PyData.int d]) = dI (s.ds ++ [d]) := fun d => by simp [dI]
  have z1 : 1 ≤ sizeLine := by decide
  refine seqSetI ((if l < 0 then -l else l) - 1) ((l.natAbs : Int) - 1) (fun P h => h) (by rw [abs_eq]) ?_
  have ed : ap (dgn n r) ((l.natAbs : Int) - 1) = ap (bk (rw_ r ((l.natAbs : Int) - 1))) ((l.natAbs : Int) - 1) := ap_mr (g := fun x => ap (bk (rw_ r x)) x) hx
  have hdg : (dgn n r).length = n := dgn_len
  generalize dgn n r = D at ed hdg h ⊢
  show if decide (0 < l) = true then _ else _
  by_cases c : 0 < l
  · rw [if_pos (decide_eq_true c)]
    have e3 : MF.wst r s l = ⟨cmp s.f (rw_ r ((l.natAbs : Int) - 1)), MF.ad s.v (ap s.f ((l.natAbs : Int) - 1)) 1, s.ds ++ [ap s.f ((l.natAbs : Int) - 1) + 1]⟩ := by unfold MF.wst; simp only [if_pos c]
    rw [e3] at h
    generalize (l.natAbs : Int) - 1 = x at hx hrow h ⊢
    have ht := rf.ap_mem hx
    refine ⟨_, atI_int (by rw [rf.len]; exact hx), _, rfl, _, atI_int (by rw [ok.v]; exact ht), _, (ap s.f x).toNat, rfl, by rw [List.length_map, ok.v]; exact ixN_rg ht, ?_⟩
    refine ⟨_, atR R hx, rfl, w_behind (rf.mm hrow) ⟨z1, dz _, ?_⟩⟩
    have := h (.d (.int x)) (.d (.int (ap s.f x)))
    rw [← set_ad, ← edz] at this
    exact this
  · rw [if_neg (by rw [decide_eq_true_eq]; exact c)]
    have e3 : MF.wst r s l = ⟨cmp s.f (bk (rw_ r ((l.natAbs : Int) - 1))), MF.ad s.v (ap s.f (ap (bk (rw_ r ((l.natAbs : Int) - 1))) ((l.natAbs : Int) - 1))) (-1), s.ds ++ [-(ap s.f (ap (bk (rw_ r ((l.natAbs : Int) - 1))) ((l.natAbs : Int) - 1))) - 1]⟩ := by unfold MF.wst; simp only [if_neg c]
    rw [e3, ← ed] at h
    generalize (l.natAbs : Int) - 1 = x at hx hrow h ed ⊢
    have hd : Rg n (ap D x) := by rw [ed]; exact hrow.bk_mem hx
    have ht := rf.ap_mem hd
    refine ⟨_, atI_int (by rw [hdg]; exact hx), _, atI_int (by rw [rf.len]; exact hd), _, rfl, _, atI_int (by rw [ok.v]; exact ht), _, (ap s.f (ap D x)).toNat, rfl, by rw [List.length_map, ok.v]; exact ixN_rg ht, ?_⟩
    refine ⟨_, atR R hx, rfl, w_law_undone hrow hn ⟨rfl, w_behind (rf.mm hrow.bk) ⟨z1, dz _, ?_⟩⟩⟩
    have := h (.d (.int x)) (.d (.int (ap s.f (ap D x))))
    rw [← set_ad, ← edz] at this
    exact this
theorem pw_succ {l : List Int} (h : Pm n l) {x : Int} (hx : Rg n x) (k : Nat) : ap (pw l n (k + 1)) x = ap l (ap (pw l n k) x) := by
  have := pw_add h 1 hx k
  rw [Nat.add_comm] at this
  rw [this]
  have q := (pw_pm h k).ap_mem hx
  show ap (cmp (rng n) l) _ = _
  rw [ap_cmp h.len q, ap_rng (h.ap_mem q)]
theorem rnd {l : List Int} (h : Pm n l) {x : Int} (hx : Rg n x) : ∃ p, 0 < p ∧ p ≤ n ∧ ap (pw l n p) x = x ∧ ∀ j, 0 < j → j < p → ap (pw l n j) x ≠ x := by
  obtain ⟨p, p0, p1, p2⟩ := pw_per h hx
  have go : ∀ m, (∃ q, 0 < q ∧ q ≤ m ∧ q ≤ p ∧ ap (pw l n q) x = x ∧ ∀ j, 0 < j → j < q → ap (pw l n j) x ≠ x) ∨ ∀ j, 0 < j → j ≤ m → ap (pw l n j) x ≠ x := fun m => by
    induction m with
    | zero => exact .inr fun j h1 h2 => by omega
    | succ m ih =>
      rcases ih with ⟨q, a, b, c, d⟩ | ih
      · exact .inl ⟨q, a, by omega, c, d⟩
      · by_cases e : ap (pw l n (m + 1)) x = x
        · by_cases c : m + 1 ≤ p
          · exact .inl ⟨m + 1, by omega, by omega, c, e, fun j h1 h2 => ih j h1 (by omega)⟩
          · exact absurd p2 (ih p p0 (by omega))
        · refine .inr fun j h1 h2 => ?_
          by_cases c : j = m + 1
          · subst c; exact e
          · exact ih j h1 (by omega)
  rcases go p with ⟨q, a, b, c, d, e⟩ | z
  · exact ⟨q, a, by omega, d, e⟩
  · exact absurd p2 (z p p0 (Nat.le_refl _))
theorem pw_mod {l : List Int} (h : Pm n l) {x : Int} (hx : Rg n x) {p : Nat} (e : ap (pw l n p) x = x) (k : Nat) : ap (pw l n k) x = ap (pw l n (k % p)) x := by
  have : k = k % p + p * (k / p) := (Nat.mod_add_div k p).symm
  conv => lhs; rw [this]
  rw [pw_add h _ hx, pw_mul h hx e]
def lin (l : List Int) (n : Nat) (x : Int) (k : Nat) : List Int := (List.range k).map fun j => ap (pw l n j) x
end
section
variable {n : Nat} {r : List (List Int)} {w : List Int}

theorem le_ltA (hn : n ≤ 8) (h : ∀ l ∈ w, MF.Lt n l) : Le 8 w := fun x hx => by
  obtain ⟨_, a, b⟩ := h x hx
  omega
theorem le_pm {l : List Int} (hn : n ≤ 8) (h : Pm n l) : Le 8 l := fun x hx => by
  obtain ⟨a, b⟩ := h.mem x hx
  omega
theorem wl_dszA : (MF.wl n r w).ds.length = w.length := by
  have := wl_ds_len (r := r) w ⟨rng n, zer n, []⟩
  rw [List.length_nil, Nat.zero_add] at this
  exact this
theorem sI {k : Nat} {v : List Int} (h : Le k v) (hk : k ≤ 10 ^ 30) (hl : v.length ≤ 100) : Shw (dI v) 10000 ∧ (dI v).depth ≤ 59 := ⟨shw_le h hk hl, by simp [dI, PyData.depth, shL v]⟩
theorem Shw.mono {d : PyData} {j k : Nat} (h : Shw d j) (hk : j ≤ k) : Shw d k := ⟨h.a, h.b, h.c, Nat.le_trans h.l hk⟩
theorem sB (b : Bool) : Shw (.bool b) 10000 ∧ (PyData.bool b).depth ≤ 59 := by
  cases b <;> exact ⟨⟨by decide +kernel, by decide +kernel, by decide +kernel, by decide +kernel⟩, by decide +kernel⟩
theorem same_list {ds : List PyData} {P : PyData → Prop} {er : Exn → Prop} (h : ∀ d ∈ ds, Shw d 10000 ∧ d.depth ≤ 59) (hl : ds.length ≤ 20) (hP : P (.bool true)) : sp__law_same [.d (.list ds), .d (.list ds)] P er := w_same (shw_list h) (by omega) hP
theorem add_dI {a b : List Int} {P : PyData → Prop} {E : Exn → Prop} (h : a.length + b.length ≤ 100000) (hP : P (dI (a ++ b))) : oAdd (dI a) (dI b) P E := by
  refine ⟨by rw [List.length_map, List.length_map, sizeLine_eq]; omega, ?_⟩
  rw [← List.map_append]; exact hP
theorem mul_zer {P : PyData → Prop} {E : Exn → Prop} (hn : n ≤ 1000) (hP : P (dI (zer n))) : oMul (.tuple [.int 0]) (.int (n : Nat)) P E := by
  refine ⟨by simp, by omega, by omega, by show 1 ≤ 1000; decide, ?_⟩
  rw [Int.toNat_natCast, rep_c]
  exact hP
theorem ne_same {d : PyData} {P : Bool → Prop} (he : PyData.eqv d d = true) (h : P false) : P (!PyData.eqv d d) := by rw [he]; exact h
theorem Rule.pairG (R : Rule n r) {a b : List Int} (ha : ∀ l ∈ a, MF.Lt n l) (hb : ∀ l ∈ b, MF.Lt n l) {e : Int} (he : MF.Lt n e) : (MF.wl n r (a ++ e :: -e :: b)).v = (MF.wl n r (a ++ b)).v := by
  have m1 : ∀ x ∈ [e], MF.Lt n x := fun x hx => by rw [List.mem_singleton.mp hx]; exact he
  have m2 : ∀ x ∈ [-e], MF.Lt n x := fun x hx => by rw [List.mem_singleton.mp hx]; exact he.neg
  have m3 : ∀ x ∈ [e] ++ [-e], MF.Lt n x := fun x hx => by
    rcases List.mem_append.mp hx with h | h
    · exact m1 x h
    · exact m2 x h
  have m4 : ∀ x ∈ ([e] ++ [-e]) ++ b, MF.Lt n x := fun x hx => by
    rcases List.mem_append.mp hx with h | h
    · exact m3 x h
    · exact hb x h
  have e1 : a ++ e :: -e :: b = a ++ (([e] ++ [-e]) ++ b) := by simp
  rw [e1, R.wl_app ha m4, R.wl_app m3 hb, R.wl_app m1 m2, R.wl_neg he, R.inv_r (R.wl_len m1), R.one_l (R.wl_len hb), R.wl_app ha hb]
theorem ast_posl (R : Rule n r) : ∀ (ds : List Int) (s : As), (∀ d ∈ ds, MF.Lt n d ∧ 0 < d) → Rch n r s.f → (∀ l ∈ s.ls, 0 < l) → ∀ l ∈ (ds.foldl (ast n r) s).ls, 0 < l
  | [], s, _, _, h => h
  | d :: ds, s, hd, hf, h => by
    obtain ⟨h1, h2⟩ := hd d List.mem_cons_self
    refine ast_posl R ds (ast n r s d) (fun x hx => hd x (List.mem_cons_of_mem _ hx)) (ast_rch R hf h1) fun l hl => ?_
    unfold ast at hl
    simp only [if_pos h2] at hl
    rcases List.mem_append.mp hl with hl | hl
    · exact h l hl
    · rw [List.mem_singleton.mp hl]
      have := ((R.rpm hf).bk_mem h1.rg).1
      omega
theorem risF_pos : ∀ (v : List Int) (k : Int), 0 ≤ k → ∀ d ∈ risF k v, k < d
  | [], k, _, d, h => (nomatch h)
  | x :: v, k, h0, d, h => by
    rcases List.mem_append.mp h with h | h
    · rw [List.eq_of_mem_replicate h]; omega
    · have := risF_pos v (k + 1) (by omega) d h; omega
theorem risF_le : ∀ (v : List Int) (k : Int), (risF k v).Pairwise (fun a b : Int => a ≤ b) ∧ ∀ d ∈ risF k v, k + 1 ≤ d
  | [], k => ⟨List.Pairwise.nil, fun _ h => (nomatch h)⟩
  | x :: v, k => by
    obtain ⟨h1, h2⟩ := risF_le v (k + 1)
    refine ⟨?_, fun d hd => ?_⟩
    · show (List.replicate x.toNat (k + 1) ++ risF (k + 1) v).Pairwise _
      refine List.pairwise_append.mpr ⟨?_, h1, fun a ha b hb => ?_⟩
      · exact List.pairwise_replicate.mpr (.inr (Int.le_refl _))
      · rw [List.eq_of_mem_replicate ha]; have := h2 b hb; omega
    · rcases List.mem_append.mp hd with hd | hd
      · rw [List.eq_of_mem_replicate hd]; exact Int.le_refl _
      · have := h2 d hd; omega
theorem wst_negl (R : Rule n r) : ∀ (w : List Int) (s : Ws), (∀ l ∈ w, MF.Lt n l ∧ l < 0) → Wok n s → ∃ g, (w.foldl (MF.wst r) s).ds = s.ds ++ g ∧ ∀ d ∈ g, d < 0
  | [], s, _, _ => ⟨[], by simp, fun _ h => (nomatch h)⟩
  | l :: w, s, hw, hs => by
    obtain ⟨h1, h2⟩ := hw l List.mem_cons_self
    obtain ⟨g, e1, e2⟩ := wst_negl R w (MF.wst r s l) (fun x hx => hw x (List.mem_cons_of_mem _ hx)) (R.wst hs h1)
    refine ⟨dirL r s.f l :: g, ?_, fun d hd => ?_⟩
    · show (w.foldl (MF.wst r) (MF.wst r s l)).ds = _
      rw [e1, wst_ds, List.append_assoc]; rfl
    · rcases List.mem_cons.mp hd with rfl | hd
      · unfold dirL
        rw [if_neg (by omega)]
        have := (R.dir hs.f h1.rg).2.1
        omega
      · exact e2 d hd
theorem Rule.wdt_ds (R : Rule n r) {v : List Int} (hv : v.length = n) : ∃ g, (MF.wl n r (wdt n r v)).ds = risF 0 (psv v) ++ g ∧ ∀ d ∈ g, d < 0 := by
  have ha := R.here (ris_a R hv)
  have hb := R.here (ris_b R hv)
  have pb : ∀ l ∈ alg n r (risF 0 (wdb n r v)), 0 < l := ast_posl R _ ⟨rng n, []⟩ (fun d hd => ⟨ris_b R hv d hd, risF_pos _ 0 (by omega) d hd⟩) (Rch.id r) fun _ h => (nomatch h)
  have nb : ∀ l ∈ rvw (alg n r (risF 0 (wdb n r v))), MF.Lt n l ∧ l < 0 := fun l hl => by
    refine ⟨rvw_lt hb.2.1 l hl, ?_⟩
    obtain ⟨x, hx, rfl⟩ := List.mem_map.mp hl
    have := pb x (List.mem_reverse.mp hx)
    omega
  obtain ⟨g, e1, e2⟩ := wst_negl R _ (MF.wl n r (alg n r (risF 0 (psv v)))) nb (R.wl_ok ha.2.1)
  refine ⟨g, ?_, e2⟩
  unfold wdt MF.wl
  rw [List.foldl_append]
  refine e1.trans ?_
  rw [ha.1]
theorem bw_none {a b : Int} {P : PyData → Prop} {er : Exn → Prop} (h : P (.bool false)) : sp_is_between [.d .none, .d (.int a), .d (.int b)] P er := ⟨rfl, h⟩
theorem bw_true {a b : Int} {P : PyData → Prop} {er : Exn → Prop} (h : P (.bool false)) : sp_is_between [.d (.bool true), .d (.int a), .d (.int b)] P er := ⟨rfl, h⟩
theorem falses {α : Type} : ∀ l : List α, boolsOf (l.map fun _ => PyData.bool false) = some (l.map fun _ => false)
  | [] => rfl
  | _ :: l => by simp only [List.map_cons, boolsOf, falses l]; rfl
theorem repD_one (d : PyData) (k : Nat) : repD [d] k = List.replicate k d := by
  unfold repD
  induction k with
  | zero => rfl
  | succ k ih => rw [List.replicate_succ, List.replicate_succ, List.flatten_cons, ih]; rfl
theorem mul_rep {d : PyData} {m : Nat} {P : PyData → Prop} {E : Exn → Prop} (hm : m ≤ 1000) (hP : P (.tuple (List.replicate m d))) : oMul (.tuple [d]) (.int (m : Nat)) P E := by
  refine ⟨by simp, by omega, by omega, by show 1 ≤ 1000; decide, ?_⟩
  rw [Int.toNat_natCast, repD_one]
  exact hP
theorem atomic_nil {c : Str} : atomic ⟨c, []⟩ := by intro f hf; cases hf
end
-- LD.lean
section
variable {P : PyData → Prop} {er : Exn → Prop} {n : Nat} {r : List (List Int)}
def TT (n : Nat) (d : PyData) (b : Bool) : Prop := ∀ (P : PyData → Prop) (er : Exn → Prop), P (.bool b) → sp_is_turn_told [.d (.int n), .d d] P er
def BW (n : Nat) (d : PyData) (b : Bool) : Prop := ∀ (P : PyData → Prop) (er : Exn → Prop), P (.bool b) → sp_is_between [.d d, .d (.int 0), .d (.int ((n : Int) - 1))] P er
theorem bw_int (x : Int) : BW n (.int x) (decide (0 ≤ x ∧ x ≤ (n : Int) - 1)) := fun P er h => w_is_between h
theorem bw_non : BW n .none false := fun P er h => ⟨rfl, h⟩
theorem bw_bl {b : Bool} : BW n (.bool b) false := fun P er h => ⟨rfl, h⟩
theorem bw_str {b : Str} : BW n (.str b) false := fun P er h => ⟨rfl, h⟩
theorem tt_pm {l : List Int} (h : Pm n l) : TT n (dI l) true := fun P er hP => w_is_turn_told h hP
theorem tt_list {l : List PyData} : TT n (.list l) false := fun P er h => ⟨rfl, h⟩
theorem tt_non : TT n .none false := fun P er h => ⟨rfl, h⟩
theorem tt_len {ds : List PyData} (h : ds.length ≠ n) : TT n (.tuple ds) false := fun P er hP => by
  refine ⟨rfl, w_is_tuple ?_⟩
  rw [decide_eq_false (by omega)]
  exact hP
theorem tt_bad {ds : List PyData} (bf : PyData → Bool) (h : ds.length = n) (hb : ∀ d ∈ ds, BW n d (bf d)) (hf : ∃ d ∈ ds, bf d = false) : TT n (.tuple ds) false := fun P er hP => by
  refine ⟨rfl, w_is_tuple ?_⟩
  rw [h, decide_eq_true rfl]
  refine lcW_map (fun d => .bool (bf d)) _ ?_ _ ?_
  · intro x hx
    exact ⟨_, rfl, fun P hp => ⟨rfl, hb x hx _ _ hp⟩⟩
  · refine ⟨_, boolsL bf ds, ?_⟩
    have e : (ds.map bf).all _root_.id = false := by
      obtain ⟨d, hd, e⟩ := hf
      rw [List.all_eq_false]
      exact ⟨bf d, List.mem_map.mpr ⟨d, hd, rfl⟩, by rw [e]; decide⟩
    rw [e]
    exact hP
theorem keysU_rep : ∀ k : Nat, keysU [0] (List.replicate k (0 : Int)) = [0]
  | 0 => rfl
  | k + 1 => by rw [List.replicate_succ]; exact keysU_rep k
theorem tt_zero (h2 : 2 ≤ n) : TT n (dI (zer n)) false := fun P er hP => by
  refine ⟨rfl, w_is_tuple ?_⟩
  rw [List.length_map, show (zer n).length = n from List.length_replicate, decide_eq_true rfl]
  refine lcW_map (fun _ => .bool true) _ ?_ _ ?_
  · intro x hx
    obtain ⟨i, hi, rfl⟩ := List.mem_map.mp hx
    refine ⟨_, rfl, fun P hp => ⟨rfl, w_between ?_ hp⟩⟩
    have := List.eq_of_mem_replicate hi
    omega
  · refine ⟨_, allTrue _, ?_⟩
    rw [all_id]
    refine lcW_map _root_.id _ ?_ _ ?_
    · intro x hx
      obtain ⟨i, hi, rfl⟩ := List.mem_map.mp hx
      exact ⟨_, rfl, fun P hp => ⟨⟨_, rfl⟩, hp⟩⟩
    · rw [List.map_id]
      refine ⟨zer n, intsOf_map _, sh_int _, sh_int _, ?_⟩
      have e : keysU [] (zer n) = [0] := by
        obtain ⟨k, rfl⟩ : ∃ k, n = k + 1 := ⟨n - 1, by omega⟩
        exact keysU_rep k
      rw [e, eqv_int]
      show P (.bool (decide ((1 : Int) = n)))
      rw [decide_eq_false (by omega)]
      exact hP
def odd_ (d : PyData) : Bool := if isBl d = true then true else !isI d
theorem rep1 : ∀ l : List PyData, l.map (fun _ => PyData.int 1) = (l.map fun _ => (1 : Int)).map PyData.int
  | [] => rfl
  | _ :: l => by rw [List.map_cons, rep1 l]; rfl
end
section
variable {P : PyData → Prop} {er : Exn → Prop} {n : Nat} {r : List (List Int)} {p : List Int}
theorem cut_last {l : List PyData} : MT.cutD l none (some (-1)) = l.dropLast := by
  unfold MT.cutD
  rw [HT.sIx_none, Nat.sub_zero, List.drop_zero, List.dropLast_eq_take]
  congr 1
  simp [HT.sIx]
  omega
theorem rep_dI (m : Nat) : List.replicate m (PyData.int 0) = (zer m).map PyData.int := by rw [zer, List.map_replicate]
def ups (n : Nat) : List Int := (List.range n).map fun i => 1 + (i : Nat)
theorem rgD_ups : rgD 1 ((n : Int) + 1) = (ups n).map PyData.int := by
  unfold rgD ups
  rw [List.map_map, show ((n : Int) + 1 - 1).toNat = n by omega]
  rfl
def inB (n : Nat) : PyData → Bool
  | .int x => decide (0 ≤ x ∧ x ≤ (n : Int) - 1)
  | _ => false
def Near (n : Nat) (p : List Int) : List PyData := [dI p, .list (p.map PyData.int), .tuple (p.map PyData.int ++ [.int n]), .tuple (p.map PyData.int).dropLast, dI (zer n), .tuple (rgD 1 ((n : Int) + 1)), .none, .tuple (List.replicate n (.bool true)), .tuple (List.replicate n (.str "0")), .tuple ((p.map PyData.int).dropLast ++ [.none])]
theorem bw_ints {l : List Int} : ∀ d ∈ l.map PyData.int, BW n d (inB n d) := fun d hd => by
  obtain ⟨i, _, rfl⟩ := List.mem_map.mp hd
  exact bw_int i
def NT (d : PyData) : Prop := ∀ (P : PyData → Prop) (er : Exn → Prop), P (.bool false) → sp_is_table_told [.d d] P er
theorem nt_non : NT .none := fun P er h => h
theorem nt_list {l : List PyData} : NT (.list l) := fun P er h => h
theorem nt_nil : NT (.tuple []) := fun P er h => h
theorem nt_big {ds : List PyData} (h : 24 < ds.length) : NT (.tuple ds) := fun P er hP => by
  show if decide ((1 : Int) ≤ ((ds.length : Nat) : Int)) = true then _ else _
  rw [decide_eq_true (by omega), if_pos rfl]
  show if (!decide (((ds.length : Nat) : Int) ≤ 24)) = true then _ else _
  rw [decide_eq_false (by omega)]
  exact hP
theorem tab_in {ds : List PyData} (h1 : 1 ≤ ds.length) (h2 : ds.length ≤ 24) (bf : PyData → Bool) (hb : ∀ d ∈ ds, TT ds.length d (bf d)) (hP : P (.bool ((ds.map bf).all _root_.id))) : sp_is_table_told [.d (.tuple ds)] P er := by
  show if decide ((1 : Int) ≤ ((ds.length : Nat) : Int)) = true then _ else _
  rw [decide_eq_true (by omega), if_pos rfl]
  show if (!decide (((ds.length : Nat) : Int) ≤ 24)) = true then _ else _
  rw [decide_eq_true (by omega)]
  refine lcW_map (fun d => .bool (bf d)) _ ?_ _ ?_
  · intro x hx
    exact ⟨_, rfl, fun P hp => ⟨rfl, hb x hx _ _ hp⟩⟩
  · exact ⟨_, boolsL bf ds, hP⟩
theorem nt_in {ds : List PyData} (h1 : 1 ≤ ds.length) (h2 : ds.length ≤ 24) (bf : PyData → Bool) (hb : ∀ d ∈ ds, TT ds.length d (bf d)) (hf : ∃ d ∈ ds, bf d = false) : NT (.tuple ds) := fun P er hP => tab_in h1 h2 bf hb (by
  have e : (ds.map bf).all _root_.id = false := by
    obtain ⟨d, hd, e⟩ := hf
    rw [List.all_eq_false]
    exact ⟨bf d, List.mem_map.mpr ⟨d, hd, rfl⟩, by rw [e]; decide⟩
  rw [e]
  exact hP)
theorem w_tab (T : Tb n r) (h1 : 1 ≤ n) (h2 : n ≤ 24) (hP : P (.bool true)) : sp_is_table_told [.d (dT r)] P er := by
  have hl : (r.map dI).length = n := by rw [List.length_map, T.len]
  refine tab_in (by omega) (by omega) (fun _ => true) (fun d hd => ?_) ?_
  · obtain ⟨x, hx, rfl⟩ := List.mem_map.mp hd
    rw [hl]
    exact tt_pm (T.pm x hx)
  · rw [all_id]; exact hP
end
section
variable {P : PyData → Prop} {er : Exn → Prop} {n : Nat} {r : List (List Int)} {p q : List Int}
def btL (k : Int) : PyData := if k = 1 then .bool true else .int k
def Bents (m : Nat) (r : List (List Int)) : List PyData := [.tuple (r.map dI).dropLast, .tuple (r.map dI ++ [dI (rw_ r 0)]), .list (r.map dI), .tuple ([.list ((rw_ r 0).map PyData.int)] ++ (r.map dI).drop 1), .tuple (List.replicate m .none), .none, .tuple [],
  .tuple (r.map fun row => .tuple (row.map PyData.int ++ [.int m])), if 1 < m then .tuple (List.replicate m (dI (zer m))) else .tuple [.tuple [.int 1]], if 1 < m then .tuple (r.map fun row => .tuple (row.map btL)) else .tuple [.tuple [.bool false]]]
theorem bents_ok (T : Tb n r) (h1 : 1 ≤ n) (hn : n ≤ 20) : ∀ d ∈ Bents n r, NT d := fun d hd => by
  have hl : (r.map dI).length = n := by rw [List.length_map, T.len]
  have row0 : Pm n (rw_ r 0) := T.row ⟨by omega, by omega⟩
  have rows : ∀ d ∈ r.map dI, ∃ x, d = dI x ∧ Pm n x := fun d hd => by
    obtain ⟨x, hx, rfl⟩ := List.mem_map.mp hd
    exact ⟨x, rfl, T.pm x hx⟩
  have rowsN : ∀ m, m ≠ n → ∀ d ∈ r.map dI, TT m d false := fun m hm d hd => by
    obtain ⟨x, rfl, hx⟩ := rows d hd
    exact tt_len (by rw [List.length_map, hx.len]; omega)
  obtain ⟨x0, hx0⟩ : ∃ x, x ∈ r := by
    cases r with
    | nil => have := T.len; simp at this; omega
    | cons a l => exact ⟨a, List.mem_cons_self⟩
  simp only [Bents, List.mem_cons, List.not_mem_nil, or_false] at hd
  rcases hd with rfl | rfl | rfl | rfl | rfl | rfl | rfl | rfl | rfl | rfl
  · have hl2 : (r.map dI).dropLast.length = n - 1 := by rw [List.length_dropLast, hl]
    by_cases c : n = 1
    · have e : (r.map dI).dropLast = [] := List.length_eq_zero_iff.mp (by omega)
      rw [e]; exact nt_nil
    · have hm : (r.map dI).dropLast ≠ [] := fun z => by rw [z] at hl2; simp at hl2; omega
      refine nt_in (by omega) (by omega) (fun _ => false) (fun d hd => rowsN _ (by omega) d (List.dropLast_subset _ hd)) ⟨_, List.head_mem hm, rfl⟩
  · have hl2 : (r.map dI ++ [dI (rw_ r 0)]).length = n + 1 := by rw [List.length_append, hl]; rfl
    refine nt_in (by omega) (by omega) (fun _ => false) (fun d hd => ?_) ⟨_, List.mem_append_right _ (List.mem_singleton.mpr rfl), rfl⟩
    rcases List.mem_append.mp hd with z | z
    · exact rowsN _ (by omega) d z
    · rw [List.mem_singleton.mp z]
      exact tt_len (by rw [List.length_map, row0.len]; omega)
  · exact nt_list
  · have hl2 : ([PyData.list ((rw_ r 0).map PyData.int)] ++ (r.map dI).drop 1).length = n := by rw [List.length_append, List.length_drop, hl]; simp; omega
    refine nt_in (by omega) (by omega) isT (fun d hd => ?_) ⟨_, List.mem_append_left _ (List.mem_singleton.mpr rfl), rfl⟩
    rcases List.mem_append.mp hd with z | z
    · rw [List.mem_singleton.mp z]; exact tt_list
    · obtain ⟨x, rfl, hx⟩ := rows d (List.mem_of_mem_drop z)
      rw [hl2]; exact tt_pm hx
  · refine nt_in (by rw [List.length_replicate]; exact h1) (by rw [List.length_replicate]; omega) (fun _ => false) (fun d hd => by rw [List.eq_of_mem_replicate hd]; exact tt_non) ⟨.none, List.mem_replicate.mpr ⟨by omega, rfl⟩, rfl⟩
  · exact nt_non
  · exact nt_nil
  · refine nt_in (by rw [List.length_map, T.len]; exact h1) (by rw [List.length_map, T.len]; omega) (fun _ => false) (fun d hd => ?_) ⟨_, List.mem_map.mpr ⟨x0, hx0, rfl⟩, rfl⟩
    obtain ⟨x, hx, rfl⟩ := List.mem_map.mp hd
    rw [List.length_map, T.len]
    exact tt_len (by rw [List.length_append, List.length_map, (T.pm x hx).len]; simp)
  · by_cases c : 1 < n
    · rw [if_pos c]
      refine nt_in (by rw [List.length_replicate]; exact h1) (by rw [List.length_replicate]; omega) (fun _ => false) (fun d hd => by rw [List.eq_of_mem_replicate hd, List.length_replicate]; exact tt_zero (by omega)) ⟨_, List.mem_replicate.mpr ⟨by omega, rfl⟩, rfl⟩
    · rw [if_neg c]
      refine nt_in (by decide) (by decide) (fun _ => false) (fun d hd => ?_) ⟨_, List.mem_singleton.mpr rfl, rfl⟩
      rw [List.mem_singleton.mp hd]
      exact tt_bad (inB 1) rfl (bw_ints (l := [1])) ⟨.int 1, List.mem_singleton.mpr rfl, rfl⟩
  · by_cases c : 1 < n
    · rw [if_pos c]
      refine nt_in (by rw [List.length_map, T.len]; exact h1) (by rw [List.length_map, T.len]; omega) (fun _ => false) (fun d hd => ?_) ⟨_, List.mem_map.mpr ⟨x0, hx0, rfl⟩, rfl⟩
      obtain ⟨x, hx, rfl⟩ := List.mem_map.mp hd
      rw [List.length_map, T.len]
      have h1x : (1 : Int) ∈ x := (T.pm x hx).surj ⟨by omega, by omega⟩
      refine tt_bad (inB n) (by rw [List.length_map, (T.pm x hx).len]) (fun d hd => ?_) ⟨.bool true, List.mem_map.mpr ⟨1, h1x, rfl⟩, rfl⟩
      obtain ⟨k, _, rfl⟩ := List.mem_map.mp hd
      unfold btL
      by_cases e : k = 1
      · rw [if_pos e]; exact bw_bl
      · rw [if_neg e]; exact bw_int k
    · rw [if_neg c]
      refine nt_in (by decide) (by decide) (fun _ => false) (fun d hd => ?_) ⟨_, List.mem_singleton.mpr rfl, rfl⟩
      rw [List.mem_singleton.mp hd]
      exact tt_bad (inB 1) rfl (fun d hd => by rw [List.mem_singleton.mp hd]; exact bw_bl) ⟨.bool false, List.mem_singleton.mpr rfl, rfl⟩
theorem w_need_tab (T : Tb n r) (h1 : 1 ≤ n) (h2 : n ≤ 24) (hP : P .none) : sp_need_table [.d (dT r)] P er := ⟨rfl, w_tab T h1 h2 hP⟩
theorem w_need_tabE {d : PyData} (h : NT d) (hE : er ⟨"BadTable", []⟩) : sp_need_table [.d d] P er := ⟨rfl, h _ _ hE⟩
theorem w_needb {x a b : Int} {s : Str} (h : a ≤ x ∧ x ≤ b) (hP : P .none) : sp_need_between [.d (.int x), .d (.int a), .d (.int b), .d (.str s)] P er := ⟨rfl, w_between h hP⟩
theorem w_needbE {d : PyData} {a b : Int} {s : Str} (h : ∀ (P : PyData → Prop) (er : Exn → Prop), P (.bool false) → sp_is_between [.d d, .d (.int a), .d (.int b)] P er) (hE : er ⟨"BadNumber", [("part", .str s)]⟩) : sp_need_between [.d d, .d (.int a), .d (.int b), .d (.str s)] P er := ⟨rfl, h _ _ ⟨rfl, hE⟩⟩
theorem len_dT (T : Tb n r) : (((r.map dI).length : Nat) : Int) = n := by rw [List.length_map, T.len]
theorem w_meetE {d : PyData} {x y : Int} (h : NT d) (hE : er ⟨"BadTable", []⟩) : sp_meet [.d d, .d (.int x), .d (.int y)] P er := ⟨rfl, w_need_tabE h hE⟩
def NB (n : Nat) (d : PyData) : Prop := ∀ (P : PyData → Prop) (er : Exn → Prop), P (.bool false) → sp_is_between [.d d, .d (.int 0), .d (.int ((n : Int) - 1))] P er
theorem w_meetX (T : Tb n r) (h1 : 1 ≤ n) (h2 : n ≤ 24) {d : PyData} {y : Int} (h : NB n d) (hE : er ⟨"BadNumber", [("part", .str "x")]⟩) : sp_meet [.d (dT r), .d d, .d (.int y)] P er := by
  refine ⟨rfl, w_need_tab T h1 h2 ⟨rfl, ?_⟩⟩
  show sp_need_between [.d d, .d (.int 0), .d (.int ((((r.map dI).length : Nat) : Int) - 1)), .d (.str "x")] _ _
  rw [len_dT T]
  exact w_needbE h hE
theorem w_meetY (T : Tb n r) (h1 : 1 ≤ n) (h2 : n ≤ 24) {x : Int} {d : PyData} (hx : Rg n x) (h : NB n d) (hE : er ⟨"BadNumber", [("part", .str "y")]⟩) : sp_meet [.d (dT r), .d (.int x), .d d] P er := by
  refine ⟨rfl, w_need_tab T h1 h2 ⟨rfl, ?_⟩⟩
  show sp_need_between [.d (.int x), .d (.int 0), .d (.int ((((r.map dI).length : Nat) : Int) - 1)), .d (.str "x")] _ _
  rw [len_dT T]
  refine w_needb ⟨hx.1, by have := hx.2; omega⟩ ⟨rfl, ?_⟩
  show sp_need_between [.d d, .d (.int 0), .d (.int ((((r.map dI).length : Nat) : Int) - 1)), .d (.str "y")] _ _
  rw [len_dT T]
  exact w_needbE h hE
theorem nb_ok (h1 : 1 ≤ n) : ∀ d ∈ [PyData.int n, .int (-1), .none, .bool true], NB n d := fun d hd => by
  simp only [List.mem_cons, List.not_mem_nil, or_false] at hd
  rcases hd with rfl | rfl | rfl | rfl
  · intro P er h
    exact bw_int (n := n) _ _ _ (by rw [decide_eq_false (by omega)]; exact h)
  · intro P er h
    exact bw_int (n := n) _ _ _ (by rw [decide_eq_false (by omega)]; exact h)
  · exact fun P er h => bw_non _ _ h
  · exact fun P er h => bw_bl _ _ h
theorem met_met (T : Tb n r) {x y : Int} (hx : Rg n x) (hy : Rg n y) : mu r (mu r x y) (mw r x y) = x ∧ mw r (mu r x y) (mw r x y) = y := by
  have hu : Rg n (mu r x y) := (T.row hx).ap_mem hy
  have pu := T.row hu
  have px := T.row hx
  have e1 : mu r (mu r x y) (mw r x y) = x := pu.ab hx
  refine ⟨e1, ?_⟩
  show ap (bk (rw_ r (mu r (mu r x y) (mw r x y)))) (mu r x y) = y
  rw [e1]
  exact px.ba hy
end
section
variable {P : PyData → Prop} {er : Exn → Prop} {n : Nat}
theorem w_law_table {m : Nat} (hm : m ≤ 1000) (hP : ∀ r, Tb m r → P (dT r)) : sp__law_table [.dr, .d (.int (m : Nat))] P er := by
  obtain ⟨b1, b2⟩ := rng1 (n := m) (by omega)
  show -(2 ^ 62) ≤ ((m : Nat) : Int) ∧ ((m : Nat) : Int) ≤ 16777216 ∧ lcW _ _ _ _ (rgD 0 ((m : Nat) : Int)) _ _
  rw [rgD_rng]
  refine ⟨b1, b2, ?_⟩
  refine lcW_any (fun d => ∃ l : List Int, d = dI l ∧ Pm m l) _ ?_ _ fun ys hl hq => oTuple_list ?_
  · intro x hx
    refine ⟨_, rfl, fun P hp => ?_⟩
    refine ⟨rfl, rgOk0 (by omega), rfl, ?_⟩
    show sp__law_shuffled [.dr, .d (.list (rgD 0 ((m : Nat) : Int)))] _ _
    rw [rgD_rng]
    exact w_shuffled (by rw [rng_len]; omega) fun l hl => hp _ ⟨l, rfl, pm_perm hl⟩
  · have go : ∀ ys : List PyData, (∀ y ∈ ys, ∃ l : List Int, y = dI l ∧ Pm m l) → ∃ r : List (List Int), ys = r.map dI ∧ ∀ l ∈ r, Pm m l := fun ys => by
      induction ys with
      | nil => exact fun _ => ⟨[], rfl, fun _ h => nomatch h⟩
      | cons y ys ih =>
        intro h
        obtain ⟨l, rfl, hl⟩ := h y List.mem_cons_self
        obtain ⟨r, rfl, hr⟩ := ih fun z hz => h z (List.mem_cons_of_mem _ hz)
        exact ⟨l :: r, rfl, fun z hz => by
          rcases List.mem_cons.mp hz with rfl | hz
          · exact hl
          · exact hr z hz⟩
    obtain ⟨r, rfl, hr⟩ := go ys hq
    rw [List.length_map, List.length_map, rng_len] at hl
    exact hP r ⟨hl, hr⟩
theorem cmp_bkR {p : List Int} (h : Pm n p) : MF.cmp p (bk p) = rng n := ext_ap (n := n) (h.cmp h.bk).len (rng_len n) fun i hi => by
  rw [ap_cmp h.bk.len hi, h.ab hi, ap_rng hi]
theorem le_pmK {k : Nat} {l : List Int} (hn : n ≤ k) (h : Pm n l) : Le k l := fun x hx => by
  have := h.mem x hx
  have h1 := this.1
  have h2 := this.2
  omega
theorem same3 {a b c : PyData} {P : PyData → Prop} {er : Exn → Prop} (ha : Shw a 10000 ∧ a.depth ≤ 59) (hb : Shw b 10000 ∧ b.depth ≤ 59) (hc : Shw c 10000 ∧ c.depth ≤ 59) (hP : P (.bool true)) : sp__law_same [.d (.list [a, b, c]), .d (.list [a, b, c])] P er := same_list (fun d hd => by
  simp only [List.mem_cons, List.not_mem_nil, or_false] at hd
  rcases hd with rfl | rfl | rfl
  · exact ha
  · exact hb
  · exact hc) (by show 3 ≤ 20; decide) hP
theorem str1 {s : Str} (h1 : (PyData.str s).showable = true) (h2 : (PyData.str s).hasDict = false) (h3 : (PyData.str s).shown.length ≤ 1000) : Shw (.str s) 1000 := ⟨h1, h2, by simp [PyData.depth], h3⟩
section
variable {env : List MT.Slot} {md : List MT.Slot → W PyData} {E : Exn → Prop}
theorem caught_ok {D : Str} (hD : D ∈ errL) (hi : isx D (some ⟨D, []⟩) = true) (h : ∀ (Q : PyData → Prop) (er : Exn → Prop), er ⟨D, []⟩ → md (env.map lamSlot) Q er) (hP : P (.bool true)) : dIsx errL D (dCaught errL md) env P E :=
  h _ _ ⟨hD, atomic_nil, fun e he => by cases he; exact hD, by rw [hi]; exact hP⟩
end
end
end MK04
end

section
set_option maxRecDepth 100000
set_option maxHeartbeats 1000000
set_option pp.maxSteps 400
namespace MK04
open PySem PySem.Spec PyProof.Rows L2 MT MF
section
variable {P : PyData → Prop} {er : Exn → Prop} {n : Nat} {r : List (List Int)}
theorem w_renT {p : List Int} (hp : Pm n p) (T : Tb n r) (hn : n ≤ 1000000) (hP : P (dT (renT p n r))) : sp__law_renamed [.d (dT r), .d (dI p)] P er := by
  have hl : (((r.map dI).length : Nat) : Int) = n := by rw [List.length_map, T.len]
  obtain ⟨b1, b2⟩ := rng1 hn
  have pb := hp.bk
  refine ⟨rfl, w_law_undone hp hn ?_⟩
  show -(2 ^ 62) ≤ (((r.map dI).length : Nat) : Int) ∧ (((r.map dI).length : Nat) : Int) ≤ 16777216 ∧ lcW _ _ _ _ (rgD 0 (((r.map dI).length : Nat) : Int)) _ _
  rw [hl, rgD_rng]
  refine ⟨b1, b2, ?_⟩
  refine lc_ints (g := fun x => dI (cj p (rw_ r (ap (bk p) x)))) (rng n) (fun x hx P hq => ?_) _ (oTuple_list ?_)
  · have hx := mem_rng.mp hx
    have bx := hp.bk_mem hx
    have row := T.row bx
    show -(2 ^ 62) ≤ (((r.map dI).length : Nat) : Int) ∧ (((r.map dI).length : Nat) : Int) ≤ 16777216 ∧ lcW _ _ _ _ (rgD 0 (((r.map dI).length : Nat) : Int)) _ _
    rw [hl, rgD_rng]
    refine ⟨b1, b2, ?_⟩
    refine lc_ii (g := fun y => ap p (ap (rw_ r (ap (bk p) x)) (ap (bk p) y))) (rng n) (fun y hy P hy2 => ?_) _ (oTuple_list ?_)
    · have hy := mem_rng.mp hy
      have b_y := hp.bk_mem hy
      exact ⟨_, atI_int (by rw [pb.len]; exact hx), _, atI_tab (by rw [T.len]; exact bx), _, atI_int (by rw [pb.len]; exact hy), _, atI_int (by rw [row.len]; exact b_y), _, atI_int (by rw [hp.len]; exact row.ap_mem b_y), hy2⟩
    · have e : (rng n).map (fun y => ap p (ap (rw_ r (ap (bk p) x)) (ap (bk p) y))) = cj p (rw_ r (ap (bk p) x)) := ext_ap (n := n) (by simp [rng_len]) (cj_len hp) fun y hy => by
        rw [ap_mr (g := fun y => ap p (ap (rw_ r (ap (bk p) x)) (ap (bk p) y))) hy]
        unfold cj
        rw [ap_cmp pb.len hy, ap_cmp row.len (hp.bk_mem hy)]
      rw [e]; exact hq
  · rw [map_dT (f := fun x => cj p (rw_ r (ap (bk p) x))) rfl]
    exact hP
/-! tables that need not be fair -/
theorem tb_rule (R : Rule n r) : Tb n r := ⟨R.len, fun x hx => row_mem R hx⟩
theorem rwT (T : Tb n r) {x : Int} (hx : Rg n x) : rw_ (r.map bk) x = bk (rw_ r x) := by
  obtain ⟨k, rfl, hk⟩ := hx.nat
  have hk' : k < r.length := by rw [T.len]; exact hk
  unfold rw_
  simp [hk']
theorem cyT (T : Tb n r) {x y : Int} (hx : Rg n x) (hy : Rg n y) : Rg n (cyc r x y) := (T.row hx).bk_mem hy
theorem w_cycT (T : Tb n r) (hn : n ≤ 1000000) (hP : P (dT (r.map bk))) : sp_cycle_told [.d (dT r)] P er := by
  refine lc_rows (g := fun x => dI (bk x)) r (fun x hx P hp => ⟨rfl, w_turn_back (T.pm x hx) hn hp⟩) _ ?_
  have e : (r.map fun x => dI (bk x)) = (r.map bk).map dI := by rw [List.map_map]; rfl
  show P (.tuple (r.map fun x => dI (bk x)))
  rw [e]
  exact hP
theorem tb_bk (T : Tb n r) : Tb n (r.map bk) := ⟨by rw [List.length_map, T.len], fun x hx => by
  obtain ⟨y, hy, rfl⟩ := List.mem_map.mp hx
  exact (T.pm y hy).bk⟩
theorem fr_symm {x y : Int} (h : Fr n r x y) : Fr n r y x := fun z hz => (h z hz).symm
theorem fr_self {x : Int} : Fr n r x x := fun z hz => rfl
theorem w_fairT (T : Tb n r) (hn : n ≤ 1000) (b : Bool) (hb : b = true ↔ Rule n r) (hP : P (.bool b)) : sp_is_fair [.d (dT r)] P er := by
  obtain rfl : n = (r.map dI).length := by rw [List.length_map, T.len]
  have hl2 : (r.map bk).length = (r.map dI).length := by rw [List.length_map, List.length_map]
  refine ⟨rfl, w_cycT T (by omega) ⟨rfl, ?_⟩⟩
  obtain ⟨b1, b2⟩ := rng1 (show (r.map dI).length ≤ 1000000 by omega)
  refine ⟨b1, b2, ?_⟩
  rw [rgD_rng]
  have cyr : ∀ {x : Int}, Rg (r.map dI).length x → atI ((r.map bk).map dI) x = some (dI (bk (rw_ r x))) := fun {x} hx => by
    rw [atI_tab (by rw [hl2]; exact hx), rwT T hx]
  have cel : ∀ {x y : Int}, Rg (r.map dI).length x → Rg (r.map dI).length y → atI ((bk (rw_ r x)).map PyData.int) y = some (.int (cyc r x y)) := fun {x y} hx hy => atI_int (by rw [(T.row hx).bk.len]; exact hy)
  refine forW_inv (fun i env => (∃ s3 s4 s5 s6 s7, env = [.d (dT r), .d (dT (r.map bk)), .d (.int ((r.map dI).length : Nat)), s3, s4, s5, s6, s7]) ∧ ∀ x y : Int, Rg i x → Rg (r.map dI).length y → y < x → Fr (r.map dI).length r x y) ⟨⟨_, _, _, _, _, rfl⟩, fun x y hx _ => absurd hx.2 (by have := hx.1; omega)⟩ ?_ ?_
  · rintro i x env nx hx ⟨⟨s3, s4, s5, s6, s7, rfl⟩, hI⟩ hnx
    obtain ⟨hi, rfl⟩ := rng_get hx
    obtain ⟨c1, c2⟩ := rng1 (show i ≤ 1000000 by omega)
    refine ⟨_, rfl, c1, c2, ?_⟩
    rw [rgD_rng]
    refine forW_inv (fun j env => (∃ s4 s5 s6 s7, env = [.d (dT r), .d (dT (r.map bk)), .d (.int ((r.map dI).length : Nat)), .d (.int (i : Nat)), s4, s5, s6, s7]) ∧ ∀ y : Int, Rg j y → Fr (r.map dI).length r (i : Nat) y) ⟨⟨_, _, _, _, rfl⟩, fun y hy => absurd hy.2 (by have := hy.1; omega)⟩ ?_ ?_
    · rintro j y env nx2 hy ⟨⟨s4, s5, s6, s7, rfl⟩, hJ⟩ hnx2
      obtain ⟨hj, rfl⟩ := rng_get hy
      have hX : Rg (r.map dI).length (i : Int) := Rg.of hi
      have hY : Rg (r.map dI).length (j : Int) := Rg.of (by omega)
      have hA := cyT T hX hY
      have hB := cyT T hY hX
      refine ⟨_, rfl, _, cyr hX, _, cel hX hY, _, cyr hA, _, cyr hY, _, cel hY hX, _, cyr hB, rfl, ?_⟩
      refine ⟨b1, b2, ?_⟩
      rw [rgD_rng]
      refine lc_ints (g := fun z => .bool (decide (cyc r (cyc r i j) (cyc r i z) = cyc r (cyc r j i) (cyc r j z)))) (rng (r.map dI).length) (fun z hz P hp => ?_) _ ⟨_, boolsL _ _, ?_⟩
      · have hz := mem_rng.mp hz
        refine ⟨_, cyr hX, _, cel hX hz, _, cel hA (cyT T hX hz), _, cyr hY, _, cel hY hz, _, cel hB (cyT T hY hz), sh_int _, sh_int _, ?_⟩
        rw [eqv_int]
        exact hp
      · show if (!((rng (r.map dI).length).map fun z => decide (cyc r (cyc r i j) (cyc r i z) = cyc r (cyc r j i) (cyc r j z))).all _root_.id) = true then _ else _
        by_cases hf : Fr (r.map dI).length r (i : Int) (j : Int)
        · have e : (((rng (r.map dI).length).map fun z => decide (cyc r (cyc r i j) (cyc r i z) = cyc r (cyc r j i) (cyc r j z))).all _root_.id) = true := by
            rw [List.all_eq_true]
            intro q hq
            obtain ⟨z, hz, rfl⟩ := List.mem_map.mp hq
            rw [hf z (mem_rng.mp hz), decide_eq_true rfl]
            rfl
          rw [e, if_neg (by decide)]
          refine hnx2 _ ⟨⟨_, _, _, _, rfl⟩, fun y hy => ?_⟩
          by_cases hyj : y = j
          · rw [hyj]; exact hf
          · exact hJ y ⟨hy.1, by have := hy.2; omega⟩
        · have e : (((rng (r.map dI).length).map fun z => decide (cyc r (cyc r i j) (cyc r i z) = cyc r (cyc r j i) (cyc r j z))).all _root_.id) = false := by
            rw [List.all_eq_false]
            refine Classical.byContradiction fun hno => hf fun z hz => ?_
            refine Classical.byContradiction fun hne => hno ⟨_, List.mem_map_of_mem (mem_rng.mpr hz), ?_⟩
            rw [decide_eq_false hne]; decide
          rw [e, if_pos (by decide)]
          have : b = false := by
            cases b with
            | false => rfl
            | true => exact absurd (fun z hz => (hb.mp rfl).fair _ _ _ hX hY hz) hf
          rw [this] at hP
          exact hP
    · rintro env ⟨⟨s4, s5, s6, s7, rfl⟩, hJ⟩
      refine hnx _ ⟨⟨_, _, _, _, _, rfl⟩, fun x y hx hy hyx => ?_⟩
      rw [List.length_map, rng_len] at hJ
      by_cases hxi : x = i
      · rw [hxi]; exact hJ y ⟨hy.1, by omega⟩
      · exact hI x y ⟨hx.1, by have := hx.2; omega⟩ hy hyx
  · rintro env ⟨⟨s3, s4, s5, s6, s7, rfl⟩, hI⟩
    rw [List.length_map, rng_len] at hI
    have : b = true := hb.mpr (T.rule fun x y hx hy => by
      by_cases c1 : y < x
      · exact hI x y hx hy c1
      · by_cases c2 : x < y
        · exact fr_symm (hI y x hy hx c2)
        · rw [show x = y by omega]; exact fr_self)
    rw [this] at hP
    exact hP
end
end MK04
end

section
set_option maxRecDepth 100000
set_option maxHeartbeats 1000000
set_option pp.maxSteps 400
namespace MK04
open PySem PySem.Spec PyProof.Rows L2 MT MF
section
variable {P : PyData → Prop} {er : Exn → Prop} {n : Nat} {r : List (List Int)}
/-! the corner of two things is fairness there -/
def Cn (r : List (List Int)) (x u : Int) : Prop := MF.cmp (rw_ r x) (rw_ r (cyc r x u)) = MF.cmp (rw_ r u) (rw_ r (cyc r u x))
theorem pm_bk_inj {a b : List Int} (ha : Pm n a) (hb : Pm n b) (h : ∀ z, Rg n z → ap (bk a) z = ap (bk b) z) : a = b := ext_ap (n := n) ha.len hb.len fun i hi => by
  have h1 := h (ap a i) (ha.ap_mem hi)
  rw [ha.ba hi] at h1
  have h2 := hb.ab (ha.ap_mem hi)
  rw [← h1] at h2
  exact h2.symm
theorem cn_fr (T : Tb n r) {x u : Int} (hx : Rg n x) (hu : Rg n u) : Cn r x u ↔ Fr n r x u := by
  have a := cyT T hx hu
  have b := cyT T hu hx
  have e1 : ∀ z, Rg n z → ap (bk (MF.cmp (rw_ r x) (rw_ r (cyc r x u)))) z = cyc r (cyc r x u) (cyc r x z) := fun z hz => bk_cmp (T.row hx) (T.row a) hz
  have e2 : ∀ z, Rg n z → ap (bk (MF.cmp (rw_ r u) (rw_ r (cyc r u x)))) z = cyc r (cyc r u x) (cyc r u z) := fun z hz => bk_cmp (T.row hu) (T.row b) hz
  constructor
  · intro h z hz
    rw [← e1 z hz, ← e2 z hz, h]
  · intro h
    exact pm_bk_inj ((T.row hx).cmp (T.row a)) ((T.row hu).cmp (T.row b)) fun z hz => by rw [e1 z hz, e2 z hz, h z hz]
/-! the rows of three -/
def m0 (r : List (List Int)) (q : Int × Int × Int) : Int × Int × Int := (mu r q.1 q.2.1, mw r q.1 q.2.1, q.2.2)
def m1 (r : List (List Int)) (q : Int × Int × Int) : Int × Int × Int := (q.1, mu r q.2.1 q.2.2, mw r q.2.1 q.2.2)
def Rg3 (n : Nat) (q : Int × Int × Int) : Prop := Rg n q.1 ∧ Rg n q.2.1 ∧ Rg n q.2.2
def dR (q : Int × Int × Int) : PyData := .tuple [.int q.1, .int q.2.1, .int q.2.2]
theorem mwT (T : Tb n r) {x y : Int} (hx : Rg n x) (hy : Rg n y) : Rg n (mu r x y) ∧ Rg n (mw r x y) := ⟨(T.row hx).ap_mem hy, cyT T ((T.row hx).ap_mem hy) hx⟩
theorem m0_rg (T : Tb n r) {q : Int × Int × Int} (h : Rg3 n q) : Rg3 n (m0 r q) := ⟨(mwT T h.1 h.2.1).1, (mwT T h.1 h.2.1).2, h.2.2⟩
theorem m1_rg (T : Tb n r) {q : Int × Int × Int} (h : Rg3 n q) : Rg3 n (m1 r q) := ⟨h.1, (mwT T h.2.1 h.2.2).1, (mwT T h.2.1 h.2.2).2⟩
/-- where all rows of three meet alike all is fair -/
theorem braid_fair (T : Tb n r) (h : ∀ x y z, Rg n x → Rg n y → Rg n z → m0 r (m1 r (m0 r (x, y, z))) = m1 r (m0 r (m1 r (x, y, z)))) : Rule n r := T.rule fun x u hx hu => (cn_fr T hx hu).mp (by
  have a := cyT T hx hu
  have b := cyT T hu hx
  have exu : mu r x (cyc r x u) = u := (T.row hx).ab hu
  have ewu : mw r x (cyc r x u) = cyc r u x := by show cyc r (mu r x (cyc r x u)) x = _; rw [exu]
  refine (ext_ap (n := n) ((T.row hx).cmp (T.row a)).len ((T.row hu).cmp (T.row b)).len fun z hz => ?_)
  have e := congrArg (fun q : Int × Int × Int => q.1) (h x (cyc r x u) z hx a hz)
  have e : mu r (mu r x (cyc r x u)) (mu r (mw r x (cyc r x u)) z) = mu r x (mu r (cyc r x u) z) := e
  rw [exu, ewu] at e
  rw [ap_cmp (T.row a).len hz, ap_cmp (T.row b).len hz]
  exact e.symm)
theorem w_metT (T : Tb n r) {x y : Int} (hx : Rg n x) (hy : Rg n y) (hP : P (.tuple [.int (mu r x y), .int (mw r x y)])) : sp_met_told [.d (dT r), .d (.int x), .d (.int y)] P er := by
  have hu : Rg n (mu r x y) := (T.row hx).ap_mem hy
  have pu := T.row hu
  refine ⟨_, atI_tab (by rw [T.len]; exact hx), _, atI_int (by rw [(T.row hx).len]; exact hy), _, atI_tab (by rw [T.len]; exact hu), _, rfl, rfl, flat_ints _, _, idx_int (pu.surj hx), by show 2 ≤ sizeLine; decide, ?_⟩
  have e : mw r x y = (((rw_ r (mu r x y)).idxOf x : Nat) : Int) := ap_bk pu hx
  rw [e] at hP
  exact hP
theorem w_row0 (T : Tb n r) {q : Int × Int × Int} (h : Rg3 n q) (hP : P (dR (m0 r q))) : sp_row_met [.d (dT r), .d (dR q), .d (.int 0)] P er := by
  have z3 : 3 ≤ sizeLine := by decide
  refine ⟨_, rfl, _, rfl, rfl, w_metT T h.1 h.2.1 ⟨_, rfl, ?_⟩⟩
  refine ⟨sh_int _, sh_int _, ?_⟩
  exact ⟨_, rfl, z3, hP⟩
theorem w_row1 (T : Tb n r) {q : Int × Int × Int} (h : Rg3 n q) (hP : P (dR (m1 r q))) : sp_row_met [.d (dT r), .d (dR q), .d (.int 1)] P er := by
  have z3 : 3 ≤ sizeLine := by decide
  refine ⟨_, rfl, _, rfl, rfl, w_metT T h.2.1 h.2.2 ⟨_, rfl, ?_⟩⟩
  refine ⟨sh_int _, sh_int _, ?_⟩
  exact ⟨_, rfl, z3, hP⟩
end
end MK04
end

section
set_option maxRecDepth 100000
set_option maxHeartbeats 1000000
set_option pp.maxSteps 400
namespace MK04
open PySem PySem.Spec PyProof.Rows L2 MT MF
section
variable {P : PyData → Prop} {er : Exn → Prop} {n : Nat} {r : List (List Int)}
def nxR (n : Nat) (row : List Int) : List (List Int) := (rng n).map fun o => row ++ [o]
def rowsL (n : Nat) : Nat → List (List Int)
  | 0 => [[]]
  | k + 1 => (rowsL n k).flatMap (nxR n)
theorem rowsL_len : ∀ k, (rowsL n k).length = n ^ k
  | 0 => rfl
  | k + 1 => by
    show ((rowsL n k).flatMap (nxR n)).length = _
    have : ∀ l : List (List Int), (l.flatMap (nxR n)).length = l.length * n := fun l => by
      induction l with
      | nil => simp
      | cons a l ih => rw [List.flatMap_cons, List.length_append, ih, List.length_cons, Nat.succ_mul]; simp [nxR, rng_len]; omega
    rw [this, rowsL_len k, Nat.pow_succ]
theorem rowsL_row : ∀ (k : Nat) (row : List Int), row ∈ rowsL n k → row.length = k
  | 0, row, h => by simp [rowsL] at h; rw [h]; rfl
  | k + 1, row, h => by
    obtain ⟨a, ha, hb⟩ := List.mem_flatMap.mp h
    obtain ⟨o, _, rfl⟩ := List.mem_map.mp hb
    rw [List.length_append, rowsL_row k a ha]; rfl
theorem w_lrows {k : Nat} (hn : n ≤ 5) (hk : k ≤ 3) (hP : P (.list ((rowsL n k).map dI))) : sp__law_rows [.d (.int n), .d (.int k)] P er := by
  have pw : ∀ j, j ≤ k → (rowsL n j).length ≤ 256 := fun j hj => by
    rw [rowsL_len]
    have h2 : n ^ j ≤ 5 ^ j := Nat.pow_le_pow_left hn j
    have h3 : 5 ^ j ≤ 5 ^ 3 := Nat.pow_le_pow_right (by decide) (by omega)
    omega
  obtain ⟨b1, b2⟩ := rng1 (show n ≤ 1000000 by omega)
  obtain ⟨c1, c2⟩ := rng1 (show k ≤ 1000000 by omega)
  refine ⟨by show 0 ≤ sizeLine; decide, by show 1 ≤ sizeLine; decide, c1, c2, ?_⟩
  rw [rgD_rng]
  refine forW_inv (fun j env => ∃ s3 s4 s5 s6, env = [.d (.int n), .d (.int k), .d (.list ((rowsL n j).map dI)), s3, s4, s5, s6]) ⟨_, _, _, _, rfl⟩ ?_ ?_
  · rintro j x env nx hx ⟨s3, s4, s5, s6, rfl⟩ hnx
    obtain ⟨hj, rfl⟩ := rng_get hx
    refine ⟨_, rfl, by show 0 ≤ sizeLine; decide, ?_⟩
    have e : ((rowsL n j).flatMap fun row => (nxR n row).map dI) = (rowsL n (j + 1)).map dI := by
      show _ = ((rowsL n j).flatMap (nxR n)).map dI
      rw [List.map_flatMap]
    refine add_loop (i := 5) (mk := fun T env0 env => ∃ s5 s6, env = [.d (.int n), .d (.int k), .d (.list ((rowsL n j).map dI)), .d (.int (j : Nat)), .d (.list T), s5, s6]) dI (fun row => (nxR n row).map dI) 256 (fun row => row.length = j) ?_ (rowsL n j) [] [] _ (fun row h => rowsL_row j row h) ⟨_, _, rfl⟩ ?_ ?_
    · rintro row T env0 env nx2 hrow ⟨s5, s6, rfl⟩ hL h2
      refine ⟨_, rfl, b1, b2, ?_⟩
      rw [rgD_rng]
      refine lc_ints (g := fun o => dI (row ++ [o])) (rng n) ?_ _ ?_
      · intro o ho P hp
        refine ⟨by show 1 ≤ sizeLine; decide, ?_, ?_⟩
        · show (row.map PyData.int).length + 1 ≤ sizeLine
          rw [List.length_map, hrow, sizeLine_eq]; omega
        · have e : dI (row ++ [o]) = .tuple (row.map PyData.int ++ [PyData.int o]) := by unfold dI; rw [List.map_append]; rfl
          rw [e] at hp
          exact hp
      · have e : ((rng n).map fun o => dI (row ++ [o])) = (nxR n row).map dI := by unfold nxR; rw [List.map_map]; rfl
        show T.length + ((rng n).map fun o => dI (row ++ [o])).length ≤ sizeLine ∧ _
        rw [e]
        rw [List.length_append] at hL
        refine ⟨by rw [sizeLine_eq]; omega, h2 _ ⟨_, _, rfl⟩⟩
    · rw [List.nil_append, e, List.length_map]
      exact pw _ hj
    · rintro env ⟨s5, s6, rfl⟩
      rw [List.nil_append, e]
      exact hnx _ ⟨_, _, _, _, rfl⟩
  · rintro env ⟨s3, s4, s5, s6, rfl⟩
    have e : ((rng k).map PyData.int).length = k := by rw [List.length_map, rng_len]
    rw [e]
    exact hP
theorem rowsL1 : rowsL n 1 = (rng n).map fun x => [x] := by simp [rowsL, nxR]
theorem rowsL2 : rowsL n 2 = (rng n).flatMap fun x => (rng n).map fun u => [x, u] := by
  show (rowsL n 1).flatMap (nxR n) = _
  rw [rowsL1, List.flatMap_map]
  rfl
theorem mem_rows3 {l : List Int} : l ∈ rowsL n 3 ↔ ∃ x y z, Rg n x ∧ Rg n y ∧ Rg n z ∧ l = [x, y, z] := by
  constructor
  · intro h
    obtain ⟨a, ha, hb⟩ := List.mem_flatMap.mp h
    rw [show rowsL n 2 = (rng n).flatMap fun x => (rng n).map fun u => [x, u] from rowsL2] at ha
    obtain ⟨x, hx, ha⟩ := List.mem_flatMap.mp ha
    obtain ⟨y, hy, rfl⟩ := List.mem_map.mp ha
    obtain ⟨z, hz, rfl⟩ := List.mem_map.mp hb
    exact ⟨x, y, z, mem_rng.mp hx, mem_rng.mp hy, mem_rng.mp hz, rfl⟩
  · rintro ⟨x, y, z, hx, hy, hz, rfl⟩
    refine List.mem_flatMap.mpr ⟨[x, y], ?_, List.mem_map.mpr ⟨z, mem_rng.mpr hz, rfl⟩⟩
    rw [show rowsL n 2 = (rng n).flatMap fun x => (rng n).map fun u => [x, u] from rowsL2]
    exact List.mem_flatMap.mpr ⟨x, mem_rng.mpr hx, List.mem_map.mpr ⟨y, mem_rng.mpr hy, rfl⟩⟩
theorem mem_rows2 {l : List Int} : l ∈ rowsL n 2 ↔ ∃ x y, Rg n x ∧ Rg n y ∧ l = [x, y] := by
  rw [rowsL2]
  constructor
  · intro ha
    obtain ⟨x, hx, ha⟩ := List.mem_flatMap.mp ha
    obtain ⟨y, hy, rfl⟩ := List.mem_map.mp ha
    exact ⟨x, y, mem_rng.mp hx, mem_rng.mp hy, rfl⟩
  · rintro ⟨x, y, hx, hy, rfl⟩
    exact List.mem_flatMap.mpr ⟨x, mem_rng.mpr hx, List.mem_map.mpr ⟨y, mem_rng.mpr hy, rfl⟩⟩
/-! the rows of the package -/
theorem w_prows (T : Tb n r) (hn : n ≤ 100) (hP : P (.list (rows3 n))) : sp_rows_of_three [.d (dT r)] P er := by
  refine ⟨⟨rfl, by show 2 < 5; decide, by show 3 < 5; decide, by show 4 < 5; decide⟩, n, ?_, hn, hP⟩
  show PyData.int (((r.map dI).length : Nat) : Int) = _
  rw [len_dT T]
theorem mem_prows {d : PyData} : d ∈ rows3 n ↔ ∃ q, Rg3 n q ∧ d = dR q := by
  unfold rows3
  constructor
  · intro h
    obtain ⟨x, hx, h⟩ := List.mem_flatMap.mp h
    obtain ⟨y, hy, h⟩ := List.mem_flatMap.mp h
    obtain ⟨z, hz, rfl⟩ := List.mem_map.mp h
    exact ⟨((x : Nat), (y : Nat), (z : Nat)), ⟨Rg.of (List.mem_range.mp hx), Rg.of (List.mem_range.mp hy), Rg.of (List.mem_range.mp hz)⟩, rfl⟩
  · rintro ⟨⟨x, y, z⟩, ⟨hx, hy, hz⟩, rfl⟩
    obtain ⟨a, rfl, ha⟩ := hx.nat
    obtain ⟨b, rfl, hb⟩ := hy.nat
    obtain ⟨c, rfl, hc⟩ := hz.nat
    exact List.mem_flatMap.mpr ⟨a, List.mem_range.mpr ha, List.mem_flatMap.mpr ⟨b, List.mem_range.mpr hb, List.mem_map.mpr ⟨c, List.mem_range.mpr hc, rfl⟩⟩⟩
theorem eqvR (p q : Int × Int × Int) : PyData.eqv (dR p) (dR q) = decide (p = q) := by
  have h := eqvI [p.1, p.2.1, p.2.2] [q.1, q.2.1, q.2.2]
  have e : ([p.1, p.2.1, p.2.2] = [q.1, q.2.1, q.2.2]) ↔ p = q := by
    constructor
    · intro h
      obtain ⟨a, b, c⟩ := p
      obtain ⟨a', b', c'⟩ := q
      simp at h ⊢
      exact h
    · rintro rfl; rfl
  rw [show dR p = dI [p.1, p.2.1, p.2.2] from rfl, show dR q = dI [q.1, q.2.1, q.2.2] from rfl, h]
  exact decide_eq_decide.mpr e
theorem shR (q : Int × Int × Int) : SeqAt.shaped (dR q) = true := shI [q.1, q.2.1, q.2.2]
theorem w_tfault (T : Tb n r) (h1 : 1 ≤ n) (h2 : n ≤ 24) (b : Bool) (hb : b = true ↔ Rule n r) (hP : b = true → P .none) (hQ : b = false → ∀ ds, P (.tuple ds)) : sp_table_fault [.d (dT r)] P er := by
  refine ⟨rfl, w_need_tab T h1 h2 ⟨rfl, w_fairT T (by omega) b hb ?_⟩⟩
  cases b with
  | true => exact hP rfl
  | false =>
    refine ⟨rfl, w_prows T (by omega) ?_⟩
    refine forW_inv (fun i env => (∃ s1 s2, env = [.d (dT r), s1, s2]) ∧ ∀ (j : Nat) q, j < i → (rows3 n)[j]? = some (dR q) → Rg3 n q → m0 r (m1 r (m0 r q)) = m1 r (m0 r (m1 r q))) ⟨⟨_, _, rfl⟩, fun j q hj => absurd hj (Nat.not_lt_zero _)⟩ ?_ ?_
    · rintro i x env nx hx ⟨⟨s1, s2, rfl⟩, hI⟩ hnx
      obtain ⟨q, hq, rfl⟩ := mem_prows.mp (List.mem_of_getElem? hx)
      refine ⟨_, rfl, rfl, w_row0 T hq ⟨rfl, w_row1 T (m0_rg T hq) ⟨rfl, w_row0 T (m1_rg T (m0_rg T hq)) ?_⟩⟩⟩
      refine ⟨rfl, w_row1 T hq ⟨rfl, w_row0 T (m1_rg T hq) ⟨rfl, w_row1 T (m0_rg T (m1_rg T hq)) ⟨shR _, shR _, ?_⟩⟩⟩⟩
      show if (!PyData.eqv (dR (m0 r (m1 r (m0 r q)))) (dR (m1 r (m0 r (m1 r q))))) = true then _ else _
      rw [eqvR]
      by_cases c : m0 r (m1 r (m0 r q)) = m1 r (m0 r (m1 r q))
      · rw [decide_eq_true c, if_neg (by decide)]
        refine hnx _ ⟨⟨_, _, rfl⟩, fun j q' hj e hq' => ?_⟩
        by_cases hji : j = i
        · subst hji
          rw [hx] at e
          have e2 : PyData.eqv (dR q) (dR q') = true := by rw [Option.some.inj e]; rw [eqvR]; exact decide_eq_true rfl
          rw [eqvR] at e2
          rw [← of_decide_eq_true e2]; exact c
        · exact hI j q' (by omega) e hq'
      · rw [decide_eq_false c, if_pos (by decide)]
        exact ⟨by show 4 ≤ sizeLine; decide, hQ rfl _⟩
    · rintro env ⟨⟨s1, s2, rfl⟩, hI⟩
      have : Rule n r := braid_fair T fun x y z hx hy hz => by
        obtain ⟨j, hj, e⟩ := List.getElem_of_mem (mem_prows.mpr ⟨(x, y, z), ⟨hx, hy, hz⟩, rfl⟩)
        exact hI j (x, y, z) hj (by rw [List.getElem?_eq_getElem hj, e]) ⟨hx, hy, hz⟩
      exact absurd (hb.mpr this) (by decide)
end
end MK04
end

section
set_option maxRecDepth 100000
set_option maxHeartbeats 1000000
set_option pp.maxSteps 400
namespace MK04
open PySem PySem.Spec PyProof.Rows L2 MT MF
section
variable {P : PyData → Prop} {er : Exn → Prop} {n : Nat} {r : List (List Int)}
def cB (r : List (List Int)) (x u : Int) : Bool := decide (MF.cmp (rw_ r x) (rw_ r (cyc r x u)) = MF.cmp (rw_ r u) (rw_ r (cyc r u x)))
def cfd (r : List (List Int)) : List (List Int) → PyData
  | [] => .none
  | l :: ls => if cB r (ap l 0) (ap l 1) = true then cfd r ls else .tuple [.str "corner", .int (ap l 0), .int (ap l 1)]
theorem cfd_all : ∀ ls : List (List Int), (∀ l ∈ ls, cB r (ap l 0) (ap l 1) = true) → cfd r ls = .none
  | [], _ => rfl
  | l :: ls, h => by
    unfold cfd
    rw [if_pos (h l List.mem_cons_self)]
    exact cfd_all ls fun x hx => h x (List.mem_cons_of_mem _ hx)
theorem cfd_at {l : List Int} {b : List (List Int)} (hl : cB r (ap l 0) (ap l 1) = false) : ∀ a : List (List Int), (∀ l ∈ a, cB r (ap l 0) (ap l 1) = true) → cfd r (a ++ l :: b) = .tuple [.str "corner", .int (ap l 0), .int (ap l 1)]
  | [], _ => by
    show cfd r (l :: b) = _
    unfold cfd
    rw [hl, if_neg (by decide)]
  | x :: a, h => by
    show cfd r (x :: (a ++ l :: b)) = _
    unfold cfd
    rw [if_pos (h x List.mem_cons_self)]
    exact cfd_at hl a fun y hy => h y (List.mem_cons_of_mem _ hy)
theorem cB_fr (T : Tb n r) {x u : Int} (hx : Rg n x) (hu : Rg n u) : cB r x u = true ↔ Fr n r x u := by
  unfold cB
  rw [decide_eq_true_eq]
  exact cn_fr T hx hu
/-- None, or the corner -/
theorem cfd_or (r : List (List Int)) : ∀ ls : List (List Int), cfd r ls = .none ∨ ∃ x u, cfd r ls = .tuple [.str "corner", .int x, .int u] ∧ ∃ l ∈ ls, x = ap l 0 ∧ u = ap l 1
  | [] => .inl rfl
  | l :: ls => by
    unfold cfd
    by_cases c : cB r (ap l 0) (ap l 1) = true
    · rw [if_pos c]
      rcases cfd_or r ls with h | ⟨x, u, e, l', hl, h⟩
      · exact .inl h
      · exact .inr ⟨x, u, e, l', List.mem_cons_of_mem _ hl, h⟩
    · rw [if_neg c]
      exact .inr ⟨_, _, rfl, l, List.mem_cons_self, rfl, rfl⟩
theorem cfd_fair (T : Tb n r) : cfd r (rowsL n 2) = .none ↔ Rule n r := by
  constructor
  · intro h
    refine T.rule fun x u hx hu => (cB_fr T hx hu).mp ?_
    refine Classical.byContradiction fun hne => ?_
    have hm : [x, u] ∈ rowsL n 2 := mem_rows2.mpr ⟨x, u, hx, hu, rfl⟩
    have : ∀ ls : List (List Int), [x, u] ∈ ls → cfd r ls ≠ .none := fun ls => by
      induction ls with
      | nil => intro h; cases h
      | cons l ls ih =>
        intro hm
        unfold cfd
        by_cases c : cB r (ap l 0) (ap l 1) = true
        · rw [if_pos c]
          rcases List.mem_cons.mp hm with e | hm
          · rw [← e] at c
            exact absurd c hne
          · exact ih hm
        · rw [if_neg c]; intro z; cases z
    exact this _ hm h
  · intro R
    refine cfd_all _ fun l hl => ?_
    obtain ⟨x, u, hx, hu, rfl⟩ := mem_rows2.mp hl
    exact (cB_fr T hx hu).mpr fun z hz => R.fair x u z hx hu hz
theorem eqC (x u : Int) : PyData.eqv (dI (MF.cmp (rw_ r x) (rw_ r (cyc r x u)))) (dI (MF.cmp (rw_ r u) (rw_ r (cyc r u x)))) = cB r x u := eqvI _ _
theorem w_lcorner (T : Tb n r) (hn : n ≤ 5) (hP : P (cfd r (rowsL n 2))) : sp__law_corner [.d (dT r)] P er := by
  refine ⟨rfl, ?_⟩
  show sp__law_rows [.d (.int (((r.map dI).length : Nat) : Int)), .d (.int 2)] _ _
  rw [len_dT T]
  refine w_lrows (k := 2) hn (by decide) ?_
  refine forW_inv (fun i env => (∃ s1 s2 s3, env = [.d (dT r), s1, s2, s3]) ∧ ∀ l ∈ (rowsL n 2).take i, cB r (ap l 0) (ap l 1) = true) ⟨⟨_, _, _, rfl⟩, fun l h => by simp at h⟩ ?_ ?_
  · rintro i d env nx hd ⟨⟨s1, s2, s3, rfl⟩, hI⟩ hnx
    rw [List.getElem?_map] at hd
    obtain ⟨l, hl, rfl⟩ := Option.map_eq_some_iff.mp hd
    obtain ⟨x, u, hx, hu, rfl⟩ := mem_rows2.mp (List.mem_of_getElem? hl)
    have px := T.row hx
    have pu := T.row hu
    have exu : ((((rw_ r x).idxOf u : Nat)) : Int) = cyc r x u := (ap_bk px hu).symm
    have eux : ((((rw_ r u).idxOf x : Nat)) : Int) = cyc r u x := (ap_bk pu hx).symm
    have ax : atI (r.map dI) x = some (dI (rw_ r x)) := atI_tab (by rw [T.len]; exact hx)
    have au : atI (r.map dI) u = some (dI (rw_ r u)) := atI_tab (by rw [T.len]; exact hu)
    have a1 : atI (r.map dI) ((((rw_ r x).idxOf u : Nat)) : Int) = some (dI (rw_ r (cyc r x u))) := by rw [exu]; exact atI_tab (by rw [T.len]; exact cyT T hx hu)
    have a2 : atI (r.map dI) ((((rw_ r u).idxOf x : Nat)) : Int) = some (dI (rw_ r (cyc r u x))) := by rw [eux]; exact atI_tab (by rw [T.len]; exact cyT T hu hx)
    refine ⟨_, rfl, _, ax, _, ax, _, rfl, rfl, flat_ints _, _, idx_int (px.surj hu), _, a1, rfl, w_behind (px.mm (T.row (cyT T hx hu))) ?_⟩
    refine ⟨_, au, _, au, _, rfl, rfl, flat_ints _, _, idx_int (pu.surj hx), _, a2, rfl, w_behind (pu.mm (T.row (cyT T hu hx))) ⟨shI _, shI _, ?_⟩⟩
    show if (!PyData.eqv (dI (MF.cmp (rw_ r x) (rw_ r (cyc r x u)))) (dI (MF.cmp (rw_ r u) (rw_ r (cyc r u x))))) = true then _ else _
    rw [eqC]
    have hi : i < (rowsL n 2).length := (List.getElem?_eq_some_iff.mp hl).1
    have ei : (rowsL n 2)[i] = [x, u] := (List.getElem?_eq_some_iff.mp hl).2
    cases c : cB r x u with
    | true =>
      rw [if_neg (by decide)]
      refine hnx _ ⟨⟨_, _, _, rfl⟩, fun l hm => ?_⟩
      rw [List.take_succ_eq_append_getElem hi, ei] at hm
      rcases List.mem_append.mp hm with hm | hm
      · exact hI l hm
      · rw [List.mem_singleton.mp hm]; exact c
    | false =>
      rw [if_pos (by decide)]
      refine ⟨by show 3 ≤ sizeLine; decide, ?_⟩
      have e : cfd r (rowsL n 2) = .tuple [.str "corner", .int x, .int u] := by
        have := cfd_at (r := r) (l := [x, u]) (b := (rowsL n 2).drop (i + 1)) c ((rowsL n 2).take i) hI
        rw [← ei, ← List.drop_eq_getElem_cons hi, List.take_append_drop] at this
        rw [this, ei]; rfl
      rw [e] at hP
      exact hP
  · rintro env ⟨⟨s1, s2, s3, rfl⟩, hI⟩
    rw [List.length_map, List.take_length] at hI
    rw [cfd_all _ hI] at hP
    exact hP
theorem w_cfault (T : Tb n r) (h1 : 1 ≤ n) (hn : n ≤ 24) (hP : P (cfd r (rowsL n 2))) : sp_corner_fault [.d (dT r)] P er := by
  obtain ⟨b1, b2⟩ := rng1 (show n ≤ 1000000 by omega)
  refine ⟨rfl, w_need_tab T h1 hn ⟨rfl, w_cycT T (by omega) ?_⟩⟩
  have hr : ∀ Q : Prop, (-(2 ^ 62) ≤ ((n : Nat) : Int) ∧ ((n : Nat) : Int) ≤ 16777216 ∧ Q) → (-(2 ^ 62) ≤ (((r.map dI).length : Nat) : Int) ∧ (((r.map dI).length : Nat) : Int) ≤ 16777216 ∧ Q) := fun Q h => by rw [len_dT T]; exact h
  refine hr _ ⟨b1, b2, ?_⟩
  rw [show (((r.map dI).length : Nat) : Int) = n from len_dT T, rgD_rng]
  refine forE (fun x : Int => PyData.int x) (rng n) (fun a env => (∃ s2 s3, env = [.d (dT r), .d (dT (r.map bk)), s2, s3]) ∧ ∀ x ∈ a, ∀ u, Rg n u → cB r x u = true) (rng n) [] rfl ⟨⟨_, _, rfl⟩, fun x h => (nomatch h)⟩ ?_ ?_
  · rintro a x b env nx hsp ⟨⟨s2, s3, rfl⟩, hI⟩ hnx
    have hx : Rg n x := mem_rng.mp (by rw [← hsp]; simp)
    refine hr _ ⟨b1, b2, ?_⟩
    rw [show (((r.map dI).length : Nat) : Int) = n from len_dT T, rgD_rng]
    refine forE (fun x : Int => PyData.int x) (rng n) (fun a' env => (∃ s3, env = [.d (dT r), .d (dT (r.map bk)), .d (.int x), s3]) ∧ ∀ u ∈ a', cB r x u = true) (rng n) [] rfl ⟨⟨_, rfl⟩, fun x h => (nomatch h)⟩ ?_ ?_
    · rintro a' u b' env nx2 hsp2 ⟨⟨s3, rfl⟩, hJ⟩ hnx2
      have hu : Rg n u := mem_rng.mp (by rw [← hsp2]; simp)
      have px := T.row hx
      have pu := T.row hu
      have hl2 : (r.map bk).length = n := by rw [List.length_map, T.len]
      have ax : atI (r.map dI) x = some (dI (rw_ r x)) := atI_tab (by rw [T.len]; exact hx)
      have au : atI (r.map dI) u = some (dI (rw_ r u)) := atI_tab (by rw [T.len]; exact hu)
      have bx : atI ((r.map bk).map dI) x = some (dI (bk (rw_ r x))) := by rw [atI_tab (by rw [hl2]; exact hx), rwT T hx]
      have bu : atI ((r.map bk).map dI) u = some (dI (bk (rw_ r u))) := by rw [atI_tab (by rw [hl2]; exact hu), rwT T hu]
      have cx : atI ((bk (rw_ r x)).map PyData.int) u = some (.int (cyc r x u)) := atI_int (by rw [px.bk.len]; exact hu)
      have cu : atI ((bk (rw_ r u)).map PyData.int) x = some (.int (cyc r u x)) := atI_int (by rw [pu.bk.len]; exact hx)
      have a1 : atI (r.map dI) (cyc r x u) = some (dI (rw_ r (cyc r x u))) := atI_tab (by rw [T.len]; exact cyT T hx hu)
      have a2 : atI (r.map dI) (cyc r u x) = some (dI (rw_ r (cyc r u x))) := atI_tab (by rw [T.len]; exact cyT T hu hx)
      refine ⟨_, ax, _, bx, _, cx, _, a1, rfl, w_aft _ rfl (px.mm (T.row (cyT T hx hu))) ?_⟩
      refine ⟨_, au, _, bu, _, cu, _, a2, rfl, w_aft _ rfl (pu.mm (T.row (cyT T hu hx))) ⟨shI _, shI _, ?_⟩⟩
      show if (!PyData.eqv (dI (MF.cmp (rw_ r x) (rw_ r (cyc r x u)))) (dI (MF.cmp (rw_ r u) (rw_ r (cyc r u x))))) = true then _ else _
      rw [eqC]
      cases c : cB r x u with
      | true =>
        rw [if_neg (by decide)]
        refine hnx2 _ ⟨⟨_, rfl⟩, fun v hv => ?_⟩
        rcases List.mem_append.mp hv with hv | hv
        · exact hJ v hv
        · rw [List.mem_singleton.mp hv]; exact c
      | false =>
        rw [if_pos (by decide)]
        refine ⟨by show 3 ≤ sizeLine; decide, ?_⟩
        have e : cfd r (rowsL n 2) = .tuple [.str "corner", .int x, .int u] := by
          have es : rowsL n 2 = (a.flatMap (fun x => (rng n).map fun u => [x, u]) ++ a'.map fun u => [x, u]) ++ [x, u] :: ((b'.map fun u => [x, u]) ++ b.flatMap (fun x => (rng n).map fun u => [x, u])) := by
            have e1 : (rng n).map (fun u => [x, u]) = (a'.map fun u => [x, u]) ++ [x, u] :: (b'.map fun u => [x, u]) := by rw [← hsp2]; simp
            have key : ∀ f : Int → List (List Int), (rng n).flatMap f = a.flatMap f ++ (f x ++ b.flatMap f) := fun f => by rw [← hsp, List.flatMap_append, List.flatMap_cons]
            rw [rowsL2, key]
            show _ ++ ((rng n).map (fun u => [x, u]) ++ _) = _
            rw [e1]
            simp
          rw [es]
          refine cfd_at (l := [x, u]) c _ fun l hl => ?_
          rcases List.mem_append.mp hl with hl | hl
          · obtain ⟨y, hy, hl⟩ := List.mem_flatMap.mp hl
            obtain ⟨v, hv, rfl⟩ := List.mem_map.mp hl
            exact hI y hy v (mem_rng.mp hv)
          · obtain ⟨v, hv, rfl⟩ := List.mem_map.mp hl
            exact hJ v hv
        rw [e] at hP
        exact hP
    · rintro env ⟨⟨s3, rfl⟩, hJ⟩
      refine hnx _ ⟨⟨_, _, rfl⟩, fun y hy u hu => ?_⟩
      rcases List.mem_append.mp hy with hy | hy
      · exact hI y hy u hu
      · rw [List.mem_singleton.mp hy]; exact hJ u (mem_rng.mpr hu)
  · rintro env ⟨⟨s2, s3, rfl⟩, hI⟩
    have e : cfd r (rowsL n 2) = .none := cfd_all _ fun l hl => by
      obtain ⟨x, u, hx, hu, rfl⟩ := mem_rows2.mp hl
      exact hI x (mem_rng.mpr hx) u hu
    rw [e] at hP
    exact hP
end
end MK04
end

section
set_option maxRecDepth 100000
set_option maxHeartbeats 1000000
set_option pp.maxSteps 400
namespace MK04
open PySem PySem.Spec PyProof.Rows L2 MT MF
section
variable {P : PyData → Prop} {er : Exn → Prop} {n : Nat} {r : List (List Int)}
theorem ap_dgn {x : Int} (hx : Rg n x) : ap (dgn n r) x = cyc r x x := ap_map_rng hx
theorem bk_rngI {i : Int} (hi : Rg n i) : ap (bk (rng n)) i = i := by
  have h := (pm_perm (n := n) (.refl (rng n))).ba hi
  rwa [ap_rng hi] at h
theorem dgn_pm (R : Rule n r) : Pm n (dgn n r) := pm_of dgn_len (fun i hi => by rw [ap_dgn hi]; exact R.cy hi hi) fun i j hi hj e => by
  rw [ap_dgn hi, ap_dgn hj] at e
  have hd := R.cy hi hi
  refine R.isB_uniq (Rch.id r) hd (x := i) (y := j) hi hj ?_ ?_
  · show ap (rw_ r i) (ap (bk (rng n)) (cyc r i i)) = i
    rw [bk_rngI hd]; exact (R.row i hi).ab hi
  · show ap (rw_ r j) (ap (bk (rng n)) (cyc r i i)) = j
    rw [bk_rngI hd, e]; exact (R.row j hj).ab hj
theorem own_law (R : Rule n r) {x y : Int} (hx : Rg n x) (hy : Rg n y) : mw r x y = ap (bk (dgn n r)) (ap (bk (rw_ r y)) (ap (dgn n r) x)) := by
  have ha : Rg n (mu r x y) := (R.row x hx).ap_mem hy
  have hb : Rg n (mw r x y) := R.cy ha hx
  have e : cyc r x (mu r x y) = y := (R.row x hx).ba hy
  have h := R.fair x (mu r x y) x hx ha hx
  rw [e] at h
  have h2 : ap (dgn n r) (mw r x y) = ap (bk (rw_ r y)) (ap (dgn n r) x) := by
    rw [ap_dgn hb, ap_dgn hx]
    exact h.symm
  rw [← h2, (dgn_pm R).ba hb]
theorem w_dtold (R : Rule n r) (hP : P (dI (dgn n r))) : sp_diagonal_told [.d (dT r)] P er := by
  show lcW _ _ _ _ (enumD 0 (r.map dI)) _ _
  rw [enum_rule R]
  refine lc_mapE (fun x => dI (rw_ r x)) (g := fun x => .int (ap (bk (rw_ r x)) x)) (rng n) ?_ _ (oTuple_list ?_)
  · intro x hx P hp
    have hx := mem_rng.mp hx
    have hr := R.row x hx
    rw [ap_bk hr hx] at hp
    exact ⟨_, rfl, rfl, flat_ints _, _, idx_int (hr.surj hx), hp⟩
  · have : ((rng n).map fun x => PyData.int (ap (bk (rw_ r x)) x)) = (dgn n r).map PyData.int := by unfold dgn; rw [List.map_map]; rfl
    rw [this]
    exact hP
theorem w_diagR (R : Rule n r) (h1 : 1 ≤ n) (h2 : n ≤ 24) (hP : P (dI (dgn n r))) : sp_diagonal [.d (dT r)] P er := ⟨rfl, w_need_rule R h1 h2 ⟨rfl, w_dtold R hP⟩⟩
theorem w_diagE (T : Tb n r) (h1 : 1 ≤ n) (h2 : n ≤ 24) (hn : ¬ Rule n r) (hE : er ⟨"BadRule", []⟩) : sp_diagonal [.d (dT r)] P er := ⟨rfl, ⟨rfl, rfl, w_tab T h1 h2 ⟨rfl, w_fairT T (by omega) false ⟨fun z => (nomatch z), fun z => absurd z hn⟩ hE⟩⟩⟩
theorem w_ctab (T : Tb n r) (h1 : 1 ≤ n) (h2 : n ≤ 24) (hP : P (dT (r.map bk))) : sp_cycle_table [.d (dT r)] P er := ⟨rfl, w_need_tab T h1 h2 ⟨rfl, w_cycT T (by omega) hP⟩⟩
theorem w_ctabE {d : PyData} (h : NT d) (hE : er ⟨"BadTable", []⟩) : sp_cycle_table [.d d] P er := ⟨rfl, w_need_tabE h hE⟩
/-! the drawn tables -/
theorem ren_tb {p : List Int} (hp : Pm n p) (T : Tb n r) : Tb n (renT p n r) := by
  refine ⟨by simp [renT, rng_len], fun x hx => ?_⟩
  unfold renT at hx
  obtain ⟨y, hy, rfl⟩ := List.mem_map.mp hx
  have hy := mem_rng.mp hy
  have row := T.row (hp.bk_mem hy)
  unfold cj
  exact (hp.cmp row).cmp hp.bk
def uT : List (List (List Int)) := [[[2, 3, 1, 0], [2, 3, 1, 0], [2, 3, 0, 1], [2, 3, 0, 1]], [[0, 3, 4, 1, 2], [0, 1, 2, 3, 4], [0, 1, 2, 3, 4], [0, 1, 2, 4, 3], [0, 1, 2, 4, 3]], [[0, 1], [1, 0]], [[0, 1, 2], [1, 2, 0], [0, 1, 2]]]
theorem uT_ok : ∀ r ∈ uT, (∀ x ∈ r, isPm r.length x = true) ∧ 1 ≤ r.length ∧ r.length ≤ 5 := by decide +kernel
def Drawn (P : PyData → Prop) : Prop := ∀ n r, 1 ≤ n → n ≤ 5 → Tb n r → P (dT r)
theorem w_unfair (hP : Drawn P) : sp__law_unfair [.dr] P er := by
  have z2 : 2 ≤ sizeLine := by decide
  have z3 : 3 ≤ sizeLine := by decide
  have z4 : 4 ≤ sizeLine := by decide
  have z5 : 5 ≤ sizeLine := by decide
  refine ⟨z4, z4, z4, z4, z4, z5, z5, z5, z5, z5, z5, z2, z2, z2, z3, z3, z3, z3, z4, rfl, rfl, ?_⟩
  refine w_pick (ds := uT.map dT) (by intro z; cases z) (by decide) fun d hd => ?_
  obtain ⟨r, hr, rfl⟩ := List.mem_map.mp hd
  obtain ⟨h1, h2, h3⟩ := uT_ok r hr
  have T : Tb r.length r := ⟨rfl, fun x hx => isPm_ok (h1 x hx)⟩
  have hl : (((r.map dI).length : Nat) : Int) = (r.length : Nat) := by rw [List.length_map]
  refine ⟨rfl, ?_⟩
  show RgOk 0 (((r.map dI).length : Nat) : Int) ∧ _
  rw [hl]
  refine ⟨rgOk0 (by omega), rfl, ?_⟩
  show sp__law_shuffled [.dr, .d (.list (rgD 0 ((r.length : Nat) : Int)))] _ _
  rw [rgD_rng]
  refine w_shuffled (by rw [rng_len]; omega) fun m hm => ?_
  have pm := pm_perm hm
  exact ⟨rfl, w_renT pm T (by omega) (hP _ _ h2 h3 (ren_tb pm T))⟩
theorem w_sometab (hP : Drawn P) : sp__law_some_table [.dr] P er := by
  refine ⟨rfl, rfl, w_take (by decide) (by decide) fun k k0 k1 => ⟨sh_int _, sh_int _, ?_⟩⟩
  show if PyData.eqv (.int k) (.int 0) = true then _ else _
  rw [eqv_int]
  by_cases c0 : k = 0
  · rw [decide_eq_true c0, if_pos rfl]
    exact ⟨rfl, rfl, w_unfair hP⟩
  · rw [decide_eq_false c0, if_neg (by decide)]
    refine ⟨sh_int _, sh_int _, ?_⟩
    show if PyData.eqv (.int k) (.int 1) = true then _ else _
    rw [eqv_int]
    by_cases c1 : k = 1
    · rw [decide_eq_true c1, if_pos rfl]
      refine ⟨rfl, rfl, rfl, w_take (by decide) (by decide) fun j j0 j1 => ⟨rfl, ?_⟩⟩
      obtain ⟨m, rfl⟩ := Int.eq_ofNat_of_zero_le j0
      show sp__law_table [.dr, .d (.int (1 + (m : Int)))] _ _
      rw [show (1 + (m : Int)) = ((m + 1 : Nat) : Int) by omega]
      exact w_law_table (by omega) fun r T => hP _ _ (by omega) (by omega) T
    · rw [decide_eq_false c1, if_neg (by decide)]
      exact ⟨rfl, rfl, w_ruleA (most := 5) (by decide) (by decide) fun n r h1 h2 R => hP n r h1 h2 (tb_rule R)⟩
end
end MK04
end

section
set_option maxRecDepth 100000
set_option maxHeartbeats 1000000
set_option pp.maxSteps 400
namespace MK04
open PySem PySem.Spec PyProof.Rows L2 MT MF
section
variable {P : PyData → Prop} {er : Exn → Prop} {n : Nat} {r : List (List Int)}
theorem w_meetT (T : Tb n r) (h1 : 1 ≤ n) (h2 : n ≤ 24) {x y : Int} (hx : Rg n x) (hy : Rg n y) (hP : P (.tuple [.int (mu r x y), .int (mw r x y)])) : sp_meet [.d (dT r), .d (.int x), .d (.int y)] P er := by
  refine ⟨rfl, w_need_tab T h1 h2 ⟨rfl, ?_⟩⟩
  show sp_need_between [.d (.int x), .d (.int 0), .d (.int ((((r.map dI).length : Nat) : Int) - 1)), .d (.str "x")] _ _
  rw [len_dT T]
  refine w_needb ⟨hx.1, by have := hx.2; omega⟩ ⟨rfl, ?_⟩
  show sp_need_between [.d (.int y), .d (.int 0), .d (.int ((((r.map dI).length : Nat) : Int) - 1)), .d (.str "y")] _ _
  rw [len_dT T]
  exact w_needb ⟨hy.1, by have := hy.2; omega⟩ ⟨rfl, w_metT T hx hy hP⟩
theorem bkbk {l : List Int} (h : Pm n l) : bk (bk l) = l := ext_ap (n := n) h.bk.bk.len h.len fun i hi => by
  have e := h.bk.ba (h.ap_mem hi)
  rwa [h.ba hi] at e
theorem mapbk (T : Tb n r) : (r.map bk).map bk = r := by
  rw [List.map_map]
  have : ∀ l : List (List Int), (∀ x ∈ l, Pm n x) → l.map (bk ∘ bk) = l := fun l => by
    induction l with
    | nil => intro _; rfl
    | cons a l ih =>
      intro h
      rw [List.map_cons, ih fun x hx => h x (List.mem_cons_of_mem _ hx)]
      show bk (bk a) :: l = _
      rw [bkbk (h a List.mem_cons_self)]
  exact this r T.pm
theorem shT (T : Tb n r) (hn : n ≤ 5) : Shw (dT r) 10000 ∧ (dT r).depth ≤ 59 := by
  have hd := (layLI r).2
  have hr : ∀ d ∈ r.map dI, Shw d 200 ∧ d.depth ≤ 59 := fun d hd => by
    obtain ⟨x, hx, rfl⟩ := List.mem_map.mp hd
    have px := T.pm x hx
    have h := shw_dI (v := x) fun z hz => by have h := px.mem z hz; have h1 := h.1; have h2 := h.2; omega
    refine ⟨⟨h.a, h.b, h.c, Nat.le_trans h.l ?_⟩, by simp [dI, PyData.depth, shL x]⟩
    rw [px.len]; omega
  have h := shw_tup hr
  refine ⟨⟨h.a, h.b, h.c, Nat.le_trans h.l ?_⟩, ?_⟩
  · rw [List.length_map, T.len]; omega
  · show (PyData.tuple (r.map dI)).depth ≤ 59
    simp only [PyData.depth]; omega
theorem shK {k : Nat} (hk : k < 5) : Shw (.int (k : Nat)) 1000 ∧ (PyData.int (k : Nat)).depth ≤ 59 := by
  rcases (by omega : k = 0 ∨ k = 1 ∨ k = 2 ∨ k = 3 ∨ k = 4) with rfl | rfl | rfl | rfl | rfl <;> exact ⟨⟨by decide +kernel, by decide +kernel, by decide +kernel, by decide +kernel⟩, by decide +kernel⟩
theorem shC (hn : n ≤ 5) : Shw (cfd r (rowsL n 2)) 10000 ∧ (cfd r (rowsL n 2)).depth ≤ 59 := by
  rcases cfd_or r (rowsL n 2) with e | ⟨x, u, e, l, hl, hx, hu⟩
  · rw [e]; exact ⟨⟨by decide +kernel, by decide +kernel, by decide +kernel, by decide +kernel⟩, by decide +kernel⟩
  · rw [e]
    obtain ⟨x', u', rx, ru, rfl⟩ := mem_rows2.mp hl
    have hx : x = x' := hx
    have hu : u = u' := hu
    subst hx; subst hu
    obtain ⟨a, rfl, ha⟩ := rx.nat
    obtain ⟨c, rfl, hc⟩ := ru.nat
    have hr : ∀ d ∈ [PyData.str "corner", .int (a : Nat), .int (c : Nat)], Shw d 1000 ∧ d.depth ≤ 59 := fun d hd => by
      simp only [List.mem_cons, List.not_mem_nil, or_false] at hd
      rcases hd with rfl | rfl | rfl
      · exact ⟨⟨by decide +kernel, by decide +kernel, by decide +kernel, by decide +kernel⟩, by decide +kernel⟩
      · exact shK (by omega)
      · exact shK (by omega)
    have h := shw_tup hr
    exact ⟨⟨h.a, h.b, h.c, Nat.le_trans h.l (by show 4 + 1002 * 3 ≤ 10000; decide)⟩, by simp [PyData.depth, PyData.depthAll]⟩
def selF (r : List (List Int)) : PyData → Bool
  | .tuple [.int x, .int y, .int z] => !decide (cyc r (cyc r x y) (cyc r x z) = cyc r (cyc r y x) (cyc r y z))
  | _ => false
theorem selF_nil (T : Tb n r) : ((rowsL n 3).map dI).filter (selF r) = [] ↔ Rule n r := by
  rw [List.filter_eq_nil_iff]
  constructor
  · intro h
    refine T.rule fun x y hx hy z hz => ?_
    have := h (dI [x, y, z]) (List.mem_map.mpr ⟨_, mem_rows3.mpr ⟨x, y, z, hx, hy, hz, rfl⟩, rfl⟩)
    have h2 : ¬ (!decide (cyc r (cyc r x y) (cyc r x z) = cyc r (cyc r y x) (cyc r y z))) = true := this
    by_cases c : cyc r (cyc r x y) (cyc r x z) = cyc r (cyc r y x) (cyc r y z)
    · exact c
    · rw [decide_eq_false c] at h2; exact absurd rfl h2
  · intro R d hd
    obtain ⟨l, hl, rfl⟩ := List.mem_map.mp hd
    obtain ⟨x, y, z, hx, hy, hz, rfl⟩ := mem_rows3.mp hl
    show ¬ (!decide (cyc r (cyc r x y) (cyc r x z) = cyc r (cyc r y x) (cyc r y z))) = true
    rw [decide_eq_true (R.fair x y z hx hy hz)]; decide
theorem rep1' : ∀ l : List PyData, l.map (fun _ => PyData.int 1) = (l.map fun _ => (1 : Int)).map PyData.int
  | [] => rfl
  | _ :: l => by rw [List.map_cons, rep1' l]; rfl
end
abbrev q0 : WS := (dSet 3 (dCallD 1 1 sp__law_some_table dNil))
abbrev q1 : WS := (dSet 4 (dUn oLen (dNm 3)))
abbrev q2 : WS := (dSet 5 (dUn oTuple (dLc (dItems (dNm 3)) (tg1 10) bYes (dCall 1 sp__law_undone (dCons (dNm 10) dNil)) [10])))
abbrev q3 : WS := (dIfS (bNot (asB (dCall 2 sp__law_same (dCons (dLst (dCons (dCall 1 sp_cycle_table (dCons (dNm 3) dNil)) (dCons (dCall 1 sp_cycle_table (dCons (dNm 5) dNil)) (dCons (dCall 1 sp_corner_fault (dCons (dNm 3) dNil)) dNil)))) (dCons (dLst (dCons (dNm 5) (dCons (dNm 3) (dCons (dCall 1 sp__law_corner (dCons (dNm 3) dNil)) dNil)))) dNil))))) (dRet (dC (.bool false))) dNext)
abbrev q4 : WS := (dSet 6 (dBin oEq (dLc (dItems (dCall 2 sp__law_rows (dCons (dNm 4) (dCons (dC (.int 3)) dNil)))) (tgT ((tg1 8) :: (tg1 9) :: (tg1 11) :: [])) (asB (dBin oNe (dBin oIx (dBin oIx (dNm 5) (dBin oIx (dBin oIx (dNm 5) (dNm 8)) (dNm 9))) (dBin oIx (dBin oIx (dNm 5) (dNm 8)) (dNm 11))) (dBin oIx (dBin oIx (dNm 5) (dBin oIx (dBin oIx (dNm 5) (dNm 9)) (dNm 8))) (dBin oIx (dBin oIx (dNm 5) (dNm 9)) (dNm 11))))) (dC (.int 1)) [8, 9, 11]) (dLst dNil)))
abbrev q5 : WS := (dIfS (bOr (asB (dBin oNe (dNm 6) (dBin oIsN (dCall 1 sp_corner_fault (dCons (dNm 3) dNil)) (dC .none)))) (asB (dBin oNe (dNm 6) (dBin oIsN (dCall 1 sp_table_fault (dCons (dNm 3) dNil)) (dC .none))))) (dRet (dC (.bool false))) dNext)
abbrev q6 : WS := (dIfS (asB (dNm 6)) (dSeq (dSet 7 (dCall 1 sp__law_own (dCons (dNm 3) dNil)))
  (dSeq (dIfS (bOr (bNot (asB (dCall 2 sp__law_same (dCons (dCall 1 sp_diagonal (dCons (dNm 3) dNil)) (dCons (dNm 7) dNil))))) (asB (dBin oNe (dUn oSort (dNm 7)) (dLstRg (dRg1 (dNm 4)))))) (dRet (dC (.bool false))) dNext)
  (dFor (dItems (dCall 2 sp__law_rows (dCons (dNm 4) (dCons (dC (.int 2)) dNil)))) (tgT ((tg1 8) :: (tg1 9) :: [])) (dIfS (asB (dBin oNe (dBin oIx (dCall 3 sp_meet (dCons (dNm 3) (dCons (dNm 8) (dCons (dNm 9) dNil)))) (dC (.int 1))) (dBin oIx (dCall 1 sp__law_undone (dCons (dNm 7) dNil)) (dBin oIx (dBin oIx (dNm 5) (dNm 9)) (dBin oIx (dNm 7) (dNm 8)))))) (dRet (dC (.bool false))) dNext)))) (dIfS (bNot (asB (dIsx errL "BadRule" (dCaught errL (dCall 1 sp_diagonal (dCons (dNm 3) dNil)))))) (dRet (dC (.bool false))) dNext))
section
variable {n : Nat} {r : List (List Int)} {b : Bool} {E : DE} {s0 s2 s3 s4 s5 s6 s7 s8 s9 s10 s11 : MT.Slot}
theorem g0 (h : ∀ n r, 1 ≤ n → n ≤ 5 → Tb n r → E.nx [s0, .dr, s2, .d (dT r), s4, s5, s6, s7, s8, s9, s10, s11]) :
    q0 E [s0, .dr, s2, s3, s4, s5, s6, s7, s8, s9, s10, s11] := by
  exact ⟨rfl, rfl, w_sometab fun n r h1 hn T => h n r h1 hn T⟩
theorem g1 (T : Tb n r) (h1 : 1 ≤ n) (hn : n ≤ 5) (h : E.nx [s0, .dr, s2, .d (dT r), .d (.int (n : Nat)), s5, s6, s7, s8, s9, s10, s11]) :
    q1 E [s0, .dr, s2, .d (dT r), s4, s5, s6, s7, s8, s9, s10, s11] := by
  show E.nx [s0, .dr, s2, .d (dT r), .d (.int (((r.map dI).length : Nat) : Int)), s5, s6, s7, s8, s9, s10, s11]
  rw [len_dT T]
  exact h
theorem g2 (T : Tb n r) (h1 : 1 ≤ n) (hn : n ≤ 5) (h : E.nx [s0, .dr, s2, .d (dT r), .d (.int (n : Nat)), .d (dT (r.map bk)), s6, s7, s8, s9, s10, s11]) :
    q2 E [s0, .dr, s2, .d (dT r), .d (.int (n : Nat)), s5, s6, s7, s8, s9, s10, s11] := by
  show lcW _ _ _ _ (r.map dI) _ _
  refine lc_rows (g := fun x => dI (bk x)) r (fun x hx P hp => ⟨rfl, w_law_undone (T.pm x hx) (by omega) hp⟩) _ (oTuple_list ?_)
  have e : (r.map fun x => dI (bk x)) = (r.map bk).map dI := by rw [List.map_map]; rfl
  rw [e]
  exact h
theorem g3 (T : Tb n r) (h1 : 1 ≤ n) (hn : n ≤ 5) (h : E.nx [s0, .dr, s2, .d (dT r), .d (.int (n : Nat)), .d (dT (r.map bk)), s6, s7, s8, s9, s10, s11]) :
    q3 E [s0, .dr, s2, .d (dT r), .d (.int (n : Nat)), .d (dT (r.map bk)), s6, s7, s8, s9, s10, s11] := by
  have z3 : 3 ≤ sizeLine := by decide
  refine ⟨rfl, w_ctab T h1 (by omega) ⟨rfl, w_ctab (tb_bk T) h1 (by omega) ⟨rfl, w_cfault T h1 (by omega) ⟨z3, rfl, w_lcorner T hn ⟨z3, rfl, ?_⟩⟩⟩⟩⟩
  rw [mapbk T]
  exact same3 (shT (tb_bk T) hn) (shT T hn) (shC hn) h
theorem g4 (T : Tb n r) (h1 : 1 ≤ n) (hn : n ≤ 5) (hb : b = true ↔ Rule n r) (h : E.nx [s0, .dr, s2, .d (dT r), .d (.int (n : Nat)), .d (dT (r.map bk)), .d (.bool b), s7, s8, s9, s10, s11]) :
    q4 E [s0, .dr, s2, .d (dT r), .d (.int (n : Nat)), .d (dT (r.map bk)), s6, s7, s8, s9, s10, s11] := by
  refine ⟨rfl, w_lrows (k := 3) hn (by decide) ?_⟩
  refine lcW_all (selF r) (fun _ => .int 1) ((rowsL n 3).map dI) (fun d hd => ?_) _ ?_
  · obtain ⟨l, hl, rfl⟩ := List.mem_map.mp hd
    obtain ⟨x, y, z, hx, hy, hz, rfl⟩ := mem_rows3.mp hl
    have hl2 : (r.map bk).length = n := by rw [List.length_map, T.len]
    have row : ∀ {x : Int}, Rg n x → atI ((r.map bk).map dI) x = some (dI (bk (rw_ r x))) := fun {x} hx => by rw [atI_tab (by rw [hl2]; exact hx), rwT T hx]
    have cel : ∀ {x y : Int}, Rg n x → Rg n y → atI ((bk (rw_ r x)).map PyData.int) y = some (.int (cyc r x y)) := fun {x y} hx hy => atI_int (by rw [(T.row hx).bk.len]; exact hy)
    have a := cyT T hx hy
    have c := cyT T hy hx
    refine ⟨_, rfl, fun P hp => ?_, fun _ P hp => hp⟩
    refine ⟨_, row hx, _, cel hx hy, _, row a, _, row hx, _, cel hx hz, _, cel a (cyT T hx hz), _, row hy, _, cel hy hx, _, row c, _, row hy, _, cel hy hz, _, cel c (cyT T hy hz), sh_int _, sh_int _, ?_⟩
    rw [eqv_int]
    exact hp
  · rw [rep1']
    refine ⟨Nat.zero_le _, shIl _, shIl [], ?_⟩
    rw [eqvNil]
    have e : decide (((((rowsL n 3).map dI).filter (selF r)).map fun _ => (1 : Int)) = []) = b := by
      cases eb : b with
      | true => exact decide_eq_true (List.map_eq_nil_iff.mpr ((selF_nil T).mpr (hb.mp eb)))
      | false => exact decide_eq_false fun z => Bool.noConfusion (eb.symm.trans (hb.mpr ((selF_nil T).mp (List.map_eq_nil_iff.mp z))))
    rw [e]
    exact h
theorem g5 (T : Tb n r) (h1 : 1 ≤ n) (hn : n ≤ 5) (hb : b = true ↔ Rule n r) (h : E.nx [s0, .dr, s2, .d (dT r), .d (.int (n : Nat)), .d (dT (r.map bk)), .d (.bool b), s7, s8, s9, s10, s11]) :
    q5 E [s0, .dr, s2, .d (dT r), .d (.int (n : Nat)), .d (dT (r.map bk)), .d (.bool b), s7, s8, s9, s10, s11] := by
  refine ⟨rfl, w_cfault T h1 (by omega) ⟨rfl, by cases b <;> rfl, rfl, ?_⟩⟩
  have e : isN (cfd r (rowsL n 2)) = b := by
    rcases cfd_or r (rowsL n 2) with e | ⟨x, u, e, _⟩
    · rw [e]; exact (hb.mpr ((cfd_fair T).mp e)).symm
    · cases eb : b with
      | false => rw [e]; rfl
      | true =>
        have := (cfd_fair T).mpr (hb.mp eb)
        rw [e] at this; cases this
  rw [e]
  have e2 : (!PyData.eqv (.bool b) (.bool b)) = false := by cases b <;> rfl
  rw [e2]
  refine ⟨rfl, w_tfault T h1 (by omega) b hb (fun eb => ?_) (fun eb ds => ?_)⟩
  · subst eb
    exact ⟨rfl, rfl, rfl, h⟩
  · subst eb
    exact ⟨rfl, rfl, rfl, h⟩
theorem g6 (T : Tb n r) (h1 : 1 ≤ n) (hn : n ≤ 5) (hb : b = true ↔ Rule n r) (h : ∀ s7 s8 s9, E.nx [s0, .dr, s2, .d (dT r), .d (.int (n : Nat)), .d (dT (r.map bk)), .d (.bool b), s7, s8, s9, s10, s11]) :
    q6 E [s0, .dr, s2, .d (dT r), .d (.int (n : Nat)), .d (dT (r.map bk)), .d (.bool b), s7, s8, s9, s10, s11] := by
  cases b with
  | true =>
    have R : Rule n r := hb.mp rfl
    have pd := dgn_pm R
    refine ⟨rfl, w_own R (by omega) ?_⟩
    refine ⟨rfl, w_diagR R h1 (by omega) ⟨rfl, ?_⟩⟩
    refine w_same (shw_le (k := 8) (fun z hz => by have h := pd.mem z hz; have h1 := h.1; have h2 := h.2; omega) (by decide) (by rw [pd.len]; omega)) (by decide) ?_
    refine ⟨dgn n r, rfl, by rw [pd.len, sizeLine_eq]; omega, fun m hm hs => ⟨rgOk0 (by omega), ?_⟩⟩
    rw [sorted_rng pd hm hs, rgD_rng]
    refine ⟨shIl _, shIl _, ?_⟩
    have e : PyData.eqv (.list ((rng n).map PyData.int)) (.list ((rng n).map PyData.int)) = true := by
      have := eqvI (rng n) (rng n)
      simp only [dI, PyData.eqv] at this ⊢
      rw [this]; simp
    rw [e]
    refine ⟨rfl, w_lrows (k := 2) hn (by decide) ?_⟩
    refine forW_inv (fun i env => ∃ s8 s9, env = [s0, .dr, s2, .d (dT r), .d (.int (n : Nat)), .d (dT (r.map bk)), .d (.bool true), .d (dI (dgn n r)), s8, s9, s10, s11]) ⟨_, _, rfl⟩ ?_ ?_
    · rintro i d env nx hd ⟨s8, s9, rfl⟩ hnx
      obtain ⟨l, hl, rfl⟩ := List.mem_map.mp (List.mem_of_getElem? hd)
      obtain ⟨x, y, hx, hy, rfl⟩ := mem_rows2.mp hl
      have hl2 : (r.map bk).length = n := by rw [List.length_map, T.len]
      have by_ : atI ((r.map bk).map dI) y = some (dI (bk (rw_ r y))) := by rw [atI_tab (by rw [hl2]; exact hy), rwT T hy]
      have ax : atI ((dgn n r).map PyData.int) x = some (.int (ap (dgn n r) x)) := atI_int (by rw [pd.len]; exact hx)
      have rx := pd.ap_mem hx
      have ay : atI ((bk (rw_ r y)).map PyData.int) (ap (dgn n r) x) = some (.int (ap (bk (rw_ r y)) (ap (dgn n r) x))) := atI_int (by rw [(T.row hy).bk.len]; exact rx)
      have ry : Rg n (ap (bk (rw_ r y)) (ap (dgn n r) x)) := (T.row hy).bk_mem rx
      refine ⟨_, rfl, rfl, w_meetT T h1 (by omega) hx hy ⟨_, rfl, rfl, w_law_undone pd (by omega) ?_⟩⟩
      refine ⟨_, by_, _, ax, _, ay, _, atI_int (by rw [pd.bk.len]; exact ry), sh_int _, sh_int _, ?_⟩
      rw [← own_law R hx hy]
      show if (!PyData.eqv (.int (mw r x y)) (.int (mw r x y))) = true then _ else _
      rw [eqv_int, decide_eq_true rfl]
      exact hnx _ ⟨_, _, rfl⟩
    · rintro env ⟨s8, s9, rfl⟩
      exact h _ _ _
  | false =>
    have hne : ¬ Rule n r := fun z => by have := hb.mpr z; cases this
    have hm : ("BadRule" : Str) ∈ errL := by decide +kernel
    exact ⟨rfl, w_diagE T h1 (by omega) hne ⟨hm, atomic_nil, fun e he => by cases he; exact hm, h _ _ _⟩⟩
end
end MK04
end

section
set_option maxRecDepth 100000
set_option maxHeartbeats 1000000
set_option pp.maxSteps 400
namespace MK04
open PySem PySem.Spec PyProof.Rows L2 MT MF
section
variable {n : Nat} {r : List (List Int)} {b : Bool} {E : DE} {s0 s2 s3 s4 s5 s6 s7 s8 s9 s10 s11 : MT.Slot}
theorem k0 {K : WS} (h : ∀ n r, 1 ≤ n → n ≤ 5 → Tb n r → K E [s0, .dr, s2, .d (dT r), s4, s5, s6, s7, s8, s9, s10, s11]) :
    dSeq q0 K E [s0, .dr, s2, s3, s4, s5, s6, s7, s8, s9, s10, s11] := seqI (g0 (E := ⟨K E, E.rt, E.bk, E.ct, E.er⟩) h)
theorem k1 {K : WS} (T : Tb n r) (h1 : 1 ≤ n) (hn : n ≤ 5) (h : K E [s0, .dr, s2, .d (dT r), .d (.int (n : Nat)), s5, s6, s7, s8, s9, s10, s11]) :
    dSeq q1 K E [s0, .dr, s2, .d (dT r), s4, s5, s6, s7, s8, s9, s10, s11] := seqI (g1 (E := ⟨K E, E.rt, E.bk, E.ct, E.er⟩) T h1 hn h)
theorem k2 {K : WS} (T : Tb n r) (h1 : 1 ≤ n) (hn : n ≤ 5) (h : K E [s0, .dr, s2, .d (dT r), .d (.int (n : Nat)), .d (dT (r.map bk)), s6, s7, s8, s9, s10, s11]) :
    dSeq q2 K E [s0, .dr, s2, .d (dT r), .d (.int (n : Nat)), s5, s6, s7, s8, s9, s10, s11] := seqI (g2 (E := ⟨K E, E.rt, E.bk, E.ct, E.er⟩) T h1 hn h)
theorem k3 {K : WS} (T : Tb n r) (h1 : 1 ≤ n) (hn : n ≤ 5) (h : K E [s0, .dr, s2, .d (dT r), .d (.int (n : Nat)), .d (dT (r.map bk)), s6, s7, s8, s9, s10, s11]) :
    dSeq q3 K E [s0, .dr, s2, .d (dT r), .d (.int (n : Nat)), .d (dT (r.map bk)), s6, s7, s8, s9, s10, s11] := seqI (g3 (E := ⟨K E, E.rt, E.bk, E.ct, E.er⟩) T h1 hn h)
theorem k4 {K : WS} (T : Tb n r) (h1 : 1 ≤ n) (hn : n ≤ 5) (hb : b = true ↔ Rule n r) (h : K E [s0, .dr, s2, .d (dT r), .d (.int (n : Nat)), .d (dT (r.map bk)), .d (.bool b), s7, s8, s9, s10, s11]) :
    dSeq q4 K E [s0, .dr, s2, .d (dT r), .d (.int (n : Nat)), .d (dT (r.map bk)), s6, s7, s8, s9, s10, s11] := seqI (g4 (E := ⟨K E, E.rt, E.bk, E.ct, E.er⟩) T h1 hn hb h)
theorem k5 {K : WS} (T : Tb n r) (h1 : 1 ≤ n) (hn : n ≤ 5) (hb : b = true ↔ Rule n r) (h : K E [s0, .dr, s2, .d (dT r), .d (.int (n : Nat)), .d (dT (r.map bk)), .d (.bool b), s7, s8, s9, s10, s11]) :
    dSeq q5 K E [s0, .dr, s2, .d (dT r), .d (.int (n : Nat)), .d (dT (r.map bk)), .d (.bool b), s7, s8, s9, s10, s11] := seqI (g5 (E := ⟨K E, E.rt, E.bk, E.ct, E.er⟩) T h1 hn hb h)
theorem k6 {K : WS} (T : Tb n r) (h1 : 1 ≤ n) (hn : n ≤ 5) (hb : b = true ↔ Rule n r) (h : ∀ s7 s8 s9, K E [s0, .dr, s2, .d (dT r), .d (.int (n : Nat)), .d (dT (r.map bk)), .d (.bool b), s7, s8, s9, s10, s11]) :
    dSeq q6 K E [s0, .dr, s2, .d (dT r), .d (.int (n : Nat)), .d (dT (r.map bk)), .d (.bool b), s7, s8, s9, s10, s11] := seqI (g6 (E := ⟨K E, E.rt, E.bk, E.ct, E.er⟩) T h1 hn hb h)
end
abbrev f0 : WS := (dRet (dAnd (dIsx errL "BadTable" (dCaught errL (dCall 1 sp_cycle_table (dCons (dCallD 2 1 sp__law_pick (dCons (dLst (dCons (dC .none) (dCons (dTup dNil) (dCons (dTup (dCons (dTup (dCons (dC (.int 0)) (dCons (dC (.int 0)) dNil))) dNil)) (dCons (dTup (dCons (dTup (dCons (dC (.int 1)) dNil)) dNil)) dNil))))) dNil)) dNil)))) (dBin oEq (dCall 1 sp_diagonal (dCons (dTup (dCons (dTup (dCons (dC (.int 1)) (dCons (dC (.int 0)) dNil))) (dCons (dTup (dCons (dC (.int 1)) (dCons (dC (.int 0)) dNil))) dNil))) dNil)) (dTup (dCons (dC (.int 1)) (dCons (dC (.int 0)) dNil))))))
theorem qall {E : DE} {s0 s2 s3 s4 s5 s6 s7 s8 s9 s10 s11 : MT.Slot} (h : ∀ s3 s4 s5 s6 s7 s8 s9 s10 s11, E.nx [s0, .dr, s2, s3, s4, s5, s6, s7, s8, s9, s10, s11]) :
    (dSeq q0 (dSeq q1 (dSeq q2 (dSeq q3 (dSeq q4 (dSeq q5 (q6))))))) E [s0, .dr, s2, s3, s4, s5, s6, s7, s8, s9, s10, s11] := by
  refine k0 fun n r h1 hn T => ?_
  refine k1 T h1 hn ?_
  refine k2 T h1 hn ?_
  refine k3 T h1 hn ?_
  refine k4 T h1 hn fB_ok ?_
  refine k5 T h1 hn fB_ok ?_
  exact g6 T h1 hn fB_ok fun s7 s8 s9 => h _ _ _ _ _ _ _ _ _
theorem nt_ok : ∀ d ∈ [PyData.none, .tuple [], .tuple [.tuple [.int 0, .int 0]], .tuple [.tuple [.int 1]]], NT d := fun d hd => by
  simp only [List.mem_cons, List.not_mem_nil, or_false] at hd
  rcases hd with rfl | rfl | rfl | rfl
  · exact nt_non
  · exact nt_nil
  · refine nt_in (by decide) (by decide) (fun _ => false) (fun d hd => ?_) ⟨_, List.mem_singleton.mpr rfl, rfl⟩
    rw [List.mem_singleton.mp hd]
    exact tt_len (by decide)
  · refine nt_in (by decide) (by decide) (fun _ => false) (fun d hd => ?_) ⟨_, List.mem_singleton.mpr rfl, rfl⟩
    rw [List.mem_singleton.mp hd]
    exact tt_bad (inB 1) rfl (bw_ints (l := [1])) ⟨.int 1, List.mem_singleton.mpr rfl, rfl⟩
theorem h0 {E : DE} {s0 s2 s3 s4 s5 s6 s7 s8 s9 s10 s11 : MT.Slot} (h : E.rt [s0, .dr, s2, s3, s4, s5, s6, s7, s8, s9, s10, s11] (.bool true)) : f0 E [s0, .dr, s2, s3, s4, s5, s6, s7, s8, s9, s10, s11] := by
  have z0 : 0 ≤ sizeLine := Nat.zero_le _
  have z1 : 1 ≤ sizeLine := by decide
  have z2 : 2 ≤ sizeLine := by decide
  have z4 : 4 ≤ sizeLine := by decide
  have hm : ("BadTable" : Str) ∈ errL := by decide +kernel
  refine ⟨rfl, z0, z2, z1, z1, z1, z4, rfl, w_pick (by intro z; cases z) (by show 4 < 1000000; decide) fun d hd => ?_⟩
  refine ⟨rfl, w_ctabE (nt_ok d hd) ⟨hm, atomic_nil, fun e he => by cases he; exact hm, ?_⟩⟩
  have R2 : Rule 2 [[1, 0], [1, 0]] := rule_rep (n := 2) (t := [1, 0]) (isPm_ok (by decide))
  refine ⟨z2, z2, z2, rfl, w_diagR (n := 2) (r := [[1, 0], [1, 0]]) R2 (by decide) (by decide) ⟨z2, by decide +kernel, by decide +kernel, ?_⟩⟩
  have e : PyData.eqv (dI (dgn 2 [[1, 0], [1, 0]])) (.tuple [.int 1, .int 0]) = true := by decide +kernel
  rw [e]
  exact h
theorem lawD : LawD := by
  intro ns hz
  refine ⟨ns, rfl, ?_⟩
  have hm : ∃ m : Int, (5 + (if (6 : Int) < ((ns.length : Nat) : Int) then 6 else ((ns.length : Nat) : Int))) = m ∧ 5 ≤ m ∧ m ≤ 16777216 := by
    refine ⟨_, rfl, ?_, ?_⟩ <;> split <;> omega
  obtain ⟨m, em, m1, m2⟩ := hm
  refine ⟨by rw [← em] at m1; exact Int.le_trans (by decide) m1, by rw [← em] at m2; exact m2, ?_⟩
  refine forW_inv (fun k env => ∃ s2 s3 s4 s5 s6 s7 s8 s9 s10 s11, env = [.sc ns, .dr, s2, s3, s4, s5, s6, s7, s8, s9, s10, s11]) ⟨_, _, _, _, _, _, _, _, _, _, rfl⟩ ?_ ?_
  · rintro k x env nx hx ⟨s2, s3, s4, s5, s6, s7, s8, s9, s10, s11, rfl⟩ hnx
    exact ⟨_, rfl, qall fun s3 s4 s5 s6 s7 s8 s9 s10 s11 => hnx _ ⟨_, _, _, _, _, _, _, _, _, _, rfl⟩⟩
  · rintro env ⟨s2, s3, s4, s5, s6, s7, s8, s9, s10, s11, rfl⟩
    exact h0 rfl
end MK04
end

section
theorem PySem.Challenge.cw_meeteither_k04_whole_cycle_tables_and_co_holds : PySem.Challenge.rw_meeteither_k04_whole_cycle_tables_and_co.Holds := by
  exact holds_of MK04.lawD
end

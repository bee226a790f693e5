import PyProof.Rows.All
import Wide.All
import OpenK.AllK
import Wide.FinOn
import HandS.ForMost
import HandS.ForExc
import HandS.CallSlots
import HandS.TupAny
import HandS.TupMul
import HandS.Deep
import HandS.Style
import HandS.Zip
import HandS.Conv
import HandS.IsInst
import HandS.Flow
import KE.GoesEnum
import KE.SortData
import HandS.StrMore
import HandS.SetFor
import HandS.Strs
import HandS.Set
import HandS.ExcIs
import HandS.HotCalls
import KE.KIndexOf
import PySem.Challenge.RW_othersloss_k03_whole_payments
set_option Elab.async false
set_option linter.all false
set_option maxRecDepth 100000
set_option autoImplicit false
set_option maxHeartbeats 4000000
/-! DT: new tuples whose object is known to have no dict. -/
namespace DL
open PySem PySem.Spec PyProof.Rows L2
/-- the object of a plain tuple -/
def TO (o : Obj) : Prop := o.cls = .type "tuple" ∧ o.dict = none
/-- a tuple without a dict -/
def SqN (K : PySem.W.Frag) (H : Hp) (a : Addr) (xs : List V) : Prop :=
  (∃ o, H a = some (.frz o (.tup xs)) ∧ TO o) ∨
    ∃ (o : Obj) (its : Array Value) (n : Nat), K.lookup a = some o ∧ TO o ∧ o.data = .seq its n ∧ its.size ≤ sizeLine ∧ Vals xs its.toList
theorem SqN.sqT {K : PySem.W.Frag} {H : Hp} {a : Addr} {xs : List V} (h : SqN K H a xs) : SqT K H a xs := by
  rcases h with ⟨o, h, _⟩ | ⟨o, its, n, h1, h2, h3, h4, h5⟩
  · exact .inl (.inr ⟨o, h⟩)
  · exact .inr ⟨o, its, n, h1, h2.1, h3, h4, h5⟩
theorem SqN.mono {K : PySem.W.Frag} {H H' : Hp} {a : Addr} {xs : List V} (e : Same H H') (h : SqN K H a xs) : SqN K H' a xs := by
  rcases h with ⟨o, h, q⟩ | h
  · exact .inl ⟨o, e _ _ h, q⟩
  · exact .inr h
theorem SqN.up {K : PySem.W.Frag} {H H' : Hp} {a : Addr} {xs : List V} (e : Same H H') (h : SqN K H a xs) : SqT K H' a xs := (h.mono e).sqT
/-- wherever it is laid -/
def NewT (H : Hp) (Q : VK) (xs : List V) : Prop := ∀ p o, TO o → H p = none → Q (.ref p) (upd H p (.frz o (.tup xs)))
section
variable {X : Cx} {pos : Pos}
theorem laidT {pins : List (Addr × Obj)} {σ : L2.St} {H : Hp} {s : Shared} {h' : Heap} {xs : List V} {its : List Value} {p : Addr} {t' : Nat} {c' : Nat} {Q : VK} (I : Inv X pins σ H s) (r : Vals xs its) (hz : xs.length ≤ sizeLine)
    (k : ∀ b u, s.heap.get? b = some u → h'.get? b = some u) (hp : s.heap.objs.size ≤ p) (e : h'.get? p = some { cls := .type "tuple", data := .seq its.toArray c' }) (q : NewT H Q xs) : EP X pins σ Q (.ref p) { s with heap := h', toks := t' } :=
  ⟨.ref p, upd H p (.frz { cls := .type "tuple", data := .seq its.toArray c' } (.tup xs)), I.laid (t' := t') k hp ⟨e, hz, its, r, ⟨_, e, rfl, _, rfl⟩⟩, rfl, q p _ ⟨rfl, rfl⟩ (I.hok.fresh hp)⟩
/-! ### displays -/
def tTupN (t : TA) : TE := fun σ H Q => t σ H fun xs H1 => xs.length ≤ sizeLine ∧ NewT H1 Q xs
theorem pe_tupN {es : List Expr} {t : TA} {x1 : Nat} (h : PA X es t) : PE X (.Tuple es x1 pos) (tTupN t) := by
  refine ⟨fun pins s σ H Q I hq => ?_⟩
  refine wpAny_Tuple_spliced (thn (h.run pos pins s σ H _ I hq) fun us s1 ⟨xs, H1, I1, r, z, q⟩ => ⟨by rw [← r.length]; exact z, ?_⟩)
  exact laidT (t' := s1.toks) (c' := 0) I1 r z (fun b u e => Heap.get?_push_of_some _ e) (Nat.le_refl _) (Heap.get?_push_size _ rfl) q
/-! ### t + u -/
theorem op_catN : OpR X (binaryOp .Add) (fun x y H Q => ∃ a b xs ys, x = .ref a ∧ y = .ref b ∧ SqT X.K H a xs ∧ SqT X.K H b ys ∧ xs.length + ys.length ≤ sizeLine ∧
    (xs = [] → Q (.ref b) H) ∧ (xs ≠ [] → ys = [] → Q (.ref a) H) ∧ (xs ≠ [] → ys ≠ [] → NewT H Q (xs ++ ys))) := by
  intro pins s σ H x y v u Q I rx ry h
  obtain ⟨a, b, xs, ys, rfl, rfl, ha, hb, hz, q0, q1, q2⟩ := h
  cases rx
  cases ry
  obtain ⟨its, r1, p1, _⟩ := I.tuple ha
  obtain ⟨its2, r2, p2, _⟩ := I.tuple hb
  by_cases hx : xs = []
  · subst hx
    cases r1
    exact cat_tup0 p1 p2 ⟨.ref b, H, I, rfl, q0 rfl⟩
  · refine HT.cat_tup p1 p2 (fun z => hx (r1.nil_iff.mp z)) (fun z => ⟨.ref a, H, I, rfl, q1 hx (r2.nil_iff.mp z)⟩) (fun z => ?_) (by rw [← r1.length, ← r2.length]; exact hz)
    exact laidT (t' := s.toks) (c' := 0) I (r1.append r2) (by rw [List.length_append]; exact hz) (fun b u e => Heap.get?_push_of_some _ e) (Nat.le_refl _) (Heap.get?_push_size _ rfl) (q2 hx fun w => z (r2.nil_iff.mpr w))
/-! ### slices -/
theorem sl_tupN : SlR X (fun x lo hi H Q => ∃ a xs, x = .ref a ∧ SqT X.K H a xs ∧
    (HT.sIx xs.length 0 lo = 0 ∧ HT.sIx xs.length xs.length hi = xs.length → Q (.ref a) H) ∧ (¬ (HT.sIx xs.length 0 lo = 0 ∧ HT.sIx xs.length xs.length hi = xs.length) → NewT H Q (cutV xs lo hi))) := by
  intro pins s σ H x v vl vu lo hi sl Q I rx hs pl pu h
  obtain ⟨a, xs, rfl, hx, q1, q2⟩ := h
  cases rx
  obtain ⟨its, r, ht, hz⟩ := I.tuple hx
  have hlen : its.toArray.size = xs.length := by rw [List.size_toArray]; exact r.length.symm
  refine ⟨"tuple", _, PyProof.Rows.slot_tuple_getitem.lookup, ht.typeIs, ?_⟩
  by_cases hw : HT.sIx xs.length 0 lo = 0 ∧ HT.sIx xs.length xs.length hi = xs.length
  · exact getItem_tuple_whole ht hs pl pu (by rw [hlen]; exact hw) ⟨.ref a, H, I, rfl, q1 hw⟩
  · refine HT.getItem_tuple_cut ht hs pl pu (by rw [hlen]; exact hw) ?_ (by rw [hlen]; exact hz)
    rw [hlen]
    exact laidT (t' := s.toks) (c' := 0) I ((r.drop (HT.sIx xs.length 0 lo)).take (HT.sIx xs.length xs.length hi - HT.sIx xs.length 0 lo)) (Nat.le_trans (cutV_length xs lo hi) hz) (fun b u e => Heap.get?_push_of_some _ e) (Nat.le_refl _) (Heap.get?_push_size _ rfl) (q2 hw)
/-! ### tuple(xs), tuple(range(..)) -/
theorem call_tupleN : CallR X (.type "tuple") (fun xs H Q => ∃ p ys, xs = [.ref p] ∧ ((SqL X.K H p ys ∧ NewT H Q ys) ∨ (SqT X.K H p ys ∧ Q (.ref p) H))) := by
  intro pins s σ H xs us Q I r h
  obtain ⟨p, ys, rfl, h⟩ := h
  obtain ⟨u, rfl, rx⟩ := vals1 r
  cases rx
  rcases h with ⟨hq, q⟩ | ⟨hq, q⟩
  · obtain ⟨its, r', pl, hz⟩ := I.list hq
    have hlen := r'.length
    refine call_tuple_list pl.isList (fun h' kp => ?_) (by simp only [List.size_toArray] <;> omega)
    have I1 : Inv X pins σ H { s with heap := h' } := I.kept (t' := s.toks) kp
    exact laidT (s := { s with heap := h' }) (t' := s.toks) (c' := 0) I1 r' hz (fun b u e => Heap.get?_push_of_some _ e) (Nat.le_refl _) (Heap.get?_push_size _ rfl) q
  · obtain ⟨its, r', pl, hz⟩ := I.tuple hq
    exact call_tuple_same pl ⟨.ref p, H, I, rfl, q⟩
def tTupRgN (te : L2.St → Hp → (Int → Int → Hp → Prop) → Prop) : TE := fun σ H Q => te σ H fun a b H1 => RgOk a b ∧ NewT H1 Q (rgV a b)
theorem pe_tupRgN {e : Expr} {te : L2.St → Hp → (Int → Int → Hp → Prop) → Prop} {p pos : Pos} (hc : X.calm = true) (hg : Gl X "tuple") (hm : X.mg "tuple" = none) (he : PRg X e te) (na : starEach [e] X.env = (false, eval e X.env) :: starEach [] X.env := by rfl) : PE X (.Call (.Name "tuple" p) [e] [] pos) (tTupRgN te) := by
  refine ⟨fun pins s σ H Q I h => ?_⟩
  refine Call_ (ld_blt I hg hm boot_tuple (PyProof.Rows.callWith_type1 (args_cons (thn (he pins s σ H _ I h) fun x s1 ⟨r, a, b, t, u, v, H1, ex, hr, I1, ok, q⟩ => args_nil ?_) na) na))
  subst ex
  obtain ⟨b1, b2, b3, b4, b5⟩ := ok
  refine call_tuple_range (n := (b - a).toNat) (I1.ok.hd hc) hr (small_one b1 b2 b3 b4) (rangeSize_nat a b) b5 fun h' tk acc hk hi => ?_
  have I2 : Inv X pins σ H1 { s1 with heap := h', toks := tk } := I1.kept hk
  have ea : acc = acc.toList.toArray := by simp
  rw [ea]
  exact laidT (s := { s1 with heap := h', toks := tk }) (t' := tk) (c' := 0) I2 (vals_rg hi) (by rw [rgV_length, sizeLine_eq]; omega) (fun b u e => Heap.get?_push_of_some _ e) (Nat.le_refl _) (Heap.get?_push_size _ rfl) q
/-! ### t * k -/
theorem op_repN : OpR X (binaryOp .Mult) (fun x y H Q => ∃ l k xs, x = .ref l ∧ y = .int k ∧ SqT X.K H l xs ∧ xs ≠ [] ∧ 2 ≤ k ∧ k ≤ 1000 ∧ xs.length ≤ 1000 ∧ NewT H Q (List.replicate k.toNat xs).flatten) := by
  intro pins s σ H x y v u Q I rx ry h
  obtain ⟨l, k, xs, rfl, rfl, hT, hne, h1, h2, hz, q⟩ := h
  cases rx
  obtain ⟨t, rfl⟩ := ry
  obtain ⟨its, r, ⟨⟨cls, dd, data, sl⟩, ho, hc, n, hd⟩, hs⟩ := I.tuple hT
  simp only at hc hd
  subst hc hd
  have hle : its.length = xs.length := r.length.symm
  have hi : its.toArray.isEmpty = false := by
    cases its with
    | nil => exact absurd (List.eq_nil_of_length_eq_zero hle.symm) hne
    | cons a b => rfl
  have hsz0 : its.toArray.size = xs.length := by rw [List.size_toArray, hle]
  have hm : ((its.toArray.size : Nat) : Int) * k ≤ 1000000 := by
    rw [hsz0]
    have a1 : ((xs.length : Nat) : Int) * k ≤ 1000 * k := Int.mul_le_mul_of_nonneg_right (by omega) (by omega)
    omega
  have big : k.toNat * xs.length ≤ 1000 * 1000 := Nat.mul_le_mul (by omega) hz
  have flen : (List.replicate k.toNat its).flatten.length ≤ sizeLine := by
    rw [PyProof.Rows.lm_len_rep_flat, hle, sizeLine_eq]
    omega
  have c0 : (decide (k < -(2 ^ 63)) || decide (k ≥ 2 ^ 63)) = false := by
    rw [decide_eq_false (by omega), decide_eq_false (by omega)] <;> rfl
  have c1 : (its.toArray.isEmpty || k == 1) = false := by
    rw [hi, Bool.false_or]
    exact beq_eq_false_iff_ne.mpr (by omega)
  have c2 : (decide (k ≤ 0) || its.toArray.isEmpty) = false := by
    rw [hi, Bool.or_false]
    exact decide_eq_false (by omega)
  have c4 : Builtin.Tuple.tupleTooMany (((its.toArray.size : Nat) : Int) * k) = false := by
    unfold Builtin.Tuple.tupleTooMany
    rw [sizeLine_eq]
    exact decide_eq_false (by omega)
  refine wpAny_binaryOp_repeat_ref (T := "tuple") (U := "int") (by decide) ⟨_, ho, rfl⟩ (fun s' => typeIs_int s' k t) noFill_tuple_mul F.fills_int_mul F.slot_int_rmul repeat_tuple F.slot_int_index.lookup
    (call_meets F.slot_int_rmul (typeIs_int s k t) F.entry_int_rmul (F.args_int_rmul_2 _ _) (int_rmul_tuple k t l its.toArray n dd sl)
      ⟨ho, rfl, ⟨_, ho, rfl⟩, call_meets F.slot_tuple_mul ⟨_, ho, rfl⟩ F.entry_tuple_mul (F.args_tuple_mul_2 _ _) (tuple_mulW l its.toArray n dd sl k t c0 c1 c2 (by omega) c4 (by rw [size_rep, List.size_toArray]; exact flen)) ⟨ho, ?_⟩⟩)
  rw [size_rep]
  exact laidT (t' := s.toks) (c' := 0) I (r.rep k.toNat) (by rw [PyProof.Rows.lm_len_rep_flat, sizeLine_eq]; omega) (fun b u e => Heap.get?_push_of_some _ e) (Nat.le_refl _) (Heap.get?_push_size _ rfl) q
end
end DL

/-! D0: data, slots, the relation to the heap. -/
namespace DL
open PySem PySem.Spec PyProof.Rows L2

abbrev St := L2.St
inductive Cell where
  | l (xs : List PyData)
  | i (fs : List (Str × PyData))
  | d (kvs : List (Key × PyData))
inductive Sl where
  | un
  | fz (d : PyData)
  | own (c : Cell)
inductive Rv where
  | fz (d : PyData)
  | bor (i : Nat)
  | nw (c : Cell)
inductive Res (α : Type) where
  | ok (a : α) (e : List Sl)
  | ex (c : Str) (e : List Sl)
  | bad
abbrev Dn (α : Type) := List Sl → Res α

/-- the class Hall -/
def hallOf (mg : Str → Option Value) : Addr := match mg "Hall" with
  | some (.ref a) => a
  | _ => 0
structure Fx where
  K : PySem.W.Frag
  mg : Str → Option Value
  F : Hp
  B0 : Hp
  vs0 : List V
  E : St → Str → Hp → Prop

/-! ### data in heaps -/
mutual
inductive Da (K : PySem.W.Frag) (H : Hp) : V → PyData → Prop
  | non : Da K H .non .none
  | bl (b : Bool) : Da K H (.bl b) (.bool b)
  | int (i : Int) : Da K H (.int i) (.int i)
  | str (x : Str) : Da K H (.str x) (.str x)
  | lst {a : Addr} {xs : List V} {ds : List PyData} : SqL K H a xs → DaAll K H xs ds → Da K H (.ref a) (.list ds)
  | tup {a : Addr} {xs : List V} {ds : List PyData} : SqN K H a xs → DaAll K H xs ds → Da K H (.ref a) (.tuple ds)
inductive DaAll (K : PySem.W.Frag) (H : Hp) : List V → List PyData → Prop
  | nil : DaAll K H [] []
  | cons {v : V} {vs : List V} {d : PyData} {ds : List PyData} : Da K H v d → DaAll K H vs ds → DaAll K H (v :: vs) (d :: ds)
end
mutual
theorem Da.dp {K : PySem.W.Frag} {H : Hp} : ∀ (d : PyData) {v : V}, Da K H v d → Dp K H v d
  | .none, _, h => by cases h; exact .non
  | .bool b, _, h => by cases h; exact .bl b
  | .int i, _, h => by cases h; exact .int i
  | .str x, _, h => by cases h; exact .str x
  | .list ds, _, h => by
    cases h with
    | lst hs ha => exact .lst hs (DaAll.dp ds ha)
  | .tuple ds, _, h => by
    cases h with
    | tup hs ha => exact .tup hs.sqT (DaAll.dp ds ha)
  | .dict _, _, h => by cases h
theorem DaAll.dp {K : PySem.W.Frag} {H : Hp} : ∀ (ds : List PyData) {vs : List V}, DaAll K H vs ds → DpAll K H vs ds
  | [], _, h => by cases h; exact .nil
  | d :: ds, _, h => by
    cases h with
    | cons h1 h2 => exact .cons (Da.dp d h1) (DaAll.dp ds h2)
end
theorem Rd.mono {H H' : Hp} {a : Addr} {u : HO} (e : Same H H') (h : Rd H a u) : Rd H' a u := by
  rcases h with h | ⟨o, h⟩
  · exact .inl (e _ _ h)
  · exact .inr ⟨o, e _ _ h⟩
theorem SqT.mono {K : PySem.W.Frag} {H H' : Hp} {a : Addr} {xs : List V} (e : Same H H') (h : SqT K H a xs) : SqT K H' a xs := by
  rcases h with (h | ⟨o, h⟩) | h
  · exact .inl (.inl (e _ _ h))
  · exact .inl (.inr ⟨o, e _ _ h⟩)
  · exact .inr h
mutual
theorem Da.mono {K : PySem.W.Frag} {H H' : Hp} (e : Same H H') : ∀ (d : PyData) {v : V}, Da K H v d → Da K H' v d
  | .none, _, h => by cases h; exact .non
  | .bool b, _, h => by cases h; exact .bl b
  | .int i, _, h => by cases h; exact .int i
  | .str x, _, h => by cases h; exact .str x
  | .list ds, _, h => by
    cases h with
    | lst hs ha => exact .lst (e.seq hs) (DaAll.mono e ds ha)
  | .tuple ds, _, h => by
    cases h with
    | tup hs ha => exact .tup (SqN.mono e hs) (DaAll.mono e ds ha)
  | .dict _, _, h => by cases h
theorem DaAll.mono {K : PySem.W.Frag} {H H' : Hp} (e : Same H H') : ∀ (ds : List PyData) {vs : List V}, DaAll K H vs ds → DaAll K H' vs ds
  | [], _, h => by cases h; exact .nil
  | d :: ds, _, h => by
    cases h with
    | cons h1 h2 => exact .cons (Da.mono e d h1) (DaAll.mono e ds h2)
end
theorem DaAll.length {K : PySem.W.Frag} {H : Hp} : ∀ {vs : List V} {ds : List PyData}, DaAll K H vs ds → vs.length = ds.length
  | _, _, .nil => rfl
  | _, _, .cons _ t => congrArg (· + 1) (DaAll.length t)
theorem DaAll.get {K : PySem.W.Frag} {H : Hp} : ∀ {vs : List V} {ds : List PyData} {i : Nat} {d : PyData}, DaAll K H vs ds → ds[i]? = some d → ∃ v, vs[i]? = some v ∧ Da K H v d
  | _, _, _, _, .nil, e => by simp at e
  | _, _, 0, _, .cons r _, e => by simp at e; subst e; exact ⟨_, rfl, r⟩
  | _, _, i + 1, d, .cons _ t, e => by
    obtain ⟨u, h1, h2⟩ := DaAll.get (i := i) (d := d) t (by simpa using e)
    exact ⟨u, by simpa using h1, h2⟩
theorem DaAll.getV {K : PySem.W.Frag} {H : Hp} : ∀ {vs : List V} {ds : List PyData} {i : Nat} {v : V}, DaAll K H vs ds → vs[i]? = some v → ∃ d, ds[i]? = some d ∧ Da K H v d
  | _, _, _, _, .nil, e => by simp at e
  | _, _, 0, _, .cons r _, e => by simp at e; subst e; exact ⟨_, rfl, r⟩
  | _, _, i + 1, d, .cons _ t, e => by
    obtain ⟨u, h1, h2⟩ := DaAll.getV (i := i) (v := d) t (by simpa using e)
    exact ⟨u, by simpa using h1, h2⟩
theorem DaAll.append {K : PySem.W.Frag} {H : Hp} : ∀ {vs us : List V} {ds es : List PyData}, DaAll K H vs ds → DaAll K H us es → DaAll K H (vs ++ us) (ds ++ es)
  | _, _, _, _, .nil, s => s
  | _, _, _, _, .cons r t, s => .cons r (DaAll.append t s)
theorem DaAll.set {K : PySem.W.Frag} {H : Hp} {v : V} {d : PyData} (r : Da K H v d) : ∀ {vs : List V} {ds : List PyData} (i : Nat), DaAll K H vs ds → DaAll K H (vs.set i v) (ds.set i d)
  | _, _, _, .nil => .nil
  | _, _, 0, .cons _ t => .cons r t
  | _, _, i + 1, .cons q t => .cons q (DaAll.set r i t)
theorem DaAll.drop {K : PySem.W.Frag} {H : Hp} : ∀ {vs : List V} {ds : List PyData} (n : Nat), DaAll K H vs ds → DaAll K H (vs.drop n) (ds.drop n)
  | _, _, 0, r => r
  | _, _, _ + 1, .nil => .nil
  | _, _, n + 1, .cons _ t => DaAll.drop n t
theorem DaAll.take {K : PySem.W.Frag} {H : Hp} : ∀ {vs : List V} {ds : List PyData} (n : Nat), DaAll K H vs ds → DaAll K H (vs.take n) (ds.take n)
  | _, _, 0, _ => .nil
  | _, _, _ + 1, .nil => .nil
  | _, _, n + 1, .cons r t => .cons r (DaAll.take n t)
theorem DaAll.reverse {K : PySem.W.Frag} {H : Hp} : ∀ {vs : List V} {ds : List PyData}, DaAll K H vs ds → DaAll K H vs.reverse ds.reverse
  | _, _, .nil => .nil
  | _, _, .cons r t => by
    rw [List.reverse_cons, List.reverse_cons]
    exact DaAll.append (DaAll.reverse t) (.cons r .nil)
theorem DaAll.rep {K : PySem.W.Frag} {H : Hp} {vs : List V} {ds : List PyData} (h : DaAll K H vs ds) : ∀ k : Nat, DaAll K H (List.replicate k vs).flatten (List.replicate k ds).flatten
  | 0 => .nil
  | k + 1 => by
    rw [List.replicate_succ, List.replicate_succ, List.flatten_cons, List.flatten_cons]
    exact DaAll.append h (DaAll.rep h k)
theorem DaAll.eraseIdx {K : PySem.W.Frag} {H : Hp} : ∀ {vs : List V} {ds : List PyData} (i : Nat), DaAll K H vs ds → DaAll K H (vs.eraseIdx i) (ds.eraseIdx i)
  | _, _, _, .nil => .nil
  | _, _, 0, .cons _ t => t
  | _, _, i + 1, .cons r t => .cons r (DaAll.eraseIdx i t)
theorem DaAll.ints {K : PySem.W.Frag} {H : Hp} : ∀ {vs : List V} {ns : List Int}, DaAll K H vs (ns.map .int) → vs = ns.map V.int
  | _, [], h => by cases h; rfl
  | _, n :: ns, h => by
    rw [List.map_cons] at h
    cases h with
    | cons h1 h2 => cases h1; rw [DaAll.ints h2]; rfl
theorem DaAll.of_ints {K : PySem.W.Frag} {H : Hp} : ∀ (ns : List Int), DaAll K H (ns.map V.int) (ns.map .int)
  | [] => .nil
  | n :: ns => .cons (.int n) (DaAll.of_ints ns)

/-! ### slots -/
def FsOk (K : PySem.W.Frag) (B : Hp) : List (Str × V) → List (Str × PyData) → Prop := Paired fun p q => p.1 = q.1 ∧ Da K B p.2 q.2
def KvOk (K : PySem.W.Frag) (B : Hp) : List (Key × V) → List (Key × PyData) → Prop := Paired fun p q => p.1 = q.1 ∧ Da K B p.2 q.2
def CellAt (Z : Fx) (B H : Hp) (a : Addr) : Cell → Prop
  | .l xs => ∃ vs, H a = some (.lst vs) ∧ DaAll Z.K B vs xs
  | .i fs => ∃ dx gs, H a = some (.ins (hallOf Z.mg) dx gs) ∧ FsOk Z.K B gs fs
  | .d kvs => ∃ ws, H a = some (.dK ws) ∧ KvOk Z.K B ws kvs
def SlotOk (Z : Fx) (B H : Hp) (o : Option (Option V)) : Sl → Prop
  | .un => True
  | .fz d => ∃ v, o = some (some v) ∧ Da Z.K B v d
  | .own c => ∃ a, o = some (some (.ref a)) ∧ B a = none ∧ Z.F a = none ∧ CellAt Z B H a c
structure Rel (Z : Fx) (B : Hp) (env : List Sl) (σ : St) (H : Hp) : Prop where
  bh : Same B H
  fh : Same Z.F H
  b0 : Same Z.B0 B
  new : ∀ a o, B a = some o → Z.B0 a = some o ∨ Z.F a = none
  len : env.length = σ.length
  arg : ∀ (i : Nat) (v : V), Z.vs0[i]? = some v → σ[i]? = some (some v)
  slot : ∀ (i : Nat) (s : Sl), env[i]? = some s → SlotOk Z B H σ[i]? s
  sep : ∀ (i j : Nat) (a : Addr) (c c' : Cell), env[i]? = some (.own c) → env[j]? = some (.own c') → σ[i]? = some (some (.ref a)) → σ[j]? = some (some (.ref a)) → i = j

theorem Paired.mapP {α β : Type} {F G : α → β → Prop} {l₁ : List α} {l₂ : List β} (h : Paired F l₁ l₂) (f : ∀ a b, F a b → G a b) : Paired G l₁ l₂ := L2.Paired.mapP h f
theorem FsOk.mono {K : PySem.W.Frag} {B B' : Hp} (e : Same B B') {gs : List (Str × V)} {fs : List (Str × PyData)} (h : FsOk K B gs fs) : FsOk K B' gs fs := Paired.mapP h fun _ q x => ⟨x.1, Da.mono e q.2 x.2⟩
theorem KvOk.mono {K : PySem.W.Frag} {B B' : Hp} (e : Same B B') {gs : List (Key × V)} {fs : List (Key × PyData)} (h : KvOk K B gs fs) : KvOk K B' gs fs := Paired.mapP h fun _ q x => ⟨x.1, Da.mono e q.2 x.2⟩
/-- a cell that stays -/
theorem CellAt.mono {Z : Fx} {B B' H H' : Hp} {a : Addr} {c : Cell} (e : Same B B') (h : ∀ o, H a = some o → H' a = some o) (x : CellAt Z B H a c) : CellAt Z B' H' a c := by
  cases c with
  | l xs => obtain ⟨vs, h1, h2⟩ := x; exact ⟨vs, h _ h1, DaAll.mono e _ h2⟩
  | i fs => obtain ⟨dx, gs, h1, h2⟩ := x; exact ⟨dx, gs, h _ h1, FsOk.mono e h2⟩
  | d kvs => obtain ⟨ws, h1, h2⟩ := x; exact ⟨ws, h _ h1, KvOk.mono e h2⟩
theorem CellAt.there {Z : Fx} {B H : Hp} {a : Addr} {c : Cell} (x : CellAt Z B H a c) : ∃ o, H a = some o := by
  cases c with
  | l xs => obtain ⟨vs, h1, h2⟩ := x; exact ⟨_, h1⟩
  | i fs => obtain ⟨dx, gs, h1, h2⟩ := x; exact ⟨_, h1⟩
  | d kvs => obtain ⟨ws, h1, h2⟩ := x; exact ⟨_, h1⟩

/-- the frozen part and the heap grow by new cells -/
structure Ext (B H B' H' : Hp) : Prop where
  b : Same B B'
  h : Same H H'
  bh : Same B' H'
  new : ∀ a o, B' a = some o → B a = some o ∨ H a = none
theorem Ext.refl {B H : Hp} (e : Same B H) : Ext B H B H := ⟨.refl _, .refl _, e, fun _ _ h => .inl h⟩
theorem Ext.trans {B H B1 H1 B2 H2 : Hp} (x : Ext B H B1 H1) (y : Ext B1 H1 B2 H2) : Ext B H B2 H2 := by
  refine ⟨x.b.trans y.b, x.h.trans y.h, y.bh, fun a o h => ?_⟩
  rcases y.new a o h with h | h
  · exact x.new a o h
  · exact .inr (x.h.free h)
theorem same_upd {H : Hp} {p : Addr} {o : HO} (h : H p = none) : Same H (upd H p o) := fun b x e => by
  rw [upd_ne (ne_of_none e h)]
  exact e
theorem same_upd2 {B H : Hp} {p : Addr} {o : HO} (s : Same B H) : Same (upd B p o) (upd H p o) := fun b x e => by
  by_cases hb : b = p
  · subst hb; rw [upd_same] at e ⊢; exact e
  · rw [upd_ne hb] at e ⊢; exact s _ _ e
/-- one new cell, frozen -/
theorem Ext.one {B H : Hp} {p : Addr} (o : HO) (e : Same B H) (h : H p = none) : Ext B H (upd B p o) (upd H p o) := by
  refine ⟨same_upd (e.free h), same_upd h, same_upd2 e, fun a u q => ?_⟩
  by_cases ha : a = p
  · subst ha; exact .inr h
  · rw [upd_ne ha] at q; exact .inl q
/-- one new cell, not frozen -/
theorem Ext.heap {B H : Hp} {p : Addr} (o : HO) (e : Same B H) (h : H p = none) : Ext B H B (upd H p o) :=
  ⟨.refl _, same_upd h, e.trans (same_upd h), fun _ _ q => .inl q⟩

section
variable {Z : Fx} {B B' H H' : Hp} {env : List Sl} {σ : St}
theorem Rel.ext (r : Rel Z B env σ H) (x : Ext B H B' H') : Rel Z B' env σ H' := by
  refine ⟨x.bh, r.fh.trans x.h, r.b0.trans x.b, fun a o h => ?_, r.len, r.arg, fun i s h => ?_, r.sep⟩
  · rcases x.new a o h with h | h
    · exact r.new a o h
    · exact .inr (r.fh.free h)
  · have q := r.slot i s h
    cases s with
    | un => trivial
    | fz d => obtain ⟨v, h1, h2⟩ := q; exact ⟨v, h1, Da.mono x.b _ h2⟩
    | own c =>
      obtain ⟨a, h1, h2, h3, h4⟩ := q
      refine ⟨a, h1, ?_, h3, h4.mono x.b fun o e => x.h _ _ e⟩
      cases e : B' a with
      | none => rfl
      | some o =>
        rcases x.new a o e with q | q
        · rw [h2] at q; cases q
        · obtain ⟨u, hu⟩ := h4.there; rw [hu] at q; cases q
/-- a value that an expression gave -/
def Val (Z : Fx) (B : Hp) (env : List Sl) (σ : St) (H : Hp) (v : V) : Rv → Prop
  | .fz d => Da Z.K B v d
  | .bor i => σ[i]? = some (some v)
  | .nw c => ∃ a, v = .ref a ∧ B a = none ∧ Z.F a = none ∧ CellAt Z B H a c ∧ ∀ (i : Nat) (c' : Cell), env[i]? = some (.own c') → σ[i]? ≠ some (some (.ref a))
/-- an own list is frozen -/
theorem Rel.freeze {a : Addr} {vs : List V} (r : Rel Z B env σ H) (hb : B a = none) (hf : Z.F a = none) (hH : H a = some (.lst vs)) (hn : ∀ (i : Nat) (c' : Cell), env[i]? = some (.own c') → σ[i]? ≠ some (some (.ref a))) :
    Same B (upd B a (.lst vs)) ∧ Rel Z (upd B a (.lst vs)) env σ H := by
  have s1 : Same B (upd B a (.lst vs)) := same_upd hb
  refine ⟨s1, fun b o e => ?_, r.fh, r.b0.trans s1, fun b o e => ?_, r.len, r.arg, fun i s h => ?_, r.sep⟩
  · by_cases h : b = a
    · subst h; rw [upd_same] at e; cases e; exact hH
    · rw [upd_ne h] at e; exact r.bh _ _ e
  · by_cases h : b = a
    · subst h; exact .inr hf
    · rw [upd_ne h] at e; exact r.new _ _ e
  · have q := r.slot i s h
    cases s with
    | un => trivial
    | fz d => obtain ⟨v, h1, h2⟩ := q; exact ⟨v, h1, Da.mono s1 _ h2⟩
    | own c =>
      obtain ⟨b, h1, h2, h3, h4⟩ := q
      have ne : b ≠ a := fun e => hn i c h (by rw [h1, e])
      exact ⟨b, h1, by rw [upd_ne ne]; exact h2, h3, h4.mono s1 fun o e => e⟩
theorem Rel.set {i : Nat} {s : Sl} (r : Rel Z B env σ H) (h : SlotOk Z B H σ[i]? s) (hs : ∀ (c : Cell) (j : Nat) (a : Addr), s = .own c → σ[i]? = some (some (.ref a)) → σ[j]? = some (some (.ref a)) → (∃ c', env[j]? = some (.own c')) → j = i) : Rel Z B (env.set i s) σ H := by
  refine ⟨r.bh, r.fh, r.b0, r.new, by rw [List.length_set]; exact r.len, r.arg, fun j t e => ?_, fun j k a c c' e1 e2 e3 e4 => ?_⟩
  · by_cases hj : i = j
    · subst hj
      have hl : i < env.length := by
        have := List.getElem?_eq_some_iff.mp e
        obtain ⟨h, _⟩ := this
        simpa using h
      rw [List.getElem?_set_self hl] at e
      cases e
      exact h
    · rw [List.getElem?_set_ne hj] at e
      exact r.slot j t e
  · by_cases hj : i = j
    · by_cases hk : i = k
      · rw [← hj, ← hk]
      · subst hj
        have hl : i < env.length := by
          obtain ⟨h, _⟩ := List.getElem?_eq_some_iff.mp e1
          simpa using h
        rw [List.getElem?_set_self hl] at e1
        rw [List.getElem?_set_ne hk] at e2
        cases e1
        exact (hs c k a rfl e3 e4 ⟨_, e2⟩).symm
    · by_cases hk : i = k
      · subst hk
        have hl : i < env.length := by
          obtain ⟨h, _⟩ := List.getElem?_eq_some_iff.mp e2
          simpa using h
        rw [List.getElem?_set_self hl] at e2
        rw [List.getElem?_set_ne hj] at e1
        cases e2
        exact hs c' j a rfl e4 e3 ⟨_, e1⟩
      · rw [List.getElem?_set_ne hj] at e1
        rw [List.getElem?_set_ne hk] at e2
        exact r.sep j k a c c' e1 e2 e3 e4
end

/-! ### commit: from a value to frozen data -/
def cmtB (i : Nat) (e : List Sl) : Res PyData := match e[i]? with
  | some (.fz d) => .ok d e
  | some (.own (.l xs)) => .ok (.list xs) (e.set i (.fz (.list xs)))
  | _ => .bad
def cmt : Rv → Dn PyData
  | .fz d, e => .ok d e
  | .nw (.l xs), e => .ok (.list xs) e
  | .nw _, _ => .bad
  | .bor i, e => cmtB i e
theorem cmt_ok {Z : Fx} {B H : Hp} {env env' : List Sl} {σ : St} {v : V} {r : Rv} {d : PyData} (R : Rel Z B env σ H) (hv : Val Z B env σ H v r) (h : cmt r env = .ok d env') :
    ∃ B', Same B B' ∧ Rel Z B' env' σ H ∧ Da Z.K B' v d := by
  cases r with
  | fz d' =>
    cases h
    exact ⟨B, .refl _, R, hv⟩
  | nw c =>
    cases c with
    | l xs =>
      cases h
      obtain ⟨a, rfl, h1, h2, ⟨vs, h3, h4⟩, h5⟩ := hv
      obtain ⟨s1, R1⟩ := R.freeze h1 h2 h3 h5
      exact ⟨_, s1, R1, .lst (.inl (.inl upd_same)) (DaAll.mono s1 _ h4)⟩
    | i fs => cases h
    | d kvs => cases h
  | bor i =>
    have h : cmtB i env = .ok d env' := h
    unfold cmtB at h
    have hv : σ[i]? = some (some v) := hv
    split at h
    · next d' e =>
      cases h
      obtain ⟨u, h1, h2⟩ := R.slot i _ e
      rw [hv] at h1; cases h1
      exact ⟨B, .refl _, R, h2⟩
    · next xs e =>
      cases h
      obtain ⟨a, h1, h2, h3, vs, h4, h5⟩ := R.slot i _ e
      rw [hv] at h1; cases h1
      -- first forget the slot, then freeze
      have R0 : Rel Z B (env.set i .un) σ H := R.set trivial (fun c j a z => nomatch z)
      have hl : i < env.length := by
        obtain ⟨h, _⟩ := List.getElem?_eq_some_iff.mp e
        exact h
      obtain ⟨s1, R1⟩ := R0.freeze h2 h3 h4 (fun j c' e1 e2 => by
        by_cases hj : i = j
        · subst hj
          rw [List.getElem?_set_self hl] at e1
          cases e1
        · rw [List.getElem?_set_ne hj] at e1
          exact hj (R.sep j i a c' _ e1 e e2 hv).symm)
      have hd : Da Z.K (upd B a (.lst vs)) (.ref a) (.list xs) := .lst (.inl (.inl upd_same)) (DaAll.mono s1 _ h5)
      have R2 := R1.set (i := i) (s := .fz (.list xs)) ⟨.ref a, hv, hd⟩ (fun c j a z => nomatch z)
      rw [List.set_set] at R2
      exact ⟨_, s1, R2, hd⟩
    · cases h
end DL

/-! D1: readings of denotations; expressions in general. -/
namespace DL
open PySem PySem.Spec PyProof.Rows L2

def ret {α : Type} (a : α) : Dn α := fun e => .ok a e
def bnd {α β : Type} (m : Dn α) (f : α → Dn β) : Dn β := fun e => match m e with
  | .ok a e' => f a e'
  | .ex c e' => .ex c e'
  | .bad => .bad
def post {α ω : Type} (Z : Fx) (σ : St) (B : Hp) (Vl : Hp → List Sl → Hp → ω → α → Prop) (Q : ω → Hp → Prop) : Res α → Prop
  | .ok r env' => ∀ v H' B', Same B B' → Rel Z B' env' σ H' → Vl B' env' H' v r → Q v H'
  | .ex c env' => ∀ H' B', Same B B' → Rel Z B' env' σ H' → Z.E σ c H'
  | .bad => False
section
variable {α β ω ω1 : Type} {Z : Fx} {σ : St} {B B' H : Hp} {Vl : Hp → List Sl → Hp → ω → α → Prop} {Q Q' : ω → Hp → Prop}
theorem post.weak {r : Res α} (s : Same B B') (h : post Z σ B Vl Q r) : post Z σ B' Vl Q r := by
  cases r with
  | ok r e => exact fun v H' B2 s2 R q => h v H' B2 (s.trans s2) R q
  | ex c e => exact fun H' B2 s2 R => h H' B2 (s.trans s2) R
  | bad => exact h
theorem post.imp {r : Res α} (h : post Z σ B Vl Q r) (f : ∀ v H, Q v H → Q' v H) : post Z σ B Vl Q' r := by
  cases r with
  | ok r e => exact fun v H' B2 s2 R q => f _ _ (h v H' B2 s2 R q)
  | ex c e => exact h
  | bad => exact h
theorem post.bnd {m : Dn β} {f : β → Dn α} {env : List Sl} {Vl1 : Hp → List Sl → Hp → ω1 → β → Prop} (h : post Z σ B Vl Q (bnd m f env)) :
    post Z σ B Vl1 (fun v H1 => ∃ B1 env1 r, Same B B1 ∧ Rel Z B1 env1 σ H1 ∧ Vl1 B1 env1 H1 v r ∧ post Z σ B1 Vl Q (f r env1)) (m env) := by
  unfold DL.bnd at h
  cases e : m env with
  | ok r env1 =>
    rw [e] at h
    exact fun v H' B' s R q => ⟨B', env1, r, s, R, q, post.weak s h⟩
  | ex c env1 => rw [e] at h; exact h
  | bad => rw [e] at h; exact h
end

/-! ### readings -/
def tD (Z : Fx) (d : Dn Rv) : TE := fun σ H Q => ∃ B env, Rel Z B env σ H ∧ post Z σ B (fun B env H v r => Val Z B env σ H v r) Q (d env)
def tT (Z : Fx) (d : Dn Bool) : TT := fun σ H Q => ∃ B env, Rel Z B env σ H ∧ post Z σ B (fun _ _ _ (b b' : Bool) => b = b') Q (d env)
theorem PE_imp {X : Cx} {e : Expr} {t t' : TE} (h : PE X e t) (m : ∀ σ H Q, t' σ H Q → t σ H Q) : PE X e t' := ⟨fun pins s σ H Q I q => h.run pins s σ H Q I (m σ H Q q)⟩
theorem PT_imp {X : Cx} {e : Expr} {t t' : TT} (h : PT X e t) (m : ∀ σ H Q, t' σ H Q → t σ H Q) : PT X e t' := ⟨fun pins s σ H Q I q => h.run pins s σ H Q I (m σ H Q q)⟩
theorem PW_imp {X : Cx} {e : Expr} {t t' : TT} (h : PW X e t) (m : ∀ σ H Q, t' σ H Q → t σ H Q) : PW X e t' := ⟨fun wh pins s σ H Q I q => h.run wh pins s σ H Q I (m σ H Q q)⟩
theorem PA_imp {X : Cx} {e : List Expr} {t t' : TA} (h : PA X e t) (m : ∀ σ H Q, t' σ H Q → t σ H Q) : PA X e t' := ⟨fun pos pins s σ H Q I q => h.run pos pins s σ H Q I (m σ H Q q)⟩
theorem PS_imp {X : Cx} {e : Stmt} {t t' : TS} (h : PS X e t) (m : ∀ D σ H, t' D σ H → t D σ H) : PS X e t' := ⟨fun pins s σ H Q I q => h.run pins s σ H Q I (m Q σ H q)⟩
theorem PSs_imp {X : Cx} {e : List Stmt} {t t' : TS} (h : PSs X e t) (m : ∀ D σ H, t' D σ H → t D σ H) : PSs X e t' := ⟨fun pins s σ H Q I q => h.run pins s σ H Q I (m Q σ H q)⟩
theorem PI_imp {X : Cx} {tg e : Expr} {t t' : TI} (h : PI X tg e t) (m : ∀ σ H R, t' σ H R → t σ H R) : PI X tg e t' := ⟨fun pins s σ H Q I q => h.run pins s σ H Q I (m σ H Q q)⟩
theorem PG_imp {X : Cx} {e : Expr} {t t' : TG} (h : PG X e t) (m : ∀ v σ H Q, t' v σ H Q → t v σ H Q) : PG X e t' := ⟨fun pins s σ H v u Q I r q => h.run pins s σ H v u Q I r (m v σ H Q q)⟩

/-! ### a value that stays while others are reckoned -/
def hold : Rv → Dn Rv
  | .nw (.l xs), e => .ok (.fz (.list xs)) e
  | .nw _, _ => .bad
  | .fz d, e => .ok (.fz d) e
  | .bor i, e => .ok (.bor i) e
def StV (Z : Fx) (B : Hp) (σ : St) (v : V) : Rv → Prop
  | .fz d => Da Z.K B v d
  | .bor i => σ[i]? = some (some v)
  | .nw _ => False
theorem StV.mono {Z : Fx} {B B' : Hp} {σ : St} {v : V} {r : Rv} (s : Same B B') (h : StV Z B σ v r) : StV Z B' σ v r := by
  cases r with
  | fz d => exact Da.mono s _ h
  | bor i => exact h
  | nw c => exact h
inductive StAll (Z : Fx) (B : Hp) (σ : St) : List V → List Rv → Prop
  | nil : StAll Z B σ [] []
  | cons {v : V} {vs : List V} {r : Rv} {rs : List Rv} : StV Z B σ v r → StAll Z B σ vs rs → StAll Z B σ (v :: vs) (r :: rs)
theorem StAll.mono {Z : Fx} {B B' : Hp} {σ : St} (s : Same B B') : ∀ {vs : List V} {rs : List Rv}, StAll Z B σ vs rs → StAll Z B' σ vs rs
  | _, _, .nil => .nil
  | _, _, .cons h t => .cons (h.mono s) (StAll.mono s t)
theorem hold_ok {Z : Fx} {B H : Hp} {env env' : List Sl} {σ : St} {v : V} {r r' : Rv} (R : Rel Z B env σ H) (hv : Val Z B env σ H v r) (h : hold r env = .ok r' env') :
    env' = env ∧ ∃ B', Same B B' ∧ Rel Z B' env σ H ∧ StV Z B' σ v r' := by
  cases r with
  | fz d => cases h; exact ⟨rfl, B, .refl _, R, hv⟩
  | bor i => cases h; exact ⟨rfl, B, .refl _, R, hv⟩
  | nw c =>
    cases c with
    | l xs =>
      cases h
      obtain ⟨B', s, R', hd⟩ := cmt_ok (r := .nw (.l xs)) (d := .list xs) (env' := env) R hv rfl
      exact ⟨rfl, B', s, R', hd⟩
    | i fs => cases h
    | d kvs => cases h
/-- no exception comes of holding -/
theorem hold_cases (r : Rv) (env : List Sl) : (∃ r', hold r env = .ok r' env) ∨ hold r env = .bad := by
  cases r with
  | fz d => exact .inl ⟨_, rfl⟩
  | bor i => exact .inl ⟨_, rfl⟩
  | nw c =>
    cases c with
    | l xs => exact .inl ⟨_, rfl⟩
    | i fs => exact .inr rfl
    | d kvs => exact .inr rfl
/-- one operand, held -/
theorem held {α ω : Type} {Z : Fx} {σ : St} {H : Hp} {d : Dn Rv} {f : Rv → Dn α} {Vl : Hp → List Sl → Hp → ω → α → Prop} {Q : ω → Hp → Prop} {Q1 : VK}
    {B : Hp} {env : List Sl} (R : Rel Z B env σ H) (h : post Z σ B Vl Q (bnd d (fun r => bnd (hold r) f) env))
    (k : ∀ v H1 B1 env1 r, Same B B1 → Rel Z B1 env1 σ H1 → StV Z B1 σ v r → post Z σ B1 Vl Q (f r env1) → Q1 v H1) : tD Z d σ H Q1 := by
  refine ⟨B, env, R, post.imp (post.bnd h) fun v H1 ⟨B1, env1, r, s, R1, q1, p⟩ => ?_⟩
  unfold DL.bnd at p
  rcases hold_cases r env1 with ⟨r', e⟩ | e
  · rw [e] at p
    obtain ⟨_, B2, s2, R2, q2⟩ := hold_ok R1 q1 e
    exact k v H1 B2 env1 r' (s.trans s2) R2 q2 (post.weak s2 p)
  · rw [e] at p
    exact p.elim
def dArgs : List (Dn Rv) → Dn (List Rv)
  | [] => ret []
  | d :: ds => bnd d fun r => bnd (hold r) fun r' => bnd (dArgs ds) fun rs => ret (r' :: rs)
def tA (Z : Fx) (ds : List (Dn Rv)) : TA := fun σ H Q => ∃ B env, Rel Z B env σ H ∧ post Z σ B (fun B _ _ vs rs => StAll Z B σ vs rs) Q (dArgs ds env)
section
variable {X : Cx} {Z : Fx}
theorem d_nil : PA X [] (tA Z []) := PA_imp pa_nil fun σ H Q ⟨B, env, R, h⟩ => h [] H B (.refl _) R .nil
theorem d_cons {e : Expr} {es : List Expr} {d : Dn Rv} {ds : List (Dn Rv)} (ha : PE X e (tD Z d)) (hr : PA X es (tA Z ds)) (hs : starEach (e :: es) X.env = (false, eval e X.env) :: starEach es X.env := by rfl) : PA X (e :: es) (tA Z (d :: ds)) := by
  refine PA_imp (pa_cons ha hr hs) fun σ H Q ⟨B, env, R, h⟩ => ?_
  refine held R h fun v H1 B1 env1 r _ R1 q1 p => ?_
  refine ⟨B1, env1, R1, post.imp (post.bnd (Vl1 := fun B _ _ vs rs => StAll Z B σ vs rs) p) fun vs H2 ⟨B2, env2, rs, s, R2, q2, p2⟩ => ?_⟩
  exact p2 _ H2 B2 (.refl _) R2 (.cons (q1.mono s) q2)
end

/-! ### what an argument is -/
def Ar (K : PySem.W.Frag) (B H : Hp) (v : V) (d : PyData) : Prop := Da K B v d ∨ ∃ a vs ds, v = .ref a ∧ d = .list ds ∧ H a = some (.lst vs) ∧ DaAll K B vs ds
inductive ArAll (K : PySem.W.Frag) (B H : Hp) : List V → List PyData → Prop
  | nil : ArAll K B H [] []
  | cons {v : V} {vs : List V} {d : PyData} {ds : List PyData} : Ar K B H v d → ArAll K B H vs ds → ArAll K B H (v :: vs) (d :: ds)
theorem Ar.da {K : PySem.W.Frag} {B H : Hp} {v : V} {d : PyData} (s : Same B H) (h : Ar K B H v d) : Da K H v d := by
  rcases h with h | ⟨a, vs, ds, rfl, rfl, h1, h2⟩
  · exact Da.mono s _ h
  · exact .lst (.inl (.inl h1)) (DaAll.mono s _ h2)
def dat (e : List Sl) : Rv → Option PyData
  | .fz d => some d
  | .bor i => match e[i]? with
    | some (.fz d) => some d
    | some (.own (.l xs)) => some (.list xs)
    | _ => none
  | .nw _ => none
def dats (e : List Sl) : List Rv → Option (List PyData)
  | [] => some []
  | r :: rs => match dat e r with
    | none => none
    | some d => match dats e rs with
      | none => none
      | some ds => some (d :: ds)
theorem dat_ok {Z : Fx} {B H : Hp} {env : List Sl} {σ : St} {v : V} {r : Rv} {d : PyData} (R : Rel Z B env σ H) (hv : StV Z B σ v r) (h : dat env r = some d) : Ar Z.K B H v d := by
  cases r with
  | fz d' => cases h; exact .inl hv
  | nw c => exact hv.elim
  | bor i =>
    have hv : σ[i]? = some (some v) := hv
    have h : (match env[i]? with | some (.fz d) => some d | some (.own (.l xs)) => some (.list xs) | _ => none) = some d := h
    split at h
    · next d' e =>
      cases h
      obtain ⟨u, h1, h2⟩ := R.slot i _ e
      rw [hv] at h1; cases h1
      exact .inl h2
    · next xs e =>
      cases h
      obtain ⟨a, h1, h2, h3, vs, h4, h5⟩ := R.slot i _ e
      rw [hv] at h1; cases h1
      exact .inr ⟨a, vs, xs, rfl, rfl, h4, h5⟩
    · cases h
theorem dats_ok {Z : Fx} {B H : Hp} {env : List Sl} {σ : St} (R : Rel Z B env σ H) : ∀ {vs : List V} {rs : List Rv} {ds : List PyData}, StAll Z B σ vs rs → dats env rs = some ds → ArAll Z.K B H vs ds
  | _, _, _, .nil, h => by cases h; exact .nil
  | _, _, ds, .cons (r := r) (rs := rs) hv t, h => by
    unfold dats at h
    cases e : dat env r with
    | none => rw [e] at h; cases h
    | some d =>
      rw [e] at h
      cases e2 : dats env rs with
      | none => rw [e2] at h; cases h
      | some ds' =>
        rw [e2] at h
        cases h
        exact .cons (dat_ok R hv e) (dats_ok R t e2)

/-! ### what reads its arguments and gives new data -/
inductive Out where
  | fz (d : PyData)
  | nl (xs : List PyData)
def PostB (K : PySem.W.Frag) (B H : Hp) (Q : VK) : Out → Prop
  | .fz d => ∀ v H' B', Ext B H B' H' → Da K B' v d → Q v H'
  | .nl xs => ∀ a vs, H a = none → DaAll K B vs xs → Q (.ref a) (upd H a (.lst vs))
def rD (K : PySem.W.Frag) (g : List PyData → Option Out) : List V → Hp → VK → Prop := fun vs H Q => ∃ B ds out, Same B H ∧ ArAll K B H vs ds ∧ g ds = some out ∧ PostB K B H Q out
def dOut : Option Out → Dn Rv
  | some (.fz d), e => .ok (.fz d) e
  | some (.nl xs), e => .ok (.nw (.l xs)) e
  | none, _ => .bad
def dApp (g : List PyData → Option Out) (rs : List Rv) : Dn Rv := fun e => match dats e rs with
  | some ds => dOut (g ds) e
  | none => .bad
def dB (g : List PyData → Option Out) (das : List (Dn Rv)) : Dn Rv := bnd (dArgs das) fun rs => dApp g rs
theorem app_rD {Z : Fx} {B H : Hp} {env : List Sl} {σ : St} {vs : List V} {rs : List Rv} {g : List PyData → Option Out} {Q : VK} (R : Rel Z B env σ H) (hv : StAll Z B σ vs rs)
    (h : post Z σ B (fun B env H v r => Val Z B env σ H v r) Q (dApp g rs env)) : rD Z.K g vs H Q := by
  unfold dApp at h
  cases e : dats env rs with
  | none => rw [e] at h; exact h.elim
  | some ds =>
    rw [e] at h
    have A := dats_ok R hv e
    cases e2 : g ds with
    | none =>
      have h : post Z σ B (fun B env H v r => Val Z B env σ H v r) Q (dOut (g ds) env) := h
      rw [e2] at h
      exact h.elim
    | some out =>
      have h : post Z σ B (fun B env H v r => Val Z B env σ H v r) Q (dOut (g ds) env) := h
      rw [e2] at h
      refine ⟨B, ds, out, R.bh, A, e2, ?_⟩
      cases out with
      | fz d => exact fun v H' B' x hd => h v H' B' x.b (R.ext x) hd
      | nl xs =>
        intro a us ha hd
        have R1 : Rel Z B env σ (upd H a (.lst us)) := R.ext (Ext.heap _ R.bh ha)
        refine h (.ref a) _ B (.refl _) R1 ⟨a, rfl, R.bh.free ha, R.fh.free ha, ⟨us, upd_same, hd⟩, fun i c' e1 e3 => ?_⟩
        obtain ⟨b, h1, h2, h3, h4⟩ := R.slot i _ e1
        rw [h1] at e3; cases e3
        obtain ⟨o, ho⟩ := h4.there
        rw [ha] at ho; cases ho
theorem tA_rD {Z : Fx} {σ : St} {H : Hp} {das : List (Dn Rv)} {g : List PyData → Option Out} {Q : VK} (h : tD Z (dB g das) σ H Q) : tA Z das σ H fun vs H1 => rD Z.K g vs H1 Q := by
  obtain ⟨B, env, R, h⟩ := h
  exact ⟨B, env, R, post.imp (post.bnd (Vl1 := fun B _ _ vs rs => StAll Z B σ vs rs) h) fun vs H1 ⟨B1, env1, rs, s, R1, q, p⟩ => app_rD R1 q p⟩
theorem bnd_bnd {α β γ : Type} (m : Dn α) (f : α → Dn β) (g : β → Dn γ) : bnd (bnd m f) g = bnd m fun a => bnd (f a) g := by
  funext e
  unfold bnd
  cases m e <;> rfl
theorem ret_bnd {α β : Type} (a : α) (f : α → Dn β) : bnd (ret a) f = f a := rfl
theorem dB1 (g : List PyData → Option Out) (da : Dn Rv) : dB g [da] = bnd da fun r => bnd (hold r) fun r' => dApp g [r'] := by
  unfold dB dArgs dArgs
  simp only [bnd_bnd, ret_bnd]
theorem dB2 (g : List PyData → Option Out) (da db : Dn Rv) : dB g [da, db] = bnd da fun r => bnd (hold r) fun r' => bnd db fun q => bnd (hold q) fun q' => dApp g [r', q'] := by
  unfold dB dArgs dArgs dArgs
  simp only [bnd_bnd, ret_bnd]
theorem dB3 (g : List PyData → Option Out) (da db dc : Dn Rv) : dB g [da, db, dc] = bnd da fun r => bnd (hold r) fun r' => bnd db fun q => bnd (hold q) fun q' => bnd dc fun p => bnd (hold p) fun p' => dApp g [r', q', p'] := by
  unfold dB dArgs dArgs dArgs dArgs
  simp only [bnd_bnd, ret_bnd]
theorem tD1_rD {Z : Fx} {σ : St} {H : Hp} {da : Dn Rv} {g : List PyData → Option Out} {Q : VK} (h : tD Z (dB g [da]) σ H Q) : tD Z da σ H fun x H1 => rD Z.K g [x] H1 Q := by
  rw [dB1] at h
  obtain ⟨B, env, R, h⟩ := h
  exact held R h fun v H1 B1 env1 r _ R1 q1 p => app_rD R1 (.cons q1 .nil) p
theorem tD2_rD {Z : Fx} {σ : St} {H : Hp} {da db : Dn Rv} {g : List PyData → Option Out} {Q : VK} (h : tD Z (dB g [da, db]) σ H Q) : tD Z da σ H fun x H1 => tD Z db σ H1 fun y H2 => rD Z.K g [x, y] H2 Q := by
  rw [dB2] at h
  obtain ⟨B, env, R, h⟩ := h
  refine held R h fun v H1 B1 env1 r _ R1 q1 p => ?_
  refine held R1 p fun v2 H2 B2 env2 r2 s2 R2 q2 p2 => ?_
  exact app_rD R2 (.cons (q1.mono s2) (.cons q2 .nil)) p2
theorem tD3_rD {Z : Fx} {σ : St} {H : Hp} {da db dc : Dn Rv} {g : List PyData → Option Out} {Q : VK} (h : tD Z (dB g [da, db, dc]) σ H Q) :
    tD Z da σ H fun x H1 => tD Z db σ H1 fun y H2 => tD Z dc σ H2 fun z H3 => rD Z.K g [x, y, z] H3 Q := by
  rw [dB3] at h
  obtain ⟨B, env, R, h⟩ := h
  refine held R h fun v H1 B1 env1 r _ R1 q1 p => ?_
  refine held R1 p fun v2 H2 B2 env2 r2 s2 R2 q2 p2 => ?_
  refine held R2 p2 fun v3 H3 B3 env3 r3 s3 R3 q3 p3 => ?_
  exact app_rD R3 (.cons ((q1.mono s2).mono s3) (.cons (q2.mono s3) (.cons q3 .nil))) p3

/-! ### names and constants -/
def dVar (i : Nat) : Dn Rv := fun e => match e[i]? with
  | some (.fz d) => .ok (.fz d) e
  | some (.own _) => .ok (.bor i) e
  | _ => .bad
def dC (d : PyData) : Dn Rv := ret (.fz d)
section
variable {X : Cx} {Z : Fx}
theorem d_var (i : Nat) {x : Str} {pos : Pos} (hN : X.N[i]? = some x := by rfl) (hv : Vis X.env.scope x := by first | exact Or.inl rfl | exact Or.inr (Or.inl rfl) | exact Or.inr (Or.inr rfl)) (hd : (x == ("__debug__" : Str)) = false := by decide)
    (hcd : (x == ("__classdict__" : Str)) = false := by decide) : PE X (.Name x pos) (tD Z (dVar i)) := by
  refine PE_imp (pe_var hN hv hd hcd) fun σ H Q ⟨B, env, R, h⟩ => ?_
  unfold dVar at h
  split at h
  · next d e =>
    obtain ⟨v, h1, h2⟩ := R.slot i _ e
    exact ⟨v, h1, h v H B (.refl _) R h2⟩
  · next c e =>
    obtain ⟨a, h1, h2⟩ := R.slot i _ e
    exact ⟨_, h1, h _ H B (.refl _) R h1⟩
  · exact h.elim
theorem d_const {e : Expr} {v : V} {d : PyData} (h : PE X e (tC v)) (hd : ∀ K B, Da K B v d) : PE X e (tD Z (dC d)) :=
  PE_imp h fun σ H Q ⟨B, env, R, h⟩ => h v H B (.refl _) R (hd _ _)
theorem d_int {i : Int} {j pos} : PE X (.Constant (.int i) j pos) (tD Z (dC (.int i))) := d_const pe_int fun _ _ => .int i
theorem d_bl {b : Bool} {j pos} : PE X (.Constant (.bool b) j pos) (tD Z (dC (.bool b))) := d_const pe_bl fun _ _ => .bl b
theorem d_non {j pos} : PE X (.Constant .none j pos) (tD Z (dC .none)) := d_const pe_non fun _ _ => .non
theorem d_str {x : Str} {j pos} : PE X (.Constant (.str x) j pos) (tD Z (dC (.str x))) := d_const pe_str fun _ _ => .str x
/-- a module's constant -/
theorem d_glob {x : Str} {d : PyData} {pos : Pos} (hm : ∃ v u, X.mg x = some u ∧ RelV v u ∧ ∀ B, Da Z.K B v d) (hg : Gl X x := by rfl) (hd : (x == ("__debug__" : Str)) = false := by decide) : PE X (.Name x pos) (tD Z (dC d)) := by
  obtain ⟨v, u, h1, h2, h3⟩ := hm
  exact PE_imp (pe_glob hg h1 h2 hd) fun σ H Q ⟨B, env, R, h⟩ => h v H B (.refl _) R (h3 _)

/-! ### operators, comparisons, subscripts, calls of built-ins -/
def rD2 (K : PySem.W.Frag) (g : List PyData → Option Out) : R2 := fun x y H Q => rD K g [x, y] H Q
def rD1 (K : PySem.W.Frag) (g : List PyData → Option Out) : V → Hp → VK → Prop := fun x H Q => rD K g [x] H Q
theorem d_op {a b : Expr} {da db : Dn Rv} {op : Operator} {g : List PyData → Option Out} {pos : Pos} (ho : OpR X (binaryOp op) (rD2 Z.K g)) (ha : PE X a (tD Z da)) (hb : PE X b (tD Z db)) : PE X (.BinOp a op b pos) (tD Z (dB g [da, db])) :=
  PE_imp (pe_op ho ha hb) fun σ H Q h => tD2_rD h
theorem d_un {a : Expr} {da : Dn Rv} {op : UnaryOp} {g : List PyData → Option Out} {pos : Pos} (ho : UnR X (unaryOp op) (rD1 Z.K g)) (ha : PE X a (tD Z da)) : PE X (.UnaryOp op a pos) (tD Z (dB g [da])) :=
  PE_imp (pe_un ho ha) fun σ H Q h => tD1_rD h
theorem d_cmp {a b : Expr} {da db : Dn Rv} {op : CmpOp} {g : List PyData → Option Out} {pos : Pos} (ho : OpR X (compareOp op) (rD2 Z.K g)) (ha : PE X a (tD Z da)) (hb : PE X b (tD Z db)) (hm : behindInMarks op b = false) : PE X (.Compare a [op] [b] pos) (tD Z (dB g [da, db])) :=
  PE_imp (pe_cmpR ho ha hb hm) fun σ H Q h => tD2_rD h
theorem d_ix {a b : Expr} {da db : Dn Rv} {g : List PyData → Option Out} {pos : Pos} (hr : IxR X (rD2 Z.K g)) (ha : PE X a (tD Z da)) (hb : PE X b (tD Z db)) (hs : PlainIx b) : PE X (.Subscript a b pos) (tD Z (dB g [da, db])) :=
  PE_imp (pe_ix hr ha hb hs) fun σ H Q h => tD2_rD h
theorem d_callB {x : Str} {p pos : Pos} {e : Expr} {es : List Expr} {das : List (Dn Rv)} {id : String} {g : List PyData → Option Out} (hc : CallR X (.builtin id) (rD Z.K g)) (hm : X.mg x = none) (hv : bootBuiltins x = some (.builtin id)) (ha : PA X (e :: es) (tA Z das))
    (hg : Gl X x := by rfl) (hn : x ≠ "__name__" := by decide) (hdb : (x == ("__debug__" : Str)) = false := by decide) (he : starEach (e :: es) X.env = (false, eval e X.env) :: starEach es X.env := by rfl) (hpl : (backTo pos (starEach es X.env)).any (·.1) = false := by rfl) :
    PE X (.Call (.Name x p) (e :: es) [] pos) (tD Z (dB g das)) :=
  PE_imp (pe_callB hc hg hm hv ha hn hdb he hpl) fun σ H Q h => tA_rD h
theorem d_callTy {x : Str} {p pos : Pos} {e : Expr} {es : List Expr} {das : List (Dn Rv)} {T : String} {g : List PyData → Option Out} (hc : CallR X (.type T) (rD Z.K g)) (hm : X.mg x = none) (hv : bootBuiltins x = some (.type T)) (ha : PA X (e :: es) (tA Z das))
    (hg : Gl X x := by rfl) (hn : x ≠ "__name__" := by decide) (hdb : (x == ("__debug__" : Str)) = false := by decide) (he : starEach (e :: es) X.env = (false, eval e X.env) :: starEach es X.env := by rfl) (hpl : (backTo pos (starEach es X.env)).any (·.1) = false := by rfl) :
    PE X (.Call (.Name x p) (e :: es) [] pos) (tD Z (dB g das)) :=
  PE_imp (pe_callTy hc hg hm hv ha hn hdb he hpl) fun σ H Q h => tA_rD h
end
end DL

/-! D2: tests, and | or | not, displays, slices, statements. -/
namespace DL
open PySem PySem.Spec PyProof.Rows L2

/-! ### tests -/
def dTruth (d : Dn Rv) : Dn Bool := bnd d fun r e => match r with
  | .fz (.bool b) => .ok b e
  | _ => .bad
theorem tB_of {Z : Fx} {σ : St} {H : Hp} {d : Dn Rv} {Q : Bool → Hp → Prop} (h : tT Z (dTruth d) σ H Q) : tD Z d σ H fun x H' => ∃ k, x = .bl k ∧ Q k H' := by
  obtain ⟨B, env, R, h⟩ := h
  refine ⟨B, env, R, post.imp (post.bnd h) fun v H1 ⟨B1, env1, r, s, R1, q1, p⟩ => ?_⟩
  cases r with
  | fz d =>
    cases d with
    | bool b =>
      have q1 : Da Z.K B1 v (.bool b) := q1
      cases q1
      exact ⟨b, rfl, p b H1 B1 (.refl _) R1 rfl⟩
    | _ => exact p.elim
  | bor i => exact p.elim
  | nw c => exact p.elim
theorem truth_post {α ω : Type} {Z : Fx} {σ : St} {d : Dn Rv} {f : Bool → Dn α} {Vl : Hp → List Sl → Hp → ω → α → Prop} {Q : ω → Hp → Prop} {B : Hp} {env : List Sl} (h : post Z σ B Vl Q (bnd (dTruth d) f env)) :
    post Z σ B (fun B env H v r => Val Z B env σ H v r) (fun x H' => ∃ k, x = V.bl k ∧ ∃ B1 env1, Same B B1 ∧ Rel Z B1 env1 σ H' ∧ post Z σ B1 Vl Q (f k env1)) (d env) := by
  unfold dTruth at h
  rw [bnd_bnd] at h
  refine post.imp (post.bnd h) fun v H1 ⟨B1, env1, r, s, R1, q1, p⟩ => ?_
  cases r with
  | fz d =>
    cases d with
    | bool b =>
      have q1 : Da Z.K B1 v (.bool b) := q1
      cases q1
      exact ⟨b, rfl, B1, env1, s, R1, p⟩
    | _ => exact p.elim
  | bor i => exact p.elim
  | nw c => exact p.elim
section
variable {X : Cx} {Z : Fx} {a b c : Expr} {pos : Pos} {da db : Dn Rv} {ta tb : Dn Bool}
theorem d_test (h : PE X a (tD Z da)) (he : ∀ whole, isTrue a X.env whole = (do let v ← whole; standAt a.pos; holding [v] (truthy v)) := by intro _; rfl) : PT X a (tT Z (dTruth da)) :=
  PT_imp (pt_val h he) fun σ H Q h => tB_of h
theorem d_testCmp {op : CmpOp} {g : List PyData → Option Out} (ho : OpR X (compareOp op) (rD2 Z.K g)) (ha : PE X a (tD Z da)) (hb : PE X b (tD Z db)) (hm : behindInMarks op b = false) : PT X (.Compare a [op] [b] pos) (tT Z (dTruth (dB g [da, db]))) :=
  PT_imp (pt_cmpR ho ha hb hm) fun σ H Q h => tD2_rD (tB_of h)
def dNotT (t : Dn Bool) : Dn Bool := bnd t fun b => ret (!b)
def dAndT (t u : Dn Bool) : Dn Bool := bnd t fun b => if b = true then u else ret false
def dOrT (t u : Dn Bool) : Dn Bool := bnd t fun b => if b = true then ret true else u
theorem tT_bnd {α ω : Type} {Z : Fx} {σ : St} {H : Hp} {d : Dn Bool} {f : Bool → Dn α} {Vl : Hp → List Sl → Hp → ω → α → Prop} {Q : ω → Hp → Prop} {B : Hp} {env : List Sl} (R : Rel Z B env σ H) (h : post Z σ B Vl Q (bnd d f env)) :
    tT Z d σ H fun b H1 => ∃ B1 env1, Same B B1 ∧ Rel Z B1 env1 σ H1 ∧ post Z σ B1 Vl Q (f b env1) := by
  refine ⟨B, env, R, post.imp (post.bnd h) fun v H1 ⟨B1, env1, r, s, R1, q1, p⟩ => ?_⟩
  have q1 : v = r := q1
  subst q1
  exact ⟨B1, env1, s, R1, p⟩
theorem d_notT (h : PT X a (tT Z ta)) : PT X (.UnaryOp .Not a pos) (tT Z (dNotT ta)) := by
  refine PT_imp (pt_not h) fun σ H Q ⟨B, env, R, h⟩ => ?_
  obtain ⟨B, env, R, h⟩ := tT_bnd R h
  exact ⟨B, env, R, post.imp h fun b H1 ⟨B1, env1, s, R1, p⟩ => p _ H1 B1 (.refl _) R1 rfl⟩
theorem d_and1T (h : PT X a (tT Z ta)) : PW X (.BoolOp .And [a] pos) (tT Z ta) := pw_and1 h
theorem d_or1T (h : PT X a (tT Z ta)) : PW X (.BoolOp .Or [a] pos) (tT Z ta) := pw_or1 h
theorem d_andT {rest : List Expr} (ha : PT X a (tT Z ta)) (hb : PW X (.BoolOp .And (b :: rest) pos) (tT Z tb)) : PW X (.BoolOp .And (a :: b :: rest) pos) (tT Z (dAndT ta tb)) := by
  refine PW_imp (pw_and ha hb) fun σ H Q ⟨B, env, R, h⟩ => ?_
  obtain ⟨B, env, R, h⟩ := tT_bnd R h
  refine ⟨B, env, R, post.imp h fun b H1 ⟨B1, env1, s, R1, p⟩ => ?_⟩
  cases b with
  | true => exact ⟨B1, env1, R1, p⟩
  | false => exact p _ H1 B1 (.refl _) R1 rfl
theorem d_orT {rest : List Expr} (ha : PT X a (tT Z ta)) (hb : PW X (.BoolOp .Or (b :: rest) pos) (tT Z tb)) : PW X (.BoolOp .Or (a :: b :: rest) pos) (tT Z (dOrT ta tb)) := by
  refine PW_imp (pw_or ha hb) fun σ H Q ⟨B, env, R, h⟩ => ?_
  obtain ⟨B, env, R, h⟩ := tT_bnd R h
  refine ⟨B, env, R, post.imp h fun b H1 ⟨B1, env1, s, R1, p⟩ => ?_⟩
  cases b with
  | false => exact ⟨B1, env1, R1, p⟩
  | true => exact p _ H1 B1 (.refl _) R1 rfl
/-- as values -/
def dAnd (da db : Dn Rv) : Dn Rv := bnd (dTruth da) fun b => if b = true then db else dC (.bool false)
def dOr (da db : Dn Rv) : Dn Rv := bnd (dTruth da) fun b => if b = true then dC (.bool true) else db
def dNot (da : Dn Rv) : Dn Rv := bnd (dTruth da) fun b => dC (.bool (!b))
theorem d_one {op} (h : PE X a (tD Z da)) : PE X (.BoolOp op [a] pos) (tD Z da) := pe_one h
theorem d_and {rest : List Expr} (ha : PE X a (tD Z da)) (hb : PE X (.BoolOp .And (b :: rest) pos) (tD Z db)) : PE X (.BoolOp .And (a :: b :: rest) pos) (tD Z (dAnd da db)) := by
  refine PE_imp (pe_and ha hb) fun σ H Q ⟨B, env, R, h⟩ => ?_
  obtain ⟨B, env, R, h⟩ := tB_of (tT_bnd R h)
  refine ⟨B, env, R, post.imp h fun x H1 ⟨b, hb, B1, env1, s, R1, p⟩ => ⟨b, hb, ?_⟩⟩
  cases b with
  | true => exact ⟨B1, env1, R1, p⟩
  | false => exact p _ H1 B1 (.refl _) R1 (Da.bl false)
theorem d_or {rest : List Expr} (ha : PE X a (tD Z da)) (hb : PE X (.BoolOp .Or (b :: rest) pos) (tD Z db)) : PE X (.BoolOp .Or (a :: b :: rest) pos) (tD Z (dOr da db)) := by
  refine PE_imp (pe_or ha hb) fun σ H Q ⟨B, env, R, h⟩ => ?_
  obtain ⟨B, env, R, h⟩ := tB_of (tT_bnd R h)
  refine ⟨B, env, R, post.imp h fun x H1 ⟨b, hb, B1, env1, s, R1, p⟩ => ⟨b, hb, ?_⟩⟩
  cases b with
  | false => exact ⟨B1, env1, R1, p⟩
  | true => exact p _ H1 B1 (.refl _) R1 (Da.bl true)
theorem d_not (ha : PE X a (tD Z da)) : PE X (.UnaryOp .Not a pos) (tD Z (dNot da)) := by
  refine PE_imp (pe_not ha) fun σ H Q ⟨B, env, R, h⟩ => ?_
  obtain ⟨B, env, R, h⟩ := tB_of (tT_bnd R h)
  refine ⟨B, env, R, post.imp h fun x H1 ⟨b, hb, B1, env1, s, R1, p⟩ => ⟨b, hb, ?_⟩⟩
  exact p _ H1 B1 (.refl _) R1 (Da.bl (!b))
def dIfE (t : Dn Bool) (da db : Dn Rv) : Dn Rv := bnd t fun b => if b = true then da else db
theorem d_ifE (hc : PT X c (tT Z ta)) (ha : PE X a (tD Z da)) (hb : PE X b (tD Z db)) : PE X (.IfExp c a b pos) (tD Z (dIfE ta da db)) := by
  refine PE_imp (pe_ifExp hc ha hb) fun σ H Q ⟨B, env, R, h⟩ => ?_
  obtain ⟨B, env, R, h⟩ := tT_bnd R h
  refine ⟨B, env, R, post.imp h fun b H1 ⟨B1, env1, s, R1, p⟩ => ?_⟩
  cases b with
  | true => exact ⟨B1, env1, R1, p⟩
  | false => exact ⟨B1, env1, R1, p⟩
/-- x <= y <= z -/
def dChain (g g' : List PyData → Option Out) (da db dc : Dn Rv) : Dn Rv := bnd da fun r => bnd (hold r) fun r' => bnd db fun q => bnd (hold q) fun q' => bnd (dTruth (dApp g [r', q'])) fun b => if b = true then bnd dc fun p => bnd (hold p) fun p' => dApp g' [q', p'] else dC (.bool false)
theorem chain_of {Z : Fx} {σ : St} {H : Hp} {Q : VK} {g g' : List PyData → Option Out} {da db dc : Dn Rv} (h : tD Z (dChain g g' da db dc) σ H Q) : tChain (rD2 Z.K g) (rD2 Z.K g') (tD Z da) (tD Z db) (tD Z dc) σ H Q := by
  obtain ⟨B, env, R, h⟩ := h
  refine held R h fun x H1 B1 env1 r _ R1 q1 p => ?_
  refine held R1 p fun y H2 B2 env2 r2 s2 R2 q2 p2 => ?_
  exact app_rD R2 (.cons (q1.mono s2) (.cons q2 .nil)) (post.imp (truth_post p2) fun z H3 ⟨k, hk, B4, env4, s4, R4, p4⟩ => ⟨k, hk, by
    cases k with
    | true =>
      refine held R4 p4 fun v3 H5 B5 env5 r5 s5 R5 q5 p5 => ?_
      exact app_rD R5 (.cons ((q2.mono s4).mono s5) (.cons q5 .nil)) p5
    | false => exact p4 _ H3 B4 (.refl _) R4 (Da.bl false)⟩)
theorem d_chain {op op' : CmpOp} {g g' : List PyData → Option Out} {dc : Dn Rv} (ho : OpR X (compareOp op) (rD2 Z.K g)) (ho' : OpR X (compareOp op') (rD2 Z.K g')) (ha : PE X a (tD Z da)) (hb : PE X b (tD Z db)) (hc : PE X c (tD Z dc))
    (hm : lastMarks [op, op'] [b, c] = false := by with_unfolding_all rfl) : PE X (.Compare a [op, op'] [b, c] pos) (tD Z (dChain g g' da db dc)) := PE_imp (pe_chain ho ho' ha hb hc hm) fun σ H Q h => chain_of h
theorem d_chainT {op op' : CmpOp} {g g' : List PyData → Option Out} {dc : Dn Rv} (ho : OpR X (compareOp op) (rD2 Z.K g)) (ho' : OpR X (compareOp op') (rD2 Z.K g')) (ha : PE X a (tD Z da)) (hb : PE X b (tD Z db)) (hc : PE X c (tD Z dc))
    (hm : lastMarks [op, op'] [b, c] = false := by with_unfolding_all rfl) : PT X (.Compare a [op, op'] [b, c] pos) (tT Z (dTruth (dChain g g' da db dc))) := PT_imp (pt_chain ho ho' ha hb hc hm) fun σ H Q h => chain_of (tB_of h)
end

/-! ### displays -/
def dArgsC : List (Dn Rv) → Dn (List PyData)
  | [] => ret []
  | d :: ds => bnd d fun r => bnd (cmt r) fun x => bnd (dArgsC ds) fun xs => ret (x :: xs)
def tAC (Z : Fx) (ds : List (Dn Rv)) : TA := fun σ H Q => ∃ B env, Rel Z B env σ H ∧ post Z σ B (fun B _ _ vs xs => DaAll Z.K B vs xs) Q (dArgsC ds env)
theorem cmt_cases (r : Rv) (env : List Sl) : (∃ d env', cmt r env = .ok d env') ∨ cmt r env = .bad := by
  cases r with
  | fz d => exact .inl ⟨_, _, rfl⟩
  | bor i =>
    show (∃ d env', cmtB i env = .ok d env') ∨ cmtB i env = .bad
    unfold cmtB
    split
    · exact .inl ⟨_, _, rfl⟩
    · exact .inl ⟨_, _, rfl⟩
    · exact .inr rfl
  | nw c =>
    cases c with
    | l xs => exact .inl ⟨_, _, rfl⟩
    | i fs => exact .inr rfl
    | d kvs => exact .inr rfl
/-- one operand, committed -/
theorem commits {α ω : Type} {Z : Fx} {σ : St} {d : Dn Rv} {f : PyData → Dn α} {Vl : Hp → List Sl → Hp → ω → α → Prop} {Q : ω → Hp → Prop} {B : Hp} {env : List Sl}
    (h : post Z σ B Vl Q (bnd d (fun r => bnd (cmt r) f) env)) :
    post Z σ B (fun B env H v r => Val Z B env σ H v r) (fun v H1 => ∃ B1 env1 x, Same B B1 ∧ Rel Z B1 env1 σ H1 ∧ Da Z.K B1 v x ∧ post Z σ B1 Vl Q (f x env1)) (d env) := by
  refine post.imp (post.bnd h) fun v H1 ⟨B1, env1, r, s, R1, q1, p⟩ => ?_
  unfold DL.bnd at p
  rcases cmt_cases r env1 with ⟨x, env2, e⟩ | e
  · rw [e] at p
    obtain ⟨B2, s2, R2, q2⟩ := cmt_ok R1 q1 e
    exact ⟨B2, env2, x, s.trans s2, R2, q2, post.weak s2 p⟩
  · rw [e] at p
    exact p.elim
def dTup (ds : List (Dn Rv)) : Dn Rv := bnd (dArgsC ds) fun xs => ret (.fz (.tuple xs))
def dLst (ds : List (Dn Rv)) : Dn Rv := bnd (dArgsC ds) fun xs => ret (.nw (.l xs))
section
variable {X : Cx} {Z : Fx} {pos : Pos}
theorem c_nil : PA X [] (tAC Z []) := PA_imp pa_nil fun σ H Q ⟨B, env, R, h⟩ => h [] H B (.refl _) R .nil
theorem c_cons {e : Expr} {es : List Expr} {d : Dn Rv} {ds : List (Dn Rv)} (ha : PE X e (tD Z d)) (hr : PA X es (tAC Z ds)) (hs : starEach (e :: es) X.env = (false, eval e X.env) :: starEach es X.env := by rfl) : PA X (e :: es) (tAC Z (d :: ds)) := by
  refine PA_imp (pa_cons ha hr hs) fun σ H Q ⟨B, env, R, h⟩ => ?_
  refine ⟨B, env, R, post.imp (commits h) fun v H1 ⟨B1, env1, x, s, R1, q1, p⟩ => ?_⟩
  refine ⟨B1, env1, R1, post.imp (post.bnd (Vl1 := fun B _ _ vs xs => DaAll Z.K B vs xs) p) fun vs H2 ⟨B2, env2, xs, s2, R2, q2, p2⟩ => ?_⟩
  exact p2 _ H2 B2 (.refl _) R2 (.cons (Da.mono s2 _ q1) q2)
theorem PA_len {es : List Expr} {ds : List (Dn Rv)} : ∀ {σ : St} {H : Hp} {Q : List V → Hp → Prop}, tAC Z ds σ H Q → tAC Z ds σ H fun vs H1 => vs.length = ds.length ∧ Q vs H1 := by
  intro σ H Q ⟨B, env, R, h⟩
  refine ⟨B, env, R, ?_⟩
  have hl : ∀ (ds : List (Dn Rv)) (env : List Sl) xs env', dArgsC ds env = .ok xs env' → xs.length = ds.length := by
    intro ds
    induction ds with
    | nil => intro env xs env' e; cases e; rfl
    | cons d ds ih =>
      intro env xs env' e
      unfold dArgsC DL.bnd at e
      cases e1 : d env with
      | ok r env1 =>
        rw [e1] at e
        dsimp only at e
        cases e2 : cmt r env1 with
        | ok x env2 =>
          rw [e2] at e
          dsimp only at e
          cases e3 : dArgsC ds env2 with
          | ok ys env3 =>
            rw [e3] at e
            cases e
            rw [List.length_cons, List.length_cons, ih _ _ _ e3]
          | ex c env3 => rw [e3] at e; cases e
          | bad => rw [e3] at e; cases e
        | ex c env3 => rw [e2] at e; cases e
        | bad => rw [e2] at e; cases e
      | ex c env3 => rw [e1] at e; cases e
      | bad => rw [e1] at e; cases e
  cases e : dArgsC ds env with
  | ok xs env' =>
    rw [e] at h
    exact fun vs H1 B1 s R1 q => ⟨by rw [DaAll.length q]; exact hl ds env xs env' e, h vs H1 B1 s R1 q⟩
  | ex c env' => rw [e] at h; exact h
  | bad => rw [e] at h; exact h
theorem small_line {n : Nat} (h : n ≤ 1000) : n ≤ sizeLine := Nat.le_trans h (by decide)
theorem d_tup {es : List Expr} {k : Nat} {ds : List (Dn Rv)} (h : PA X es (tAC Z ds)) (hz : ds.length ≤ 1000 := by decide) : PE X (.Tuple es k pos) (tD Z (dTup ds)) := by
  refine PE_imp (pe_tupN h) fun σ H Q ⟨B, env, R, h⟩ => ?_
  have h1 : tAC Z ds σ H fun vs H1 => ∃ B1 env1 r, Same B B1 ∧ Rel Z B1 env1 σ H1 ∧ DaAll Z.K B1 vs r ∧ post Z σ B1 (fun B env H v r => Val Z B env σ H v r) Q (ret (Rv.fz (.tuple r)) env1) := ⟨B, env, R, post.bnd (Vl1 := fun B _ _ vs xs => DaAll Z.K B vs xs) h⟩
  obtain ⟨B, env, R, h⟩ := PA_len (es := es) h1
  refine ⟨B, env, R, post.imp h fun vs H1 ⟨hl, B1, env1, xs, s, R1, q1, p⟩ => ⟨by rw [hl]; exact small_line hz, fun a o ho ha => ?_⟩⟩
  have x := Ext.one (.frz o (.tup vs)) R1.bh ha
  exact p (.ref a) _ _ x.b (R1.ext x) (Da.tup (.inl ⟨o, upd_same, ho⟩) (DaAll.mono x.b _ q1))
/-- a new cell of the heap's is no slot's -/
theorem Rel.fresh {B H : Hp} {env : List Sl} {σ : St} {a : Addr} (R : Rel Z B env σ H) (ha : H a = none) : B a = none ∧ Z.F a = none ∧ ∀ (i : Nat) (c' : Cell), env[i]? = some (.own c') → σ[i]? ≠ some (some (.ref a)) := by
  refine ⟨R.bh.free ha, R.fh.free ha, fun i c' e1 e3 => ?_⟩
  obtain ⟨b, h1, h2, h3, h4⟩ := R.slot i _ e1
  rw [h1] at e3; cases e3
  obtain ⟨o, ho⟩ := h4.there
  rw [ha] at ho; cases ho
theorem d_lst {es : List Expr} {ds : List (Dn Rv)} (h : PA X es (tAC Z ds)) (hz : ds.length ≤ 1000 := by decide) : PE X (.List es pos) (tD Z (dLst ds)) := by
  refine PE_imp (pe_lst h) fun σ H Q ⟨B, env, R, h⟩ => ?_
  have h1 : tAC Z ds σ H fun vs H1 => ∃ B1 env1 r, Same B B1 ∧ Rel Z B1 env1 σ H1 ∧ DaAll Z.K B1 vs r ∧ post Z σ B1 (fun B env H v r => Val Z B env σ H v r) Q (ret (Rv.nw (.l r)) env1) := ⟨B, env, R, post.bnd (Vl1 := fun B _ _ vs xs => DaAll Z.K B vs xs) h⟩
  obtain ⟨B, env, R, h⟩ := PA_len (es := es) h1
  refine ⟨B, env, R, post.imp h fun vs H1 ⟨hl, B1, env1, xs, s, R1, q1, p⟩ => ⟨by rw [hl]; exact small_line hz, fun a ha => ?_⟩⟩
  obtain ⟨f1, f2, f3⟩ := R1.fresh ha
  exact p (.ref a) _ B1 (.refl _) (R1.ext (Ext.heap _ R1.bh ha)) ⟨a, rfl, f1, f2, ⟨vs, upd_same, q1⟩, f3⟩
/-! ### slices with one end -/
def rSlD (K : PySem.W.Frag) (g : List PyData → Option Int → Option Int → Option Out) : V → Option Int → Option Int → Hp → VK → Prop := fun x lo hi H Q => ∃ B ds out, Same B H ∧ ArAll K B H [x] ds ∧ g ds lo hi = some out ∧ PostB K B H Q out
/-- with the slice's end as a second argument -/
def gLo (g : List PyData → Option Int → Option Int → Option Out) : List PyData → Option Out
  | [d, .int i] => g [d] (some i) none
  | _ => none
def gHi (g : List PyData → Option Int → Option Int → Option Out) : List PyData → Option Out
  | [d, .int i] => g [d] none (some i)
  | _ => none
theorem ArAll.two {K : PySem.W.Frag} {B H : Hp} {x y : V} {ds : List PyData} (h : ArAll K B H [x, y] ds) : ∃ d e, ds = [d, e] ∧ Ar K B H x d ∧ Ar K B H y e := by
  cases h with
  | cons h1 t => cases t with
    | cons h2 t => cases t; exact ⟨_, _, rfl, h1, h2⟩
theorem ArAll.one {K : PySem.W.Frag} {B H : Hp} {x : V} {ds : List PyData} (h : ArAll K B H [x] ds) : ∃ d, ds = [d] ∧ Ar K B H x d := by
  cases h with
  | cons h1 t => cases t; exact ⟨_, rfl, h1⟩
theorem Ar.int {K : PySem.W.Frag} {B H : Hp} {x : V} {i : Int} (h : Ar K B H x (.int i)) : x = .int i := by
  rcases h with h | ⟨a, vs, ds, _, e, _⟩
  · cases h; rfl
  · cases e
theorem Ar.bl {K : PySem.W.Frag} {B H : Hp} {x : V} {i : Bool} (h : Ar K B H x (.bool i)) : x = .bl i := by
  rcases h with h | ⟨a, vs, ds, _, e, _⟩
  · cases h; rfl
  · cases e
theorem Ar.str {K : PySem.W.Frag} {B H : Hp} {x : V} {i : Str} (h : Ar K B H x (.str i)) : x = .str i := by
  rcases h with h | ⟨a, vs, ds, _, e, _⟩
  · cases h; rfl
  · cases e
theorem Ar.non {K : PySem.W.Frag} {B H : Hp} {x : V} (h : Ar K B H x .none) : x = .non := by
  rcases h with h | ⟨a, vs, ds, _, e, _⟩
  · cases h; rfl
  · cases e
theorem Ar.tup {K : PySem.W.Frag} {B H : Hp} {x : V} {ds : List PyData} (h : Ar K B H x (.tuple ds)) : ∃ a vs, x = .ref a ∧ SqN K B a vs ∧ DaAll K B vs ds := by
  rcases h with h | ⟨a, vs, ds, _, e, _⟩
  · cases h with | tup h1 h2 => exact ⟨_, _, rfl, h1, h2⟩
  · cases e
theorem Ar.lst {K : PySem.W.Frag} {B H : Hp} {x : V} {ds : List PyData} (s : Same B H) (h : Ar K B H x (.list ds)) : ∃ a vs, x = .ref a ∧ SqL K H a vs ∧ DaAll K B vs ds := by
  rcases h with h | ⟨a, vs, ds, rfl, e, h1, h2⟩
  · cases h with | lst h1 h2 => exact ⟨_, _, rfl, s.seq h1, h2⟩
  · cases e; exact ⟨_, _, rfl, .inl (.inl h1), h2⟩
theorem d_sliceLo {e lo : Expr} {de dl : Dn Rv} {p2 : Pos} {g : List PyData → Option Int → Option Int → Option Out} (hr : SlR X (rSlD Z.K g)) (he : PE X e (tD Z de)) (hl : PE X lo (tD Z dl)) : PE X (.Subscript e (.Slice (some lo) none none p2) pos) (tD Z (dB (gLo g) [de, dl])) := by
  refine PE_imp (pe_slice hr he (po_some hl) po_none) fun σ H Q h => ?_
  obtain ⟨B, env, R, h⟩ := tD2_rD h
  refine ⟨B, env, R, post.imp h fun x H1 h => ?_⟩
  obtain ⟨B, env, R, h⟩ := h
  refine ⟨B, env, R, post.imp h fun y H2 h => ?_⟩
  obtain ⟨B, ds, out, s, ar, hg, q⟩ := h
  obtain ⟨d, e, rfl, a1, a2⟩ := ar.two
  have hg : gLo g [d, e] = some out := hg
  unfold gLo at hg
  split at hg
  · next d i e1 =>
    cases e1
    rw [a2.int]
    exact ⟨i, rfl, B, _, out, s, .cons a1 .nil, hg, q⟩
  · cases hg
theorem d_sliceHi {e hi : Expr} {de dl : Dn Rv} {p2 : Pos} {g : List PyData → Option Int → Option Int → Option Out} (hr : SlR X (rSlD Z.K g)) (he : PE X e (tD Z de)) (hl : PE X hi (tD Z dl)) : PE X (.Subscript e (.Slice none (some hi) none p2) pos) (tD Z (dB (gHi g) [de, dl])) := by
  refine PE_imp (pe_slice hr he po_none (po_some hl)) fun σ H Q h => ?_
  obtain ⟨B, env, R, h⟩ := tD2_rD h
  refine ⟨B, env, R, post.imp h fun x H1 h => ?_⟩
  obtain ⟨B, env, R, h⟩ := h
  refine ⟨B, env, R, post.imp h fun y H2 h => ?_⟩
  obtain ⟨B, ds, out, s, ar, hg, q⟩ := h
  obtain ⟨d, e, rfl, a1, a2⟩ := ar.two
  have hg : gHi g [d, e] = some out := hg
  unfold gHi at hg
  split at hg
  · next d i e1 =>
    cases e1
    rw [a2.int]
    exact ⟨i, rfl, B, _, out, s, .cons a1 .nil, hg, q⟩
  · cases hg
end
end DL

/-! D3: statements, targets, loops. -/
namespace DL
open PySem PySem.Spec PyProof.Rows L2

theorem Da.tupI {K : PySem.W.Frag} {B : Hp} {v : V} {ds : List PyData} (h : Da K B v (.tuple ds)) : ∃ a vs, v = .ref a ∧ SqT K B a vs ∧ DaAll K B vs ds := by
  cases h with | tup h1 h2 => exact ⟨_, _, rfl, h1.sqT, h2⟩
theorem Da.lstI {K : PySem.W.Frag} {B : Hp} {v : V} {ds : List PyData} (h : Da K B v (.list ds)) : ∃ a vs, v = .ref a ∧ SqL K B a vs ∧ DaAll K B vs ds := by
  cases h with | lst h1 h2 => exact ⟨_, _, rfl, h1, h2⟩
inductive Fl where
  | nx
  | rt (r : Rv)
def postS (Z : Fx) (B : Hp) (D : Ends) : Res Fl → Prop
  | .ok .nx env' => ∀ σ' H' B', Same B B' → Rel Z B' env' σ' H' → D.nx σ' H'
  | .ok (.rt r) env' => ∀ v σ' H' B', Same B B' → Rel Z B' env' σ' H' → Val Z B' env' σ' H' v r → D.rt v H'
  | .ex c env' => ∀ σ' H' B', Same B B' → Rel Z B' env' σ' H' → Z.E σ' c H'
  | .bad => False
def tDS (Z : Fx) (d : Dn Fl) : TS := fun D σ H => ∃ B env, Rel Z B env σ H ∧ postS Z B D (d env)
theorem postS.weak {Z : Fx} {B B' : Hp} {D : Ends} {r : Res Fl} (s : Same B B') (h : postS Z B D r) : postS Z B' D r := by
  cases r with
  | ok f e =>
    cases f with
    | nx => exact fun σ' H' B2 s2 R => h σ' H' B2 (s.trans s2) R
    | rt r => exact fun v σ' H' B2 s2 R q => h v σ' H' B2 (s.trans s2) R q
  | ex c e => exact fun σ' H' B2 s2 R => h σ' H' B2 (s.trans s2) R
  | bad => exact h
/-- an expression ahead of a statement's end -/
theorem postS.bndE {β ω1 : Type} {Z : Fx} {B : Hp} {D : Ends} {σ : St} {m : Dn β} {f : β → Dn Fl} {env : List Sl} {Vl1 : Hp → List Sl → Hp → ω1 → β → Prop} (h : postS Z B D (bnd m f env)) :
    post Z σ B Vl1 (fun v H1 => ∃ B1 env1 r, Same B B1 ∧ Rel Z B1 env1 σ H1 ∧ Vl1 B1 env1 H1 v r ∧ postS Z B1 D (f r env1)) (m env) := by
  unfold DL.bnd at h
  cases e : m env with
  | ok r env1 =>
    rw [e] at h
    exact fun v H' B' s R q => ⟨B', env1, r, s, R, q, postS.weak s h⟩
  | ex c env1 => rw [e] at h; exact fun H' B' s R => h σ H' B' s R
  | bad => rw [e] at h; exact h
def dSeq (a b : Dn Fl) : Dn Fl := bnd a fun f => match f with
  | .nx => b
  | .rt r => ret (.rt r)
def dRet (d : Dn Rv) : Dn Fl := bnd d fun r => ret (.rt r)
def dExpr (d : Dn Rv) : Dn Fl := bnd d fun _ => ret .nx
def dIfS (t : Dn Bool) (a b : Dn Fl) : Dn Fl := bnd t fun c => if c = true then a else b
def dNext : Dn Fl := ret .nx
/-- a statement ahead of a statement -/
theorem postS.seq {Z : Fx} {B : Hp} {D : Ends} {a : Dn Fl} {f : Fl → Dn Fl} {env : List Sl} {D' : Ends} (h : postS Z B D (bnd a f env)) (hnx : ∀ σ' H' B1 env1, Same B B1 → Rel Z B1 env1 σ' H' → postS Z B1 D (f .nx env1) → D'.nx σ' H')
    (hrt : ∀ v σ' H' B1 env1 r, Same B B1 → Rel Z B1 env1 σ' H' → Val Z B1 env1 σ' H' v r → postS Z B1 D (f (.rt r) env1) → D'.rt v H') : postS Z B D' (a env) := by
  unfold DL.bnd at h
  cases e : a env with
  | ok fl env1 =>
    rw [e] at h
    cases fl with
    | nx => exact fun σ' H' B' s R => hnx σ' H' B' env1 s R (postS.weak s h)
    | rt r => exact fun v σ' H' B' s R q => hrt v σ' H' B' env1 r s R q (postS.weak s h)
  | ex c env1 => rw [e] at h; exact h
  | bad => rw [e] at h; exact h
section
variable {X : Cx} {Z : Fx} {pos : Pos} {st : Stmt} {rest : List Stmt} {a b : Dn Fl} {e : Expr} {de : Dn Rv}
theorem s_nil : PSs X [] (tDS Z dNext) := PSs_imp pss_nil fun D σ H ⟨B, env, R, h⟩ => h σ H B (.refl _) R
theorem s_one (h : PS X st (tDS Z a)) : PSs X [st] (tDS Z a) := pss_one h
theorem s_cons (h1 : PS X st (tDS Z a)) (h2 : PSs X rest (tDS Z b)) : PSs X (st :: rest) (tDS Z (dSeq a b)) := by
  refine PSs_imp (pss_cons h1 h2) fun D σ H ⟨B, env, R, h⟩ => ⟨B, env, R, ?_⟩
  exact postS.seq h (fun σ' H' B1 env1 s R1 p => ⟨B1, env1, R1, p⟩) (fun v σ' H' B1 env1 r s R1 q p => p v σ' H' B1 (.refl _) R1 q)
theorem s_ret (h : PE X e (tD Z de)) : PS X (.Return (some e) pos) (tDS Z (dRet de)) := by
  refine PS_imp (ps_ret h) fun D σ H ⟨B, env, R, h⟩ => ⟨B, env, R, ?_⟩
  exact post.imp (postS.bndE (Vl1 := fun B env H v r => Val Z B env σ H v r) h) fun v H1 ⟨B1, env1, r, s, R1, q, p⟩ => p v σ H1 B1 (.refl _) R1 q
theorem s_expr (h : PE X e (tD Z de)) (hs : swapsWith e none pos.line X.env = pure false := by rfl) : PS X (.Expr e pos) (tDS Z (dExpr de)) := by
  refine PS_imp (ps_expr h hs) fun D σ H ⟨B, env, R, h⟩ => ⟨B, env, R, ?_⟩
  exact post.imp (postS.bndE (Vl1 := fun B env H v r => Val Z B env σ H v r) h) fun v H1 ⟨B1, env1, r, s, R1, q, p⟩ => p σ H1 B1 (.refl _) R1
theorem s_if {c : Expr} {as bs : List Stmt} {dt : Dn Bool} (hc : PT X c (tT Z dt)) (ha : PSs X as (tDS Z a)) (hb : PSs X bs (tDS Z b)) : PS X (.If c as bs pos) (tDS Z (dIfS dt a b)) := by
  refine PS_imp (ps_if hc ha hb) fun D σ H ⟨B, env, R, h⟩ => ⟨B, env, R, ?_⟩
  refine post.imp (postS.bndE (Vl1 := fun _ _ _ (b b' : Bool) => b = b') h) fun v H1 ⟨B1, env1, r, s, R1, q, p⟩ => ?_
  have q : v = r := q
  subst q
  cases v with
  | true => exact ⟨B1, env1, R1, p⟩
  | false => exact ⟨B1, env1, R1, p⟩
theorem s_pass : PS X (.Pass pos) (tDS Z dNext) := PS_imp ps_pass fun D σ H ⟨B, env, R, h⟩ => h σ H B (.refl _) R
end

/-! ### storing into a slot -/
def NewOk (Z : Fx) (B : Hp) (env : List Sl) (σ : St) (H : Hp) (v : V) : Sl → Prop
  | .un => True
  | .fz d => Da Z.K B v d
  | .own c => Val Z B env σ H v (.nw c)
theorem Rel.store {Z : Fx} {B H : Hp} {env : List Sl} {σ : St} {i : Nat} {v : V} {s : Sl} (R : Rel Z B env σ H) (hi : Z.vs0.length ≤ i) (ok : NewOk Z B env σ H v s) : Rel Z B (env.set i s) (σ.set i (some v)) H := by
  refine ⟨R.bh, R.fh, R.b0, R.new, by rw [List.length_set, List.length_set]; exact R.len, fun j u e => ?_, fun j t e => ?_, fun j k a c c' e1 e2 e3 e4 => ?_⟩
  · have hj : j < Z.vs0.length := by
      obtain ⟨h, _⟩ := List.getElem?_eq_some_iff.mp e
      exact h
    rw [List.getElem?_set_ne (by omega)]
    exact R.arg j u e
  · by_cases hj : i = j
    · subst hj
      have hl : i < env.length := by
        obtain ⟨h, _⟩ := List.getElem?_eq_some_iff.mp e
        simpa using h
      rw [List.getElem?_set_self hl] at e
      cases e
      rw [List.getElem?_set_self (by rw [← R.len]; exact hl)]
      cases s with
      | un => trivial
      | fz d => exact ⟨v, rfl, ok⟩
      | own c =>
        obtain ⟨a, rfl, h1, h2, h3, h4⟩ := ok
        exact ⟨a, rfl, h1, h2, h3⟩
    · rw [List.getElem?_set_ne hj] at e
      rw [List.getElem?_set_ne hj]
      exact R.slot j t e
  · have key : ∀ (m : Nat) (c0 : Cell), i ≠ m → env[m]? = some (.own c0) → σ[m]? = some (some (.ref a)) → ∀ c1, (env.set i s)[i]? = some (.own c1) → (σ.set i (some v))[i]? = some (some (.ref a)) → False := by
      intro m c0 hm e5 e6 c1 e7 e8
      have hl : i < env.length := by
        obtain ⟨h, _⟩ := List.getElem?_eq_some_iff.mp e7
        simpa using h
      rw [List.getElem?_set_self hl] at e7
      rw [List.getElem?_set_self (by rw [← R.len]; exact hl)] at e8
      cases e7
      cases e8
      obtain ⟨b, e9, h1, h2, h3, h4⟩ := ok
      cases e9
      exact h4 m c0 e5 e6
    by_cases hj : i = j
    · by_cases hk : i = k
      · rw [← hj, ← hk]
      · subst hj
        rw [List.getElem?_set_ne hk] at e2 e4
        exact (key k c' hk e2 e4 c e1 e3).elim
    · by_cases hk : i = k
      · subst hk
        rw [List.getElem?_set_ne hj] at e1 e3
        exact (key j c hj e1 e3 c' e2 e4).elim
      · rw [List.getElem?_set_ne hj] at e1 e3
        rw [List.getElem?_set_ne hk] at e2 e4
        exact R.sep j k a c c' e1 e2 e3 e4
def stow (i : Nat) : Rv → Dn Fl
  | .fz x, e => .ok .nx (e.set i (.fz x))
  | .nw c, e => .ok .nx (e.set i (.own c))
  | .bor j, e => match cmtB j e with
    | .ok x e' => .ok .nx (e'.set i (.fz x))
    | .ex c e' => .bad
    | .bad => .bad
theorem stow_ok {Z : Fx} {B H : Hp} {env : List Sl} {σ : St} {i : Nat} {v : V} {r : Rv} {D : Ends} (R : Rel Z B env σ H) (hi : Z.vs0.length ≤ i) (hv : Val Z B env σ H v r) (h : postS Z B D (stow i r env)) : D.nx (σ.set i (some v)) H := by
  cases r with
  | fz x => exact h _ _ B (.refl _) (R.store hi (s := .fz x) hv)
  | nw c => exact h _ _ B (.refl _) (R.store hi (s := .own c) hv)
  | bor j =>
    have h : postS Z B D (match cmtB j env with | .ok x e' => .ok .nx (e'.set i (.fz x)) | .ex c e' => .bad | .bad => .bad) := h
    cases e : cmtB j env with
    | ok x e' =>
      rw [e] at h
      obtain ⟨B', s, R', hd⟩ := cmt_ok (r := .bor j) R hv e
      exact h _ _ B' s (R'.store hi (s := .fz x) hd)
    | ex c e' => rw [e] at h; exact h.elim
    | bad => rw [e] at h; exact h.elim
def dSet (i : Nat) (d : Dn Rv) : Dn Fl := bnd d fun r => stow i r
/-- .. frozen at once -/
def dSetF (i : Nat) (d : Dn Rv) : Dn Fl := bnd d fun r => bnd (cmt r) fun x e => .ok .nx (e.set i (.fz x))
/-- name = .. whatever rule stands behind it -/
theorem asg_of {Z : Fx} {D : Ends} {σ : St} {H : Hp} {i : Nat} {de : Dn Rv} (hi : Z.vs0.length ≤ i) (h : tDS Z (dSet i de) D σ H) : tAsg (tD Z de) (gName i) D σ H := by
  obtain ⟨B, env, R, h⟩ := h
  refine ⟨B, env, R, post.imp (postS.bndE (σ := σ) (Vl1 := fun B env H v r => Val Z B env σ H v r) h) fun v H1 ⟨B1, env1, r, s, R1, q, p⟩ => ?_⟩
  exact stow_ok R1 hi q p
theorem asgF_of {Z : Fx} {D : Ends} {σ : St} {H : Hp} {i : Nat} {de : Dn Rv} (hi : Z.vs0.length ≤ i) (h : tDS Z (dSetF i de) D σ H) : tAsg (tD Z de) (gName i) D σ H := by
  obtain ⟨B, env, R, h⟩ := h
  refine ⟨B, env, R, post.imp (postS.bndE (σ := σ) (Vl1 := fun B env H v r => Val Z B env σ H v r) h) fun v H1 ⟨B1, env1, r, s, R1, q, p⟩ => ?_⟩
  unfold DL.bnd at p
  rcases cmt_cases r env1 with ⟨x, env2, e⟩ | e
  · rw [e] at p
    obtain ⟨B2, s2, R2, q2⟩ := cmt_ok R1 q e
    exact p _ H1 B2 s2 (R2.store hi (s := .fz x) q2)
  · rw [e] at p
    exact p.elim
section
variable {X : Cx} {Z : Fx} {pos pos' : Pos} {e : Expr} {de : Dn Rv} {i m : Nat} {x : Str}
theorem s_set (hm : Z.vs0.length ≤ m) (hN : X.N.Nodup) (he : PE X e (tD Z de)) (hmi : m ≤ i := by decide) (hi : X.N[i]? = some x := by rfl) (hx : Loc X.env.scope x := by first | exact Or.inl rfl | exact Or.inr rfl)
    (hs : swapsWith e (some (.Name x pos')) pos.line X.env = pure false := by rfl) (hf : X.fn x = true ∨ X.env.scope.names.lookup x = some .local := by first | exact .inl rfl | exact .inr rfl | assumption) : PS X (.Assign [.Name x pos'] e pos) (tDS Z (dSet i de)) :=
  PS_imp (ps_set hN hi hx he hs hf) fun D σ H h => asg_of (Nat.le_trans hm hmi) h
theorem s_setF (hm : Z.vs0.length ≤ m) (hN : X.N.Nodup) (he : PE X e (tD Z de)) (hmi : m ≤ i := by decide) (hi : X.N[i]? = some x := by rfl) (hx : Loc X.env.scope x := by first | exact Or.inl rfl | exact Or.inr rfl)
    (hs : swapsWith e (some (.Name x pos')) pos.line X.env = pure false := by rfl) (hf : X.fn x = true ∨ X.env.scope.names.lookup x = some .local := by first | exact .inl rfl | exact .inr rfl | assumption) : PS X (.Assign [.Name x pos'] e pos) (tDS Z (dSetF i de)) :=
  PS_imp (ps_set hN hi hx he hs hf) fun D σ H h => asgF_of (Nat.le_trans hm hmi) h
end

/-! ### targets -/
inductive Tg where
  | nm (i : Nat)
  | tp (is : List Nat)
  | ls (is : List Nat)
def Tg.slots : Tg → List Nat
  | .nm i => [i]
  | .tp is => is
  | .ls is => is
def putAll : List Nat → List PyData → List Sl → List Sl
  | i :: is, x :: xs, e => putAll is xs (e.set i (.fz x))
  | _, _, e => e
def tgD : Tg → PyData → Dn Unit
  | .nm i, x, e => .ok () (e.set i (.fz x))
  | .tp is, .tuple xs, e => if xs.length = is.length then .ok () (putAll is xs e) else .bad
  | .ls is, .list xs, e => if xs.length = is.length then .ok () (putAll is xs e) else .bad
  | _, _, _ => .bad
def putV : List Nat → List V → St → St
  | i :: is, x :: xs, e => putV is xs (e.set i (some x))
  | _, _, e => e
theorem putV_length : ∀ (is : List Nat) (vs : List V) (σ : St), (putV is vs σ).length = σ.length
  | [], _, _ => rfl
  | _ :: _, [], _ => rfl
  | i :: is, v :: vs, σ => by unfold putV; rw [putV_length is vs, List.length_set]
theorem putV_out : ∀ (is : List Nat) (vs : List V) (σ : St) (j : Nat), j ∉ is → (putV is vs σ)[j]? = σ[j]?
  | [], _, _, _, _ => rfl
  | _ :: _, [], _, _, _ => rfl
  | i :: is, v :: vs, σ, j, h => by
    unfold putV
    rw [putV_out is vs _ j (fun z => h (List.mem_cons_of_mem _ z)), List.getElem?_set_ne (fun z => h (by rw [z]; exact List.mem_cons_self))]
theorem putAll_ok {Z : Fx} {B H : Hp} : ∀ {is : List Nat} {vs : List V} {xs : List PyData} {env : List Sl} {σ : St}, (∀ i ∈ is, Z.vs0.length ≤ i) → DaAll Z.K B vs xs → Rel Z B env σ H → Rel Z B (putAll is xs env) (putV is vs σ) H
  | [], _, _, _, _, _, _, R => by unfold putAll putV; exact R
  | _ :: _, _, _, _, _, _, .nil, R => by unfold putAll putV; exact R
  | i :: is, _, _, _, _, hi, .cons h t, R => by
    unfold putAll putV
    exact putAll_ok (fun j hj => hi j (List.mem_cons_of_mem _ hj)) t (R.store (hi i List.mem_cons_self) (s := .fz _) h)
def tG (Z : Fx) (t : Tg) : TG := fun v σ H Q => ∃ B env x, Rel Z B env σ H ∧ Da Z.K B v x ∧ match tgD t x env with
  | .ok _ env' => ∀ σ', σ'.length = σ.length → (∀ j, j ∉ t.slots → σ'[j]? = σ[j]?) → Rel Z B env' σ' H → Q σ' H
  | .ex _ _ => False
  | .bad => False
/-- several names -/
def gsN (is : List Nat) : TGs := fun vs σ H Q => vs.length = is.length ∧ Q (putV is vs σ) H
section
variable {X : Cx} {Z : Fx} {pos : Pos} {m : Nat}
theorem gs_nil : PGs X [] (gsN []) := by
  refine ⟨fun pins s σ H vs us Q I r h => ?_⟩
  obtain ⟨h1, h2⟩ := h
  have e : vs = [] := List.eq_nil_of_length_eq_zero h1
  subst e
  exact pgs_nil.run pins s σ H [] us Q I r ⟨rfl, h2⟩
theorem gs_cons {i : Nat} {is : List Nat} {x : Str} {p : Pos} {es : List Expr} (hN : X.N.Nodup) (h2 : PGs X es (gsN is)) (hi : X.N[i]? = some x := by rfl) (hx : Loc X.env.scope x := by first | exact Or.inl rfl | exact Or.inr rfl)
    (hf : X.fn x = true ∨ X.env.scope.names.lookup x = some .local := by first | exact .inl rfl | exact .inr rfl | assumption)
    (hs : (assignEach (.Name x p :: es) X.env).map (·.2) = assign (.Name x p) X.env :: (assignEach es X.env).map (·.2) := by rfl) : PGs X (.Name x p :: es) (gsN (i :: is)) := by
  refine ⟨fun pins s σ H vs us Q I r h => ?_⟩
  obtain ⟨h1, h3⟩ := h
  cases vs with
  | nil => cases h1
  | cons v vs =>
    refine (pgs_cons (pg_name hN hi hx hf) h2 hs).run pins s σ H (v :: vs) us Q I r ⟨v, vs, rfl, ?_⟩
    exact ⟨by simpa using h1, h3⟩
theorem g_name {i : Nat} {x : Str} (hm : Z.vs0.length ≤ m) (hN : X.N.Nodup) (hmi : m ≤ i := by decide) (hi : X.N[i]? = some x := by rfl) (hx : Loc X.env.scope x := by first | exact Or.inl rfl | exact Or.inr rfl)
    (hf : X.fn x = true ∨ X.env.scope.names.lookup x = some .local := by first | exact .inl rfl | exact .inr rfl | assumption) : PG X (.Name x pos) (tG Z (.nm i)) := by
  refine PG_imp (pg_name hN hi hx hf) fun v σ H Q ⟨B, env, x, R, hd, h⟩ => ?_
  exact h (σ.set i (some v)) (List.length_set ..) (fun j hj => List.getElem?_set_ne (fun z => hj (by rw [← z]; exact List.mem_cons_self))) (R.store (Nat.le_trans hm hmi) (s := .fz x) hd)
theorem g_tup {es : List Expr} {k : Nat} {is : List Nat} (hm : Z.vs0.length ≤ m) (hc : X.calm = true) (hK : X.K = Z.K) (h : PGs X es (gsN is)) (hmi : ∀ i ∈ is, m ≤ i := by decide)
    (hn : (assignEach es X.env).length = is.length := by rfl) (hst : (assignEach es X.env).findIdx? (·.1) = none := by rfl) : PG X (.Tuple es k pos) (tG Z (.tp is)) := by
  refine PG_imp (pg_tup hc h hn hst) fun v σ H Q ⟨B, env, x, R, hd, h⟩ => ?_
  cases x with
  | tuple ds =>
    obtain ⟨a, xs, rfl, hs, ha⟩ := Da.tupI hd
    have h : (match (if ds.length = is.length then Res.ok () (putAll is ds env) else Res.bad : Res Unit) with | .ok _ env' => ∀ σ', σ'.length = σ.length → (∀ j, j ∉ is → σ'[j]? = σ[j]?) → Rel Z B env' σ' H → Q σ' H | .ex _ _ => False | .bad => False) := h
    split at h
    · next env' e =>
      split at e
      · next hl =>
        cases e
        refine ⟨a, xs, rfl, by rw [hK]; exact SqT.mono R.bh hs, by rw [DaAll.length ha, hl], by rw [DaAll.length ha, hl], ?_⟩
        exact h _ (putV_length ..) (putV_out is xs σ) (putAll_ok (fun i hi => Nat.le_trans hm (hmi i hi)) ha R)
      · cases e
    · exact h.elim
    · exact h.elim
  | _ => exact h.elim
theorem g_lst {es : List Expr} {k : Nat} {is : List Nat} (hm : Z.vs0.length ≤ m) (hc : X.calm = true) (hK : X.K = Z.K) (h : PGs X es (gsN is)) (hmi : ∀ i ∈ is, m ≤ i := by decide)
    (hn : (assignEach es X.env).length = is.length := by rfl) (hst : (assignEach es X.env).findIdx? (·.1) = none := by rfl) : PG X (.Tuple es k pos) (tG Z (.ls is)) := by
  refine PG_imp (pg_lst hc h hn hst) fun v σ H Q ⟨B, env, x, R, hd, h⟩ => ?_
  cases x with
  | list ds =>
    obtain ⟨a, xs, rfl, hs, ha⟩ := Da.lstI hd
    have h : (match (if ds.length = is.length then Res.ok () (putAll is ds env) else Res.bad : Res Unit) with | .ok _ env' => ∀ σ', σ'.length = σ.length → (∀ j, j ∉ is → σ'[j]? = σ[j]?) → Rel Z B env' σ' H → Q σ' H | .ex _ _ => False | .bad => False) := h
    split at h
    · next env' e =>
      split at e
      · next hl =>
        cases e
        refine ⟨a, xs, rfl, by rw [hK]; exact R.bh.seq hs, by rw [DaAll.length ha, hl], by rw [DaAll.length ha, hl], ?_⟩
        exact h _ (putV_length ..) (putV_out is xs σ) (putAll_ok (fun i hi => Nat.le_trans hm (hmi i hi)) ha R)
      · cases e
    · exact h.elim
    · exact h.elim
  | _ => exact h.elim
/-- target = value, the value committed -/
def dSetT (t : Tg) (d : Dn Rv) : Dn Fl := bnd d fun r => bnd (cmt r) fun x => bnd (tgD t x) fun _ => ret .nx
theorem s_setT {tg e : Expr} {de : Dn Rv} {t : Tg} (hg : PG X tg (tG Z t)) (he : PE X e (tD Z de)) (hs : swapsWithSole [tg] e pos.line X.env = pure false := by rfl) (hw : swappedStores [tg] e X.env = pure none := by rfl)
    (h1 : (assignEach [tg] X.env).map (·.2) = [assign tg X.env] := by rfl) : PS X (.Assign [tg] e pos) (tDS Z (dSetT t de)) := by
  refine PS_imp (ps_asg he hg hs hw h1) fun D σ H ⟨B, env, R, h⟩ => ?_
  refine ⟨B, env, R, post.imp (postS.bndE (σ := σ) (Vl1 := fun B env H v r => Val Z B env σ H v r) h) fun v H1 ⟨B1, env1, r, s, R1, q, p⟩ => ?_⟩
  unfold DL.bnd at p
  rcases cmt_cases r env1 with ⟨x, env2, e⟩ | e
  · rw [e] at p
    dsimp only at p
    obtain ⟨B2, s2, R2, q2⟩ := cmt_ok R1 q e
    refine ⟨B2, env2, x, R2, q2, ?_⟩
    cases e3 : tgD t x env2 with
    | ok u env3 =>
      rw [e3] at p
      exact fun σ' _ _ R3 => p σ' H1 B2 s2 R3
    | ex c env3 =>
      exfalso
      cases t <;> cases x <;> simp [tgD] at e3 <;> (first | (split at e3 <;> cases e3) | cases e3)
    | bad => rw [e3] at p; exact p.elim
  · rw [e] at p
    exact p.elim
end

/-! ### what is walked -/
/-- the turns give these data -/
def Goes (Z : Fx) (B : Hp) (J : It) (items : List PyData) : Prop := ∀ (i : Nat) (B1 H1 : Hp), Same B B1 → Same B1 H1 →
  (∀ x, items[i]? = some x → J.go i H1 ∧ ∀ v H2, J.yld i H1 v H2 → ∃ B2, Ext B1 H1 B2 H2 ∧ Da Z.K B2 v x) ∧ (i = items.length → J.stop i H1)
def tI (Z : Fx) (d : Dn (List PyData)) : TI := fun σ H R => ∃ B env, Rel Z B env σ H ∧ post Z σ B (fun B _ _ J items => Goes Z B J items ∧ items.length ≤ sizeLine) R (d env)
def forL (t : Tg) (body : Dn Fl) : List PyData → Dn Fl
  | [] => ret .nx
  | x :: xs => bnd (tgD t x) fun _ => bnd body fun f => match f with
    | .nx => forL t body xs
    | .rt r => ret (.rt r)
def dFor (d : Dn (List PyData)) (t : Tg) (body : Dn Fl) : Dn Fl := bnd d fun items => forL t body items
theorem tgD_noex (t : Tg) (x : PyData) (env : List Sl) (c : Str) (env' : List Sl) : tgD t x env ≠ .ex c env' := by
  intro e3
  cases t <;> cases x <;> simp [tgD] at e3 <;> (first | (split at e3 <;> cases e3) | cases e3)
section
variable {X : Cx} {Z : Fx} {pos : Pos}
theorem s_for {tg iter : Expr} {body : List Stmt} {di : Dn (List PyData)} {t : Tg} {db : Dn Fl} (hp : PassesOwn (model X.prog X.w) X.A X.env X.xe) (hc : X.calm = true) (hi : PI X tg iter (tI Z di)) (hg : PG X tg (tG Z t)) (hb : PSs X body (tDS Z db))
    (hs : ∀ x, foldedSetIterable iter X.env x = pure x := by intro _; rfl) : PS X (.For tg iter body [] pos) (tDS Z (dFor di t db)) := by
  refine PS_imp (ps_for hp hc hi hg hb hs) fun D σ H ⟨B, env, R, h⟩ => ?_
  refine ⟨B, env, R, post.imp (postS.bndE (σ := σ) (Vl1 := fun B _ _ J items => Goes Z B J items ∧ items.length ≤ sizeLine) h) fun J H1 ⟨B1, env1, items, s, R1, ⟨G, _⟩, p⟩ => ?_⟩
  refine ⟨fun i n σ H => n = items.length - i ∧ i ≤ items.length ∧ ∃ Bi envi, Same B1 Bi ∧ Rel Z Bi envi σ H ∧ postS Z Bi D (forL t db (items.drop i) envi), ⟨_, rfl, Nat.zero_le _, B1, env1, .refl _, R1, p⟩, ?_⟩
  rintro i n σ H ⟨rfl, hin, Bi, envi, si, Ri, pi⟩
  by_cases hlt : i < items.length
  · have hx : items[i]? = some items[i] := List.getElem?_eq_getElem hlt
    obtain ⟨g1, _⟩ := G i Bi H si Ri.bh
    obtain ⟨g1, g2⟩ := g1 _ hx
    rw [List.drop_eq_getElem_cons hlt] at pi
    refine .inr ⟨g1, fun σ' H' => ∃ Bi envi, Same B1 Bi ∧ Rel Z Bi envi σ' H' ∧ postS Z Bi D (forL t db (items.drop (i + 1)) envi), fun σ' H' q => ⟨items.length - (i + 1), by omega, rfl, hlt, q⟩, fun v H2 y => ?_⟩
    obtain ⟨B2, x2, d2⟩ := g2 v H2 y
    refine ⟨B2, envi, items[i], Ri.ext x2, d2, ?_⟩
    have pi : postS Z Bi D (bnd (tgD t items[i]) (fun _ => bnd db fun f => match f with | .nx => forL t db (items.drop (i + 1)) | .rt r => ret (.rt r)) envi) := pi
    unfold DL.bnd at pi
    cases e : tgD t items[i] envi with
    | ok u env3 =>
      rw [e] at pi
      intro σ' _ _ R3
      refine ⟨B2, env3, R3, ?_⟩
      refine postS.seq (D := D) (f := fun f => match f with | .nx => forL t db (items.drop (i + 1)) | .rt r => ret (.rt r)) (postS.weak x2.b pi) (fun σ4 H4 B4 env4 s4 R4 p4 => ?_) (fun v σ4 H4 B4 env4 r s4 R4 q4 p4 => ?_)
      · exact ⟨B4, env4, si.trans (x2.b.trans s4), R4, p4⟩
      · exact p4 v σ4 H4 B4 (.refl _) R4 q4
    | ex c env3 => exact (tgD_noex _ _ _ _ _ e).elim
    | bad => rw [e] at pi; exact pi.elim
  · have e : i = items.length := by omega
    rw [List.drop_of_length_le (Nat.le_of_eq e.symm)] at pi
    exact .inl ⟨(G i Bi H si Ri.bh).2 e, pi σ H Bi (.refl _) Ri⟩
def whileL (t : Dn Bool) (body : Dn Fl) : Nat → Dn Fl
  | 0 => fun _ => .bad
  | n + 1 => bnd t fun b => if b = true then bnd body fun f => match f with
    | .nx => whileL t body n
    | .rt r => ret (.rt r)
    else ret .nx
theorem s_while {c : Expr} {body : List Stmt} {dt : Dn Bool} {db : Dn Fl} (n : Nat) (hp : PassesOwn (model X.prog X.w) X.A X.env X.xe) (hc : PT X c (tT Z dt)) (hb : PSs X body (tDS Z db)) : PS X (.While c body [] pos) (tDS Z (whileL dt db n)) := by
  refine PS_imp (ps_while hp hc hb) fun D σ H h => ?_
  refine ⟨fun m σ H => tDS Z (whileL dt db m) D σ H, ⟨n, h⟩, ?_⟩
  rintro m σ H ⟨B, env, R, h⟩
  cases m with
  | zero => exact h.elim
  | succ m =>
    refine ⟨B, env, R, post.imp (postS.bndE (σ := σ) (Vl1 := fun _ _ _ (b b' : Bool) => b = b') h) fun v H1 ⟨B1, env1, r, s, R1, q, p⟩ => ?_⟩
    have q : v = r := q
    subst q
    cases v with
    | true =>
      refine ⟨fun σ' H' => tDS Z (whileL dt db m) D σ' H', fun σ' H' q => ⟨m, Nat.lt_succ_self _, q⟩, B1, env1, R1, ?_⟩
      refine postS.seq (D := D) (f := fun f => match f with | .nx => whileL dt db m | .rt r => ret (.rt r)) p (fun σ4 H4 B4 env4 s4 R4 p4 => ⟨B4, env4, R4, p4⟩) (fun v σ4 H4 B4 env4 r s4 R4 q4 p4 => p4 v σ4 H4 B4 (.refl _) R4 q4)
    | false => exact p σ H1 B1 (.refl _) R1
end
end DL

/-! D4: the context of a derivation; comprehensions; calls of own defs; a def's contract. -/
namespace DL
open PySem PySem.Spec PyProof.Rows L2

/-- what is wanted of an exception, by its class -/
def EX (Z : Fx) (σ : St) : XK := fun cls d H' => ∃ c C, d = none ∧ Z.mg c = some (.ref C) ∧ cls = .ref C ∧ Z.E σ c H'
structure Cok (Z : Fx) (X : Cx) (m k : Nat) : Prop where
  hK : X.K = Z.K
  hmg : X.mg = Z.mg
  calm : X.calm = true
  nd : X.N.Nodup
  room : Room k X.A
  takes : Takes X (fun cls d σ H => EX Z σ cls d H)
  passes : PassesOwn (model X.prog X.w) X.A X.env X.xe
  n0 : Z.vs0.length ≤ m

/-! ### wiping slots -/
def wipeE (e : List Sl) : List Nat → List Sl
  | [] => e
  | v :: vs => (wipeE e vs).set v .un
def restE (e e' : List Sl) : List Nat → List Sl
  | [] => e'
  | v :: vs => (restE e e' vs).set v (match e[v]? with | some (.fz d) => .fz d | _ => .un)
theorem Rel.unset {Z : Fx} {B H : Hp} {env : List Sl} {σ : St} {i : Nat} (R : Rel Z B env σ H) (hi : Z.vs0.length ≤ i) : Rel Z B (env.set i .un) (σ.set i none) H := by
  have R1 : Rel Z B (env.set i .un) (σ.set i (some V.non)) H := R.store hi (s := .un) trivial
  refine ⟨R.bh, R.fh, R.b0, R.new, by rw [List.length_set, List.length_set]; exact R.len, fun j u e => ?_, fun j t e => ?_, fun j k a c c' e1 e2 e3 e4 => ?_⟩
  · have hj : j < Z.vs0.length := by
      obtain ⟨h, _⟩ := List.getElem?_eq_some_iff.mp e
      exact h
    rw [List.getElem?_set_ne (by omega)]
    exact R.arg j u e
  · by_cases hj : i = j
    · subst hj
      have hl : i < env.length := by
        obtain ⟨h, _⟩ := List.getElem?_eq_some_iff.mp e
        simpa using h
      rw [List.getElem?_set_self hl] at e
      cases e
      trivial
    · rw [List.getElem?_set_ne hj] at e ⊢
      exact R.slot j t e
  · have nj : i ≠ j := fun z => by
      subst z
      have hl : i < env.length := by
        obtain ⟨h, _⟩ := List.getElem?_eq_some_iff.mp e1
        simpa using h
      rw [List.getElem?_set_self hl] at e1; cases e1
    have nk : i ≠ k := fun z => by
      subst z
      have hl : i < env.length := by
        obtain ⟨h, _⟩ := List.getElem?_eq_some_iff.mp e2
        simpa using h
      rw [List.getElem?_set_self hl] at e2; cases e2
    rw [List.getElem?_set_ne nj] at e1 e3
    rw [List.getElem?_set_ne nk] at e2 e4
    exact R.sep j k a c c' e1 e2 e3 e4
theorem Rel.wipe {Z : Fx} {B H : Hp} {env : List Sl} {σ : St} : ∀ {vs : List Nat}, (∀ i ∈ vs, Z.vs0.length ≤ i) → Rel Z B env σ H → Rel Z B (wipeE env vs) (L2.wipe σ vs) H
  | [], _, R => R
  | v :: vs, h, R => (Rel.wipe (fun i hi => h i (List.mem_cons_of_mem _ hi)) R).unset (h v List.mem_cons_self)
theorem wipe_in {σ : St} : ∀ {vs : List Nat} {j : Nat}, j ∈ vs → (L2.wipe σ vs)[j]? = if j < σ.length then some none else none
  | v :: vs, j, h => by
    unfold L2.wipe
    by_cases hj : v = j
    · subst hj
      by_cases hl : v < σ.length
      · rw [if_pos hl, List.getElem?_set_self (by rw [wipe_length]; exact hl)]
      · rw [if_neg hl, List.getElem?_eq_none (by rw [List.length_set, wipe_length]; omega)]
    · rw [List.getElem?_set_ne hj]
      exact wipe_in ((List.mem_cons.mp h).resolve_left fun z => hj z.symm)
theorem wipe_eq {σ σ2 : St} {vs : List Nat} (hl : σ2.length = σ.length) (h : ∀ j, j ∉ vs → σ2[j]? = σ[j]?) : L2.wipe σ2 vs = L2.wipe σ vs := by
  apply List.ext_getElem?
  intro j
  by_cases hj : j ∈ vs
  · rw [wipe_in hj, wipe_in hj, hl]
  · rw [wipe_out hj, wipe_out hj, h j hj]
theorem wipe_wipe {σ : St} {vs : List Nat} : L2.wipe (L2.wipe σ vs) vs = L2.wipe σ vs := wipe_eq (wipe_length _ _) fun j hj => wipe_out hj
theorem restE_length {e e' : List Sl} : ∀ (vs : List Nat), (restE e e' vs).length = e'.length
  | [] => rfl
  | v :: vs => by unfold restE; rw [List.length_set, restE_length vs]
theorem restE_out {e e' : List Sl} : ∀ {vs : List Nat} {j : Nat}, j ∉ vs → (restE e e' vs)[j]? = e'[j]?
  | [], _, _ => rfl
  | v :: vs, j, h => by
    unfold restE
    rw [List.getElem?_set_ne (fun z => h (by rw [z]; exact List.mem_cons_self))]
    exact restE_out fun z => h (List.mem_cons_of_mem _ z)
theorem restE_in {e e' : List Sl} : ∀ {vs : List Nat} {j : Nat} {s : Sl}, j ∈ vs → (restE e e' vs)[j]? = some s → s = .un ∨ ∃ d, s = .fz d ∧ e[j]? = some (.fz d)
  | v :: vs, j, s, h, q => by
    unfold restE at q
    by_cases hj : v = j
    · subst hj
      have hl : v < (restE e e' vs).length := by
        obtain ⟨h, _⟩ := List.getElem?_eq_some_iff.mp q
        simpa using h
      rw [List.getElem?_set_self hl] at q
      cases q
      split
      · next d e => exact .inr ⟨d, rfl, e⟩
      · exact .inl rfl
    · rw [List.getElem?_set_ne hj] at q
      exact restE_in ((List.mem_cons.mp h).resolve_left fun z => hj z.symm) q

/-! ### a cell put into the frame -/
/-- with the cell at a as it stands in the frame, and no exception -/
def Fx.hide (Z : Fx) (a : Addr) (o : HO) : Fx := { Z with F := upd Z.F a o, E := fun _ _ _ => False }
theorem CellAt.of {Z Z' : Fx} (h1 : Z.K = Z'.K) (h2 : Z.mg = Z'.mg) {B H : Hp} {a : Addr} {c : Cell} (x : CellAt Z B H a c) : CellAt Z' B H a c := by
  cases c with
  | l xs => obtain ⟨vs, e1, e2⟩ := x; exact ⟨vs, e1, h1 ▸ e2⟩
  | i fs => obtain ⟨dx, gs, e1, e2⟩ := x; exact ⟨dx, gs, by rw [← h2]; exact e1, h1 ▸ e2⟩
  | d kvs => obtain ⟨ws, e1, e2⟩ := x; exact ⟨ws, e1, h1 ▸ e2⟩
theorem Rel.hide {Z : Fx} {B H : Hp} {env : List Sl} {σ : St} {a : Addr} {o : HO} (R : Rel Z B env σ H) (hH : H a = some o) (hB : B a = none) (hn : ∀ (i : Nat) (c' : Cell), env[i]? = some (.own c') → σ[i]? ≠ some (some (.ref a))) : Rel (Z.hide a o) B env σ H := by
  refine ⟨R.bh, fun b u e => ?_, R.b0, fun b u e => ?_, R.len, R.arg, fun i s h => ?_, R.sep⟩
  · have e : upd Z.F a o b = some u := e
    by_cases hb : b = a
    · subst hb; rw [upd_same] at e; cases e; exact hH
    · rw [upd_ne hb] at e; exact R.fh _ _ e
  · have hb : b ≠ a := fun z => by rw [z, hB] at e; cases e
    rcases R.new b u e with q | q
    · exact .inl q
    · exact .inr (by show upd Z.F a o b = none; rw [upd_ne hb]; exact q)
  · have q := R.slot i s h
    cases s with
    | un => trivial
    | fz d => exact q
    | own c =>
      obtain ⟨b, h1, h2, h3, h4⟩ := q
      have hb : b ≠ a := fun z => hn i c h (by rw [h1, z])
      exact ⟨b, h1, h2, by show upd Z.F a o b = none; rw [upd_ne hb]; exact h3, h4.of rfl rfl⟩
/-- .. and back -/
theorem Rel.show {Z : Fx} {B H : Hp} {env : List Sl} {σ : St} {a : Addr} {o : HO} (hF : Z.F a = none) (hB0 : Z.B0 a = none) (R : Rel (Z.hide a o) B env σ H) : H a = some o ∧ B a = none ∧ (∀ (i : Nat) (c' : Cell), env[i]? = some (.own c') → σ[i]? ≠ some (some (.ref a))) ∧ Rel Z B env σ H := by
  have hFa : (Z.hide a o).F a = some o := upd_same
  have sF : Same Z.F (Z.hide a o).F := same_upd hF
  refine ⟨R.fh _ _ hFa, ?_, fun i c' e1 e2 => ?_, R.bh, sF.trans R.fh, R.b0, fun b u e => ?_, R.len, R.arg, fun i s h => ?_, R.sep⟩
  · cases e : B a with
    | none => rfl
    | some u =>
      rcases R.new a u e with q | q
      · have q : Z.B0 a = some u := q
        rw [hB0] at q; cases q
      · rw [hFa] at q; cases q
  · obtain ⟨b, h1, h2, h3, h4⟩ := R.slot i _ e1
    rw [h1] at e2; cases e2
    rw [hFa] at h3; cases h3
  · rcases R.new b u e with q | q
    · exact .inl q
    · exact .inr (sF.free q)
  · have q := R.slot i s h
    cases s with
    | un => trivial
    | fz d => exact q
    | own c =>
      obtain ⟨b, h1, h2, h3, h4⟩ := q
      exact ⟨b, h1, h2, sF.free h3, h4.of rfl rfl⟩
/-- the hidden cell is changed -/
theorem Rel.swap {Z : Fx} {B H : Hp} {env : List Sl} {σ : St} {a : Addr} {o o' : HO} (hF : Z.F a = none) (hB0 : Z.B0 a = none) (R : Rel (Z.hide a o) B env σ H) : Rel (Z.hide a o') B env σ (upd H a o') := by
  obtain ⟨h1, h2, h3, R1⟩ := Rel.show hF hB0 R
  refine ⟨fun b u e => ?_, fun b u e => ?_, R.b0, fun b u e => ?_, R.len, R.arg, fun i s h => ?_, R.sep⟩
  · rw [upd_ne (fun z => by rw [z, h2] at e; cases e)]; exact R.bh _ _ e
  · have e : upd Z.F a o' b = some u := e
    by_cases hb : b = a
    · subst hb; rw [upd_same] at e ⊢; exact e
    · rw [upd_ne hb] at e ⊢; exact R1.fh _ _ e
  · have hb : b ≠ a := fun z => by rw [z, h2] at e; cases e
    rcases R1.new b u e with q | q
    · exact .inl q
    · exact .inr (by show upd Z.F a o' b = none; rw [upd_ne hb]; exact q)
  · have q := R1.slot i s h
    cases s with
    | un => trivial
    | fz d => exact q
    | own c =>
      obtain ⟨b, g1, g2, g3, g4⟩ := q
      have hb : b ≠ a := fun z => h3 i c h (by rw [g1, z])
      exact ⟨b, g1, g2, by show upd Z.F a o' b = none; rw [upd_ne hb]; exact g3, CellAt.of rfl rfl (g4.mono (.refl _) fun u e => by rw [upd_ne hb]; exact e)⟩

/-! ### comprehensions -/
def wipeD (vs : List Nat) : Dn Unit := fun e => .ok () (wipeE e vs)
def compL (t : Tg) (tt : Dn Bool) (te : Dn Rv) (vs : List Nat) : List PyData → Dn (List PyData)
  | [] => ret []
  | x :: xs => bnd (tgD t x) fun _ => bnd tt fun b => if b = true then bnd te fun r => bnd (cmt r) fun y => bnd (wipeD vs) fun _ => bnd (compL t tt te vs xs) fun ys => ret (y :: ys) else bnd (wipeD vs) fun _ => compL t tt te vs xs
def compE (t : Tg) (tt : Dn Bool) (te : Dn Rv) (vs : List Nat) (items : List PyData) : Dn Rv := fun e => match compL t tt te vs items (wipeE e vs) with
  | .ok ys e' => .ok (.nw (.l ys)) (restE e e' vs)
  | .ex _ _ => .bad
  | .bad => .bad
def dComp (di : Dn (List PyData)) (t : Tg) (tt : Dn Bool) (te : Dn Rv) (vs : List Nat) : Dn Rv := bnd di fun items => compE t tt te vs items
theorem bnd_ok {α β : Type} {m : Dn α} {f : α → Dn β} {e e' : List Sl} {b : β} (h : bnd m f e = .ok b e') : ∃ a e1, m e = .ok a e1 ∧ f a e1 = .ok b e' := by
  unfold bnd at h
  cases q : m e with
  | ok a e1 => rw [q] at h; exact ⟨a, e1, rfl, h⟩
  | ex c e1 => rw [q] at h; cases h
  | bad => rw [q] at h; cases h
section
variable {X : Cx} {Z : Fx} {pos : Pos} {m k : Nat}
theorem Cok.blk (c : Cok Z X m k) {D : Addr} {o : HO} {scope : Scope} (s : Shared) (H : Hp) (C : Addr) (cl : List (Str × Addr)) (fp : List Addr) : Cok (Z.hide D o) (X.blk s H scope (compEnvC scope cl C X.env) fp) m k where
  hK := c.hK
  hmg := c.hmg
  calm := c.calm
  nd := c.nd
  room := c.room
  takes := fun u s' ⟨_, _, _, _, _, _, _, _, _, _, _, _, _, _, _, _, z⟩ => by
    obtain ⟨_, _, _, _, _, z⟩ := z
    exact z.elim
  passes := PassesOwn.never
  n0 := c.n0
/-- the frozen list is small -/
theorem lc_of {J : It} {items : List PyData} {t : Tg} {tt : Dn Bool} {te : Dn Rv} {vs : List Nat} {B : Hp} {env : List Sl} {σ : St} {H1 : Hp} {Q : VK} {Good : Fx → Prop} (hgood : ∀ D o, Good (Z.hide D o)) (hv : ∀ i ∈ vs, Z.vs0.length ≤ i) (hts : ∀ i ∈ t.slots, i ∈ vs)
    (R : Rel Z B env σ H1) (G : Goes Z B J items) (hsz : items.length ≤ sizeLine)
    (p : post Z σ B (fun B env H v r => Val Z B env σ H v r) Q (compE t tt te vs items env)) (D : Addr) (hD : H1 D = none) :
    ∃ W : Nat → Nat → Hp → Prop, (∃ m, W 0 m (upd H1 D (.lst []))) ∧ ∀ i m H, W i m H →
      (J.stop i H ∧ Q (.ref D) H) ∨ (J.go i H ∧ ∃ Nx : Hp → Prop, (∀ H', Nx H' → ∃ m', m' < m ∧ W (i + 1) m' H') ∧ ∀ x H', J.yld i H x H' → (∃ Z', Good Z' ∧ tG Z' t x (L2.wipe σ vs) H' fun σ2 H2 => L2.wipe σ2 vs = L2.wipe σ vs ∧
        ∃ Z', Good Z' ∧ tT Z' tt σ2 H2 fun b H3 => if b = true then ∃ Z', Good Z' ∧ tD Z' te σ2 H3 fun y H4 => ∃ acc, H4 D = some (.lst acc) ∧ acc.length < sizeLine ∧ Nx (upd H4 D (.lst (acc ++ [y]))) else Nx H3)) := by
  obtain ⟨f1, f2, f3⟩ := R.fresh hD
  have hB0 : Z.B0 D = none := R.b0.free f1
  unfold compE at p
  cases e : compL t tt te vs items (wipeE env vs) with
  | ex c e1 => rw [e] at p; exact p.elim
  | bad => rw [e] at p; exact p.elim
  | ok ysF envF =>
  rw [e] at p
  have p : ∀ v H' B', Same B B' → Rel Z B' (restE env envF vs) σ H' → Val Z B' (restE env envF vs) σ H' v (.nw (.l ysF)) → Q v H' := p
  let St : Nat → List V → Hp → Prop := fun i acc H => ∃ Bi envi xs ys, Same B Bi ∧ Rel (Z.hide D (.lst acc)) Bi envi (L2.wipe σ vs) H ∧ DaAll Z.K Bi acc xs ∧ acc.length ≤ i ∧ compL t tt te vs (items.drop i) envi = .ok ys envF ∧ xs ++ ys = ysF
  refine ⟨fun i n H => n = items.length - i ∧ i ≤ items.length ∧ ∃ acc, St i acc H, ⟨_, rfl, Nat.zero_le _, [], B, wipeE env vs, [], ysF, .refl _, ?_, .nil, Nat.zero_le _, e, rfl⟩, ?_⟩
  · have R1 : Rel Z B env σ (upd H1 D (.lst [])) := R.ext (Ext.heap _ R.bh hD)
    exact Rel.wipe (Z := Z.hide D (.lst [])) hv (R1.hide upd_same f1 f3)
  rintro i n H ⟨rfl, hin, acc, Bi, envi, xs, ys, si, Ri, hacc, hlen, hc, hys⟩
  obtain ⟨hHD, hBD, hno, Rz⟩ := Rel.show f2 hB0 Ri
  by_cases hlt : i < items.length
  · have hx : items[i]? = some items[i] := List.getElem?_eq_getElem hlt
    obtain ⟨g1, _⟩ := G i Bi H si Ri.bh
    obtain ⟨g1, g2⟩ := g1 _ hx
    rw [List.drop_eq_getElem_cons hlt] at hc
    refine .inr ⟨g1, fun H' => ∃ acc, St (i + 1) acc H', fun H' q => ⟨items.length - (i + 1), by omega, rfl, hlt, q⟩, fun v H2 y => ?_⟩
    obtain ⟨B2, x2, d2⟩ := g2 v H2 y
    have R2 : Rel (Z.hide D (.lst acc)) B2 envi (L2.wipe σ vs) H2 := Ri.ext x2
    obtain ⟨u, env3, e3, hc⟩ := bnd_ok hc
    refine ⟨_, hgood D (.lst acc), B2, envi, items[i], R2, d2, ?_⟩
    rw [e3]
    intro σ2 hl2 ho2 R3
    have hw : L2.wipe σ2 vs = L2.wipe σ vs := (wipe_eq hl2 fun j hj => ho2 j fun z => hj (hts j z)).trans wipe_wipe
    refine ⟨hw, _, hgood D (.lst acc), B2, env3, R3, ?_⟩
    obtain ⟨b, env4, e4, hc⟩ := bnd_ok hc
    rw [e4]
    intro b' H4 B4 s4 R4 hb
    have hb : b' = b := hb
    subst hb
    cases b' with
    | true =>
      rw [if_pos rfl] at hc ⊢
      refine ⟨_, hgood D (.lst acc), B4, env4, R4, ?_⟩
      obtain ⟨r, env5, e5, hc⟩ := bnd_ok hc
      rw [e5]
      intro w H5 B5 s5 R5 hr
      obtain ⟨y', env6, e6, hc⟩ := bnd_ok hc
      obtain ⟨B6, s6, R6, d6⟩ := cmt_ok R5 hr e6
      obtain ⟨_, env7, e7, hc⟩ := bnd_ok hc
      cases e7
      obtain ⟨ys', env8, e8, hc⟩ := bnd_ok hc
      cases hc
      have sB : Same Bi B6 := x2.b.trans (s4.trans (s5.trans s6))
      refine ⟨acc, (Rel.show f2 hB0 R6).1, Nat.lt_of_le_of_lt hlen (Nat.lt_of_lt_of_le hlt hsz), acc ++ [w], B6, wipeE env6 vs, xs ++ [y'], ys', si.trans sB, ?_, DaAll.append (DaAll.mono sB _ hacc) (.cons d6 .nil), by rw [List.length_append]; exact Nat.succ_le_succ hlen, e8, by rw [← hys]; simp⟩
      have R7 := Rel.wipe (vs := vs) (Z := Z.hide D (.lst acc)) hv R6
      rw [hw] at R7
      exact Rel.swap f2 hB0 R7
    | false =>
      have e9 : ¬ (false = true) := by decide
      rw [if_neg e9] at hc ⊢
      obtain ⟨_, env7, e7, hc⟩ := bnd_ok hc
      cases e7
      have sB : Same Bi B4 := x2.b.trans s4
      refine ⟨acc, B4, wipeE env4 vs, xs, ys, si.trans sB, ?_, DaAll.mono sB _ hacc, Nat.le_succ_of_le hlen, hc, hys⟩
      have R7 := Rel.wipe (vs := vs) (Z := Z.hide D (.lst acc)) hv R4
      rw [hw] at R7
      exact R7
  · have e9 : i = items.length := by omega
    rw [List.drop_of_length_le (Nat.le_of_eq e9.symm)] at hc
    cases hc
    rw [List.append_nil] at hys
    subst hys
    refine .inl ⟨(G i Bi H si Ri.bh).2 e9, p _ H Bi si ?_ ?_⟩
    · refine ⟨Rz.bh, Rz.fh, Rz.b0, Rz.new, ?_, R.arg, fun j s h => ?_, fun j k a c c' h1 h2 h3 h4 => ?_⟩
      · rw [restE_length, Rz.len, wipe_length]
      · by_cases hj : j ∈ vs
        · rcases restE_in hj h with rfl | ⟨d, rfl, he⟩
          · trivial
          · obtain ⟨v, h1, h2⟩ := R.slot j _ he
            exact ⟨v, h1, Da.mono si _ h2⟩
        · rw [restE_out hj] at h
          have := Rz.slot j s h
          rw [wipe_out hj] at this
          exact this
      · have nj : ∀ {j : Nat} {c : Cell}, (restE env envF vs)[j]? = some (.own c) → j ∉ vs := fun h hj => by
          rcases restE_in hj h with z | ⟨d, z, _⟩ <;> cases z
        have j1 := nj h1
        have j2 := nj h2
        rw [restE_out j1] at h1
        rw [restE_out j2] at h2
        rw [← wipe_out (σ := σ) j1] at h3
        rw [← wipe_out (σ := σ) j2] at h4
        exact Rz.sep j k a c c' h1 h2 h3 h4
    · refine ⟨D, rfl, hBD, f2, ⟨acc, hHD, hacc⟩, fun j c' h1 h2 => ?_⟩
      have nj : j ∉ vs := fun hj => by
        rcases restE_in hj h1 with z | ⟨d, z, _⟩ <;> cases z
      rw [restE_out nj] at h1
      rw [← wipe_out (σ := σ) nj] at h2
      exact hno j c' h1 h2

theorem PTs_imp {X : Cx} {e : List Expr} {t t' : TT} (h : PTs X e t) (m : ∀ σ H Q, t' σ H Q → t σ H Q) : PTs X e t' := ⟨fun pins s σ H Q I q => h.run pins s σ H Q I (m σ H Q q)⟩
def dYes : Dn Bool := ret true
theorem t_nil : PTs X [] (tT Z dYes) := PTs_imp pts_nil fun σ H Q ⟨B, env, R, h⟩ => h true H B (.refl _) R rfl
theorem t_one {c : Expr} {d : Dn Bool} (h : PT X c (tT Z d)) : PTs X [c] (tT Z d) := pts_one h
abbrev Blk (X : Cx) (scope : Scope) (s : Shared) (H : Hp) (C : Addr) (cl : List (Str × Addr)) (fp : List Addr) : Cx := X.blk s H scope (compEnvC scope cl C X.env) fp
theorem ex_PG {X : Cx} {e : Expr} {Good : Fx → Prop} {t : Tg} (h : ∀ Z', Good Z' → PG X e (tG Z' t)) : PG X e (fun v σ H Q => ∃ Z', Good Z' ∧ tG Z' t v σ H Q) := ⟨fun pins s σ H v u Q I r ⟨Z', g, q⟩ => (h Z' g).run pins s σ H v u Q I r q⟩
theorem ex_PTs {X : Cx} {e : List Expr} {Good : Fx → Prop} {t : Dn Bool} (h : ∀ Z', Good Z' → PTs X e (tT Z' t)) : PTs X e (fun σ H Q => ∃ Z', Good Z' ∧ tT Z' t σ H Q) := ⟨fun pins s σ H Q I ⟨Z', g, q⟩ => (h Z' g).run pins s σ H Q I q⟩
theorem ex_PE {X : Cx} {e : Expr} {Good : Fx → Prop} {t : Dn Rv} (h : ∀ Z', Good Z' → PE X e (tD Z' t)) : PE X e (fun σ H Q => ∃ Z', Good Z' ∧ tD Z' t σ H Q) := ⟨fun pins s σ H Q I ⟨Z', g, q⟩ => (h Z' g).run pins s σ H Q I q⟩
theorem comp_of {di : Dn (List PyData)} {t : Tg} {tt : Dn Bool} {te : Dn Rv} {vs : List Nat} {Good : Fx → Prop} (hgood : ∀ D o, Good (Z.hide D o)) (hv : ∀ i ∈ vs, Z.vs0.length ≤ i) (hts : ∀ i ∈ t.slots, i ∈ vs) {σ : St} {H : Hp} {Q : VK}
    (h : tD Z (dComp di t tt te vs) σ H Q) : tLc (tI Z di) (fun v σ H Q => ∃ Z', Good Z' ∧ tG Z' t v σ H Q) (fun σ H Q => ∃ Z', Good Z' ∧ tT Z' tt σ H Q) (fun σ H Q => ∃ Z', Good Z' ∧ tD Z' te σ H Q) vs σ H Q := by
  obtain ⟨B, env, R, h⟩ := h
  exact ⟨B, env, R, post.imp (post.bnd (Vl1 := fun B _ _ J items => Goes Z B J items ∧ items.length ≤ sizeLine) h) fun J H1 ⟨B1, env1, items, s, R1, ⟨G, hsz⟩, p⟩ D hD => lc_of hgood hv hts R1 G hsz p D hD⟩
theorem d_comp {elt tg iter : Expr} {ifs : List Expr} {scope : Scope} {di : Dn (List PyData)} {t : Tg} {tt : Dn Bool} {te : Dn Rv} (own : List (Str × Nat)) (c : Cok Z X m k) (hi : PI X tg iter (tI Z di)) (ok : BlkOk X.N X.env.scope scope own)
    (hg : ∀ (s : Shared) (H : Hp) (C : Addr) (cl : List (Str × Addr)) (fp : List Addr) (Z : Fx), Cok Z (Blk X scope s H C cl fp) m k → PG (Blk X scope s H C cl fp) tg (tG Z t))
    (ht : ∀ (s : Shared) (H : Hp) (C : Addr) (cl : List (Str × Addr)) (fp : List Addr) (Z : Fx), Cok Z (Blk X scope s H C cl fp) m k → PTs (Blk X scope s H C cl fp) ifs (tT Z tt))
    (he : ∀ (s : Shared) (H : Hp) (C : Addr) (cl : List (Str × Addr)) (fp : List Addr) (Z : Fx), Cok Z (Blk X scope s H C cl fp) m k → PE (Blk X scope s H C cl fp) elt (tD Z te))
    (hv : ∀ i ∈ own.map (·.2), m ≤ i := by decide) (hts : ∀ i ∈ t.slots, i ∈ own.map (·.2) := by decide) (hs : ∀ x, foldedSetIterable iter X.env x = pure x := by intro _; rfl) :
    PE X (.ListComp elt [⟨tg, iter, ifs, 0⟩] scope pos) (tD Z (dComp di t tt te (own.map (·.2)))) := by
  refine PE_imp (pe_lc c.calm c.nd hi ok (fun s H C cl fp => ex_PG (Good := fun Z => ∀ s H C cl fp, Cok Z (Blk X scope s H C cl fp) m k) fun Z' g => hg s H C cl fp Z' (g s H C cl fp))
    (fun s H C cl fp => ex_PTs (Good := fun Z => ∀ s H C cl fp, Cok Z (Blk X scope s H C cl fp) m k) fun Z' g => ht s H C cl fp Z' (g s H C cl fp)) (fun s H C cl fp => ex_PE (Good := fun Z => ∀ s H C cl fp, Cok Z (Blk X scope s H C cl fp) m k) fun Z' g => he s H C cl fp Z' (g s H C cl fp)) hs) fun σ H Q h => ?_
  exact comp_of (fun D o s H C cl fp => c.blk s H C cl fp) (fun i hi => Nat.le_trans c.n0 (hv i hi)) hts h
/-- name = [..], stored within the comprehension -/
theorem s_setC {i : Nat} {y : Str} {py spos : Pos} {elt tg iter : Expr} {ifs : List Expr} {scope : Scope} {di : Dn (List PyData)} {t : Tg} {tt : Dn Bool} {te : Dn Rv} (own : List (Str × Nat)) (c : Cok Z X m k) (hi : PI X tg iter (tI Z di)) (ok : BlkOk X.N X.env.scope scope own)
    (hg : ∀ (s : Shared) (H : Hp) (C : Addr) (cl : List (Str × Addr)) (fp : List Addr) (Z : Fx), Cok Z (Blk X scope s H C cl fp) m k → PG (Blk X scope s H C cl fp) tg (tG Z t))
    (ht : ∀ (s : Shared) (H : Hp) (C : Addr) (cl : List (Str × Addr)) (fp : List Addr) (Z : Fx), Cok Z (Blk X scope s H C cl fp) m k → PTs (Blk X scope s H C cl fp) ifs (tT Z tt))
    (he : ∀ (s : Shared) (H : Hp) (C : Addr) (cl : List (Str × Addr)) (fp : List Addr) (Z : Fx), Cok Z (Blk X scope s H C cl fp) m k → PE (Blk X scope s H C cl fp) elt (tD Z te))
    (hsw : swapsWith (.ListComp elt [⟨tg, iter, ifs, 0⟩] scope pos) (some (.Name y py)) spos.line X.env = pure true) (hmi : m ≤ i := by decide) (hy : X.N[i]? = some y := by rfl) (hyl : X.env.scope.names.lookup y = some .local := by rfl)
    (hv : ∀ i ∈ own.map (·.2), m ≤ i := by decide) (hts : ∀ i ∈ t.slots, i ∈ own.map (·.2) := by decide) (hs : ∀ x, foldedSetIterable iter X.env x = pure x := by intro _; rfl) :
    PS X (.Assign [.Name y py] (.ListComp elt [⟨tg, iter, ifs, 0⟩] scope pos) spos) (tDS Z (dSetF i (dComp di t tt te (own.map (·.2))))) := by
  refine PS_imp (ps_setLc c.calm c.nd hy hyl hsw hi ok (fun s H C cl fp => ex_PG (Good := fun Z => ∀ s H C cl fp, Cok Z (Blk X scope s H C cl fp) m k) fun Z' g => hg s H C cl fp Z' (g s H C cl fp))
    (fun s H C cl fp => ex_PTs (Good := fun Z => ∀ s H C cl fp, Cok Z (Blk X scope s H C cl fp) m k) fun Z' g => ht s H C cl fp Z' (g s H C cl fp)) (fun s H C cl fp => ex_PE (Good := fun Z => ∀ s H C cl fp, Cok Z (Blk X scope s H C cl fp) m k) fun Z' g => he s H C cl fp Z' (g s H C cl fp)) hs) fun D σ H h => ?_
  exact comp_of (fun D o s H C cl fp => c.blk s H C cl fp) (fun i hi => Nat.le_trans c.n0 (hv i hi)) hts (asgF_of (Nat.le_trans c.n0 hmi) h)
end

/-! ### a def's contract -/
def fnEnd (np : Nat) (r : Rv) (e : List Sl) : Res Rv := match r with
  | .fz d => .ok (.fz d) (e.take np)
  | .nw c => .ok (.nw c) (e.take np)
  | .bor i => match e[i]? with
    | some (.fz d) => .ok (.fz d) (e.take np)
    | some (.own c) => if np ≤ i then .ok (.nw c) (e.take np) else .bad
    | _ => .bad
def fnD (np nl : Nat) (body : Dn Fl) : Dn Rv := fun sls => match body (sls ++ List.replicate nl .un) with
  | .ok .nx e => .ok (.fz .none) (e.take np)
  | .ok (.rt r) e => fnEnd np r e
  | .ex c e => .ex c (e.take np)
  | .bad => .bad
def cZ (K : PySem.W.Frag) (mg : Str → Option Value) (F B : Hp) (vs : List V) (E : XK) : Fx := ⟨K, mg, F, B, vs, fun _ c H' => ∀ C, mg c = some (.ref C) → E (.ref C) none H'⟩
def postF (Z : Fx) (vs : List V) (Q : VK) : Res Rv → Prop
  | .ok r sls' => ∀ v H' B', Rel Z B' sls' (vs.map some) H' → Val Z B' sls' (vs.map some) H' v r → Q v H'
  | .ex c sls' => ∀ H' B', Rel Z B' sls' (vs.map some) H' → Z.E [] c H'
  | .bad => False
def spOf (K : PySem.W.Frag) (mg : Str → Option Value) (n : Nat) (Ff : Dn Rv) : Sp := fun vs H Q E => vs.length = n ∧ ∃ F B sls, Rel (cZ K mg F B vs E) B sls (vs.map some) H ∧ postF (cZ K mg F B vs E) vs Q (Ff sls)
theorem Rel.take {Z : Fx} {B H : Hp} {env : List Sl} {σ : St} {vs : List V} (R : Rel Z B env σ H) (e : Z.vs0 = vs) (hl : vs.length ≤ env.length) : Rel Z B (env.take vs.length) (vs.map some) H := by
  have hσ : ∀ j, j < vs.length → σ[j]? = (vs.map some)[j]? := fun j hj => by
    rw [List.getElem?_map, List.getElem?_eq_getElem hj, R.arg j vs[j] (by rw [e]; exact List.getElem?_eq_getElem hj)]
    rfl
  have hlt : ∀ {j : Nat} {s : Sl}, (env.take vs.length)[j]? = some s → j < vs.length ∧ env[j]? = some s := fun {j s} h => by
    rw [List.getElem?_take] at h
    split at h
    · next q => exact ⟨q, h⟩
    · cases h
  refine ⟨R.bh, R.fh, R.b0, R.new, by rw [List.length_take, List.length_map]; omega, fun i v h => ?_, fun i s h => ?_, fun i j a c c' h1 h2 h3 h4 => ?_⟩
  · rw [e] at h; rw [List.getElem?_map, h]; rfl
  · obtain ⟨q1, q2⟩ := hlt h
    rw [← hσ i q1]
    exact R.slot i s q2
  · obtain ⟨q1, q2⟩ := hlt h1
    obtain ⟨q3, q4⟩ := hlt h2
    rw [← hσ i q1] at h3
    rw [← hσ j q3] at h4
    exact R.sep i j a c c' q2 q4 h3 h4
theorem fn_end {K : PySem.W.Frag} {mg : Str → Option Value} {F B0 : Hp} {vs : List V} {E : XK} {Q : VK} {np nl : Nat} {N : List Str} {d : Dn Fl} {H : Hp} {sls : List Sl} (hn : vs.length = np) (hl : N.length = np + nl)
    (R : Rel (cZ K mg F B0 vs E) B0 sls (vs.map some) H) (h : postF (cZ K mg F B0 vs E) vs Q (fnD np nl d sls)) : tDS (cZ K mg F B0 vs E) d { nx := fun _ H' => Q .non H', rt := Q } (L2.start N vs) H := by
  have hsl : sls.length = vs.length := by rw [R.len, List.length_map]
  have R0 : Rel (cZ K mg F B0 vs E) B0 (sls ++ List.replicate nl .un) (L2.start N vs) H := by
    unfold L2.start
    have hσ : ∀ j, j < vs.length → (vs.map some ++ List.replicate (N.length - vs.length) none)[j]? = (vs.map some)[j]? := fun j hj => List.getElem?_append_left (by rw [List.length_map]; exact hj)
    have hlt : ∀ {j : Nat} {s : Sl}, (sls ++ List.replicate nl Sl.un)[j]? = some s → (j < vs.length ∧ sls[j]? = some s) ∨ s = .un := fun {j s} h => by
      by_cases hj : j < sls.length
      · rw [List.getElem?_append_left hj] at h; exact .inl ⟨by omega, h⟩
      · rw [List.getElem?_append_right (by omega)] at h
        have := List.mem_of_getElem? h
        exact .inr (List.eq_of_mem_replicate this)
    refine ⟨R.bh, R.fh, R.b0, R.new, ?_, fun i v h => ?_, fun i s h => ?_, fun i j a c c' h1 h2 h3 h4 => ?_⟩
    · rw [List.length_append, List.length_append, List.length_replicate, List.length_replicate, List.length_map]; omega
    · have hi : i < vs.length := by
        obtain ⟨q, _⟩ := List.getElem?_eq_some_iff.mp h
        exact q
      rw [hσ i hi]
      exact R.arg i v h
    · rcases hlt h with ⟨q1, q2⟩ | rfl
      · rw [hσ i q1]; exact R.slot i s q2
      · trivial
    · rcases hlt h1 with ⟨q1, q2⟩ | z
      · rcases hlt h2 with ⟨q3, q4⟩ | z
        · rw [hσ i q1] at h3
          rw [hσ j q3] at h4
          exact R.sep i j a c c' q2 q4 h3 h4
        · cases z
      · cases z
  refine ⟨B0, _, R0, ?_⟩
  unfold fnD at h
  have hlen : ∀ {B' : Hp} {e : List Sl} {σ' : St} {H' : Hp}, Rel (cZ K mg F B0 vs E) B' e σ' H' → vs.length ≤ e.length := fun {B' e σ' H'} R' => by
    rw [R'.len]
    cases hv : vs.length with
    | zero => exact Nat.zero_le _
    | succ n =>
      have hv' : n < vs.length := by omega
      have := R'.arg n vs[n] (show vs[n]? = some vs[n] from List.getElem?_eq_getElem hv')
      obtain ⟨q, _⟩ := List.getElem?_eq_some_iff.mp this
      omega
  cases e : d (sls ++ List.replicate nl .un) with
  | ok f env' =>
    rw [e] at h
    cases f with
    | nx =>
      intro σ' H' B' s R'
      have q := R'.take (vs := vs) rfl (hlen R')
      rw [hn] at q
      exact h .non H' B' q .non
    | rt r =>
      intro v σ' H' B' s R' hv
      have q := R'.take (vs := vs) rfl (hlen R')
      rw [hn] at q
      have own : ∀ {a : Addr}, (∀ (i : Nat) (c' : Cell), env'[i]? = some (.own c') → i < np → σ'[i]? ≠ some (some (.ref a))) → ∀ (i : Nat) (c' : Cell), (env'.take np)[i]? = some (.own c') → (vs.map some)[i]? ≠ some (some (.ref a)) := fun {a} hh i c' h1 h2 => by
        rw [List.getElem?_take] at h1
        split at h1
        · next q =>
          refine hh i c' h1 q ?_
          rw [List.getElem?_map] at h2
          cases hvi : vs[i]? with
          | none => rw [hvi] at h2; cases h2
          | some u =>
            rw [hvi] at h2
            have h2 : some (some u) = some (some (V.ref a)) := h2
            rw [R'.arg i u hvi]
            exact h2
        · cases h1
      have h : postF (cZ K mg F B0 vs E) vs Q (fnEnd np r env') := h
      cases r with
      | fz x => exact h v H' B' q hv
      | nw c =>
        obtain ⟨a, rfl, g1, g2, g3, g4⟩ := hv
        exact h _ H' B' q ⟨a, rfl, g1, g2, g3, own fun i c' h1 _ => g4 i c' h1⟩
      | bor i =>
        have hv : σ'[i]? = some (some v) := hv
        unfold fnEnd at h
        dsimp only at h
        split at h
        · next x ex =>
          obtain ⟨u, u1, u2⟩ := R'.slot i _ ex
          rw [hv] at u1; cases u1
          exact h v H' B' q u2
        · next c ex =>
          split at h
          · next hi =>
            obtain ⟨a, u1, u2, u3, u4⟩ := R'.slot i _ ex
            rw [hv] at u1; cases u1
            refine h _ H' B' q ⟨a, rfl, u2, u3, u4, own fun j c' h1 h2 h3 => ?_⟩
            have := R'.sep j i a c' c h1 ex h3 hv
            omega
          · exact h.elim
        · exact h.elim
  | ex c env' =>
    rw [e] at h
    intro σ' H' B' s R'
    have q := R'.take (vs := vs) rfl (hlen R')
    rw [hn] at q
    exact h H' B' q
  | bad => rw [e] at h; exact h.elim
section
variable {P : Program} {w : World} {K : PySem.W.Frag} {mg : Str → Option Value} {base : Heap}
/-- a def keeps its contract -/
theorem fn_ok {x qual : Str} {st : Stmt} {f : Addr} {fd : FuncData} {N ps : List Str} {k : Nat} {np nl : Nat} {d : Dn Fl} (F : Fun K x qual st f fd) (S : FnScope N ps (defScope st))
    (body : ∀ (cdv : Value) (A : Around) (outer : List Env) (s : Shared) (H : Hp) (E : XK) (Z : Fx), Cok Z (cxOf (L2.CX P w) P w K mg base N qual (defScope st) f cdv A outer s H E) np k →
      PSs (cxOf (L2.CX P w) P w K mg base N qual (defScope st) f cdv A outer s H E) (defBody st) (tDS Z d)) (hps : ps.length = np := by rfl) (hN : N.length = np + nl := by rfl) : FnOk P w K mg base (L2.CX P w) (k + 1) f fd ps (spOf K mg np (fnD np nl d)) := by
  refine F.okX S (fun vs H Q E h => h.1.trans hps.symm) (fun cdv A outer s H vs Q E hr h => ?_)
  obtain ⟨hn, F0, B0, sls, R, h⟩ := h
  refine ⟨_, body cdv A outer s H E (cZ K mg F0 B0 vs E) ⟨rfl, rfl, rfl, S.nd, hr, ?_, passes_of rfl, Nat.le_of_eq hn⟩, fn_end hn hN R h⟩
  refine Takes.imp (takes_of rfl rfl rfl rfl) fun cls d σ H' ⟨c, C, h1, h2, h3, h4⟩ => ?_
  subst h1 h3
  exact h4 C h2
/-- a def that can be called by its name -/
structure Cal (P : Program) (w : World) (K : PySem.W.Frag) (mg : Str → Option Value) (base : Heap) (x : Str) (n lev : Nat) (Ff : Dn Rv) : Prop where
  ex : ∃ f fd ps, FnOk P w K mg base (L2.CX P w) lev f fd ps (spOf K mg n Ff) ∧ mg x = some (.ref f) ∧ PySem.W.keepIn K (.ref f) = true ∧ Binds K fd ps []
end
end DL

/-! D5: calls of own defs, raise, what is walked. -/
namespace DL
open PySem PySem.Spec PyProof.Rows L2

def slotOf (e : List Sl) : Rv → Option Sl
  | .fz d => some (.fz d)
  | .bor i => match e[i]? with
    | some (.fz d) => some (.fz d)
    | some (.own c) => some (.own c)
    | _ => none
  | .nw _ => none
def slotsOf (e : List Sl) : List Rv → Option (List Sl)
  | [] => some []
  | r :: rs => match slotOf e r with
    | none => none
    | some d => match slotsOf e rs with
      | none => none
      | some ds => some (d :: ds)
def borNot (i : Nat) : List Rv → Bool
  | [] => true
  | .bor j :: rs => !(i == j) && borNot i rs
  | _ :: rs => borNot i rs
def noTwice : List Rv → Bool
  | [] => true
  | .bor i :: rs => borNot i rs && noTwice rs
  | _ :: rs => noTwice rs
def back (e : List Sl) : List Rv → List Sl → List Sl
  | .bor i :: rs, s :: ss => back (e.set i s) rs ss
  | _ :: rs, _ :: ss => back e rs ss
  | _, _ => e
def dCl (Ff : Dn Rv) (rs : List Rv) : Dn Rv := fun e => if noTwice rs = true then match slotsOf e rs with
    | none => .bad
    | some sls => match Ff sls with
      | .ok (.fz d) sls' => .ok (.fz d) (back e rs sls')
      | .ok (.nw c) sls' => .ok (.nw c) (back e rs sls')
      | .ok (.bor _) _ => .bad
      | .ex c sls' => .ex c (back e rs sls')
      | .bad => .bad
  else .bad
def dCall (Ff : Dn Rv) (das : List (Dn Rv)) : Dn Rv := bnd (dArgs das) fun rs => dCl Ff rs

theorem borNot_get {i : Nat} : ∀ {rs : List Rv} {k : Nat}, borNot i rs = true → rs[k]? ≠ some (.bor i)
  | [], k, _ => by simp
  | .bor j :: rs, 0, h => by
    intro z
    have z : Rv.bor j = Rv.bor i := Option.some.inj z
    cases z
    unfold borNot at h
    simp at h
  | .bor j :: rs, k + 1, h => by
    unfold borNot at h
    simp only [Bool.and_eq_true] at h
    rw [List.getElem?_cons_succ]
    exact borNot_get h.2
  | .fz d :: rs, 0, h => by intro z; cases Option.some.inj z
  | .fz d :: rs, k + 1, h => by rw [List.getElem?_cons_succ]; exact borNot_get (rs := rs) h
  | .nw d :: rs, 0, h => by intro z; cases Option.some.inj z
  | .nw d :: rs, k + 1, h => by rw [List.getElem?_cons_succ]; exact borNot_get (rs := rs) h
theorem noTwice_get {i : Nat} : ∀ {rs : List Rv} {k k' : Nat}, noTwice rs = true → rs[k]? = some (.bor i) → rs[k']? = some (.bor i) → k = k'
  | [], k, k', _, h, _ => by simp at h
  | r :: rs, 0, 0, _, _, _ => rfl
  | r :: rs, 0, k' + 1, h, h1, h2 => by
    have h1 : r = .bor i := Option.some.inj h1
    subst h1
    unfold noTwice at h
    simp only [Bool.and_eq_true] at h
    rw [List.getElem?_cons_succ] at h2
    exact (borNot_get h.1 h2).elim
  | r :: rs, k + 1, 0, h, h1, h2 => by
    have h2 : r = .bor i := Option.some.inj h2
    subst h2
    unfold noTwice at h
    simp only [Bool.and_eq_true] at h
    rw [List.getElem?_cons_succ] at h1
    exact (borNot_get h.1 h1).elim
  | r :: rs, k + 1, k' + 1, h, h1, h2 => by
    rw [List.getElem?_cons_succ] at h1 h2
    have h' : noTwice rs = true := by
      cases r with
      | bor j => unfold noTwice at h; simp only [Bool.and_eq_true] at h; exact h.2
      | fz d => exact h
      | nw d => exact h
    rw [noTwice_get h' h1 h2]
theorem StAll.length {Z : Fx} {B : Hp} {σ : St} : ∀ {vs : List V} {rs : List Rv}, StAll Z B σ vs rs → vs.length = rs.length
  | _, _, .nil => rfl
  | _, _, .cons _ t => congrArg (· + 1) (StAll.length t)
theorem StAll.get {Z : Fx} {B : Hp} {σ : St} : ∀ {vs : List V} {rs : List Rv} {k : Nat} {r : Rv}, StAll Z B σ vs rs → rs[k]? = some r → ∃ v, vs[k]? = some v ∧ StV Z B σ v r
  | _, _, _, _, .nil, h => by simp at h
  | _, _, 0, _, .cons h _, e => by cases Option.some.inj e; exact ⟨_, rfl, h⟩
  | _, _, k + 1, _, .cons _ t, e => by
    rw [List.getElem?_cons_succ] at e
    obtain ⟨v, h1, h2⟩ := StAll.get t e
    exact ⟨v, by rw [List.getElem?_cons_succ]; exact h1, h2⟩
theorem slotsOf_get {e : List Sl} : ∀ {rs : List Rv} {sls : List Sl}, slotsOf e rs = some sls → sls.length = rs.length ∧ ∀ (k : Nat) (s : Sl), sls[k]? = some s → ∃ r, rs[k]? = some r ∧ slotOf e r = some s
  | [], _, h => by cases h; exact ⟨rfl, fun k s h => by simp at h⟩
  | r :: rs, sls, h => by
    unfold slotsOf at h
    cases e1 : slotOf e r with
    | none => rw [e1] at h; cases h
    | some d =>
      rw [e1] at h
      cases e2 : slotsOf e rs with
      | none => rw [e2] at h; cases h
      | some ds =>
        rw [e2] at h
        cases h
        obtain ⟨h1, h2⟩ := slotsOf_get e2
        refine ⟨by rw [List.length_cons, List.length_cons, h1], fun k s hs => ?_⟩
        cases k with
        | zero => cases Option.some.inj hs; exact ⟨r, rfl, e1⟩
        | succ k => rw [List.getElem?_cons_succ] at hs ⊢; exact h2 k s hs
theorem back_length : ∀ {rs : List Rv} {ss : List Sl} {e : List Sl}, (back e rs ss).length = e.length
  | [], ss, _ => by cases ss <;> rfl
  | .bor i :: rs, [], _ => rfl
  | .bor i :: rs, s :: ss, e => by unfold back; rw [back_length, List.length_set]
  | .fz d :: rs, [], _ => rfl
  | .fz d :: rs, s :: ss, e => by unfold back; exact back_length
  | .nw d :: rs, [], _ => rfl
  | .nw d :: rs, s :: ss, e => by unfold back; exact back_length
theorem back_get : ∀ {rs : List Rv} {ss : List Sl} {e : List Sl} {i : Nat} {s : Sl}, rs.length = ss.length → (back e rs ss)[i]? = some s →
    (∃ k : Nat, rs[k]? = some (.bor i) ∧ ss[k]? = some s) ∨ ((∀ k : Nat, rs[k]? ≠ some (.bor i)) ∧ e[i]? = some s)
  | [], ss, _, _, _, _, h => .inr ⟨fun k => by simp, by cases ss <;> exact h⟩
  | .bor j :: rs, [], _, _, _, hl, _ => by cases hl
  | .fz j :: rs, [], _, _, _, hl, _ => by cases hl
  | .nw j :: rs, [], _, _, _, hl, _ => by cases hl
  | .bor j :: rs, t :: ss, e, i, s, hl, h => by
    unfold back at h
    rcases back_get (by simpa using hl) h with ⟨k, h1, h2⟩ | ⟨h1, h2⟩
    · exact .inl ⟨k + 1, by rw [List.getElem?_cons_succ]; exact h1, by rw [List.getElem?_cons_succ]; exact h2⟩
    · by_cases hj : j = i
      · subst hj
        have hl' : j < e.length := by
          obtain ⟨q, _⟩ := List.getElem?_eq_some_iff.mp h2
          simpa using q
        rw [List.getElem?_set_self hl'] at h2
        exact .inl ⟨0, rfl, h2⟩
      · rw [List.getElem?_set_ne hj] at h2
        refine .inr ⟨fun k => ?_, h2⟩
        cases k with
        | zero => intro z; cases Option.some.inj z; exact hj rfl
        | succ k => rw [List.getElem?_cons_succ]; exact h1 k
  | .fz d :: rs, t :: ss, e, i, s, hl, h => by
    unfold back at h
    rcases back_get (by simpa using hl) h with ⟨k, h1, h2⟩ | ⟨h1, h2⟩
    · exact .inl ⟨k + 1, by rw [List.getElem?_cons_succ]; exact h1, by rw [List.getElem?_cons_succ]; exact h2⟩
    · refine .inr ⟨fun k => ?_, h2⟩
      cases k with
      | zero => intro z; cases Option.some.inj z
      | succ k => rw [List.getElem?_cons_succ]; exact h1 k
  | .nw d :: rs, t :: ss, e, i, s, hl, h => by
    unfold back at h
    rcases back_get (by simpa using hl) h with ⟨k, h1, h2⟩ | ⟨h1, h2⟩
    · exact .inl ⟨k + 1, by rw [List.getElem?_cons_succ]; exact h1, by rw [List.getElem?_cons_succ]; exact h2⟩
    · refine .inr ⟨fun k => ?_, h2⟩
      cases k with
      | zero => intro z; cases Option.some.inj z
      | succ k => rw [List.getElem?_cons_succ]; exact h1 k
/-- the frame that a callee gets: all but the cells that are handed over -/
noncomputable def frameOf (H : Hp) (sls : List Sl) (vs : List V) : Hp := fun a => open Classical in if ∃ (k : Nat) (c : Cell), sls[k]? = some (.own c) ∧ vs[k]? = some (.ref a) then none else H a
section
variable {Z : Fx} {B H : Hp} {env : List Sl} {σ : St} {vs : List V} {rs : List Rv} {sls : List Sl}
theorem frame_same : Same (frameOf H sls vs) H := fun a o h => by
  unfold frameOf at h
  split at h
  · cases h
  · exact h
theorem frame_in {a : Addr} {k : Nat} {c : Cell} (h1 : sls[k]? = some (.own c)) (h2 : vs[k]? = some (.ref a)) : frameOf H sls vs a = none := by
  unfold frameOf
  rw [if_pos ⟨k, c, h1, h2⟩]
theorem frame_out {a : Addr} (h : ¬ ∃ (k : Nat) (c : Cell), sls[k]? = some (.own c) ∧ vs[k]? = some (.ref a)) : frameOf H sls vs a = H a := by
  unfold frameOf
  rw [if_neg h]
theorem own_of (hv : StAll Z B σ vs rs) (hs : slotsOf env rs = some sls) {k : Nat} {c : Cell} (h : sls[k]? = some (.own c)) : ∃ i v, rs[k]? = some (.bor i) ∧ env[i]? = some (.own c) ∧ vs[k]? = some v ∧ σ[i]? = some (some v) := by
  obtain ⟨_, g⟩ := slotsOf_get hs
  obtain ⟨r, h1, h2⟩ := g k _ h
  cases r with
  | fz d => cases h2
  | nw c => cases h2
  | bor i =>
    unfold slotOf at h2
    dsimp only at h2
    split at h2
    · cases h2
    · next c' e =>
      cases h2
      obtain ⟨v, h3, h4⟩ := hv.get h1
      exact ⟨i, v, h1, e, h3, h4⟩
    · cases h2
theorem callee_rel (E : XK) (R : Rel Z B env σ H) (hv : StAll Z B σ vs rs) (hn : noTwice rs = true) (hs : slotsOf env rs = some sls) : Rel (cZ Z.K Z.mg (frameOf H sls vs) B vs E) B sls (vs.map some) H := by
  obtain ⟨hl, g⟩ := slotsOf_get hs
  refine ⟨R.bh, frame_same, .refl _, fun a o h => .inl h, by rw [hl, List.length_map, hv.length], fun i v h => ?_, fun k s h => ?_, fun k k' a c c' h1 h2 h3 h4 => ?_⟩
  · have h : vs[i]? = some v := h
    rw [List.getElem?_map, h]; rfl
  · cases s with
    | un => trivial
    | own c =>
      obtain ⟨i, v, h1, h2, h3, h4⟩ := own_of hv hs h
      obtain ⟨a, g1, g2, g3, g4⟩ := R.slot i _ h2
      rw [h4] at g1; cases g1
      refine ⟨a, by rw [List.getElem?_map, h3]; rfl, g2, frame_in h h3, g4.of rfl rfl⟩
    | fz d =>
      obtain ⟨r, h1, h2⟩ := g k _ h
      obtain ⟨v, h3, h4⟩ := hv.get h1
      refine ⟨v, by rw [List.getElem?_map, h3]; rfl, ?_⟩
      cases r with
      | fz d' => cases h2; exact h4
      | nw c => cases h2
      | bor i =>
        unfold slotOf at h2
        dsimp only at h2
        split at h2
        · next d' e =>
          cases h2
          obtain ⟨u, g1, g2⟩ := R.slot i _ e
          have h4 : σ[i]? = some (some v) := h4
          rw [h4] at g1; cases g1
          exact g2
        · cases h2
        · cases h2
  · obtain ⟨i, v, a1, a2, a3, a4⟩ := own_of hv hs h1
    obtain ⟨j, u, b1, b2, b3, b4⟩ := own_of hv hs h2
    rw [List.getElem?_map, a3] at h3
    rw [List.getElem?_map, b3] at h4
    have h3 : some (some v) = some (some (V.ref a)) := h3
    have h4 : some (some u) = some (some (V.ref a)) := h4
    cases h3
    cases h4
    have := R.sep i j a c c' a2 b2 a4 b4
    subst this
    exact noTwice_get hn a1 b1
theorem caller_rel {E : XK} {B' H' : Hp} {sls' : List Sl} (R : Rel Z B env σ H) (hv : StAll Z B σ vs rs) (hn : noTwice rs = true) (hs : slotsOf env rs = some sls) (R' : Rel (cZ Z.K Z.mg (frameOf H sls vs) B vs E) B' sls' (vs.map some) H') :
    Same B B' ∧ Rel Z B' (back env rs sls') σ H' ∧ ∀ (v : V) (r : Rv), (∀ i, r ≠ .bor i) → Val (cZ Z.K Z.mg (frameOf H sls vs) B vs E) B' sls' (vs.map some) H' v r → Val Z B' (back env rs sls') σ H' v r := by
  have hl' : rs.length = sls'.length := by rw [R'.len, List.length_map, hv.length]
  have sB : Same B B' := R'.b0
  -- the caller's frame lies in the callee's
  have sF : Same Z.F (frameOf H sls vs) := fun a o h => by
    rw [frame_out, R.fh _ _ h]
    rintro ⟨k, c, h1, h2⟩
    obtain ⟨i, v, a1, a2, a3, a4⟩ := own_of hv hs h1
    obtain ⟨b, g1, g2, g3, g4⟩ := R.slot i _ a2
    rw [h2] at a3; cases a3
    rw [a4] at g1; cases g1
    rw [h] at g3; cases g3
  -- a slot that is not handed over
  have keep : ∀ (i : Nat) (c : Cell) (a : Addr), (∀ k : Nat, rs[k]? ≠ some (.bor i)) → env[i]? = some (.own c) → σ[i]? = some (some (.ref a)) → frameOf H sls vs a = H a := fun i c a h1 h2 h3 => frame_out (by
    rintro ⟨k, c', q1, q2⟩
    obtain ⟨j, v, a1, a2, a3, a4⟩ := own_of hv hs q1
    rw [q2] at a3; cases a3
    have := R.sep i j a c c' h2 a2 h3 a4
    subst this
    exact h1 k a1)
  have same : ∀ (k i : Nat) , rs[k]? = some (.bor i) → (vs.map some)[k]? = σ[i]? := fun k i h => by
    obtain ⟨v, h1, h2⟩ := hv.get h
    have h2 : σ[i]? = some (some v) := h2
    rw [List.getElem?_map, h1, h2]; rfl
  refine ⟨sB, ⟨R'.bh, sF.trans R'.fh, R.b0.trans sB, fun a o h => ?_, by rw [back_length]; exact R.len, R.arg, fun i s h => ?_, fun i j a c c' h1 h2 h3 h4 => ?_⟩, fun v r hr q => ?_⟩
  · rcases R'.new a o h with q | q
    · exact R.new a o q
    · exact .inr (sF.free q)
  · rcases back_get hl' h with ⟨k, q1, q2⟩ | ⟨q1, q2⟩
    · have q := R'.slot k s q2
      rw [same k i q1] at q
      cases s with
      | un => trivial
      | fz d => exact q
      | own c =>
        obtain ⟨a, g1, g2, g3, g4⟩ := q
        exact ⟨a, g1, g2, sF.free g3, g4.of rfl rfl⟩
    · have q := R.slot i s q2
      cases s with
      | un => trivial
      | fz d => obtain ⟨v, g1, g2⟩ := q; exact ⟨v, g1, Da.mono sB _ g2⟩
      | own c =>
        obtain ⟨a, g1, g2, g3, g4⟩ := q
        have ka := keep i c a q1 q2 g1
        refine ⟨a, g1, ?_, g3, g4.mono sB fun o e => R'.fh a o (by rw [← ka] at e; exact e)⟩
        cases e : B' a with
        | none => rfl
        | some o =>
          rcases R'.new a o e with z | z
          · have z : B a = some o := z
            rw [g2] at z; cases z
          · obtain ⟨u, hu⟩ := g4.there
            have z : frameOf H sls vs a = none := z
            rw [ka, hu] at z; cases z
  · rcases back_get hl' h1 with ⟨k, q1, q2⟩ | ⟨q1, q2⟩
    · rcases back_get hl' h2 with ⟨k', q3, q4⟩ | ⟨q3, q4⟩
      · have := R'.sep k k' a c c' q2 q4 (by rw [same k i q1]; exact h3) (by rw [same k' j q3]; exact h4)
        subst this
        rw [q1] at q3
        cases q3
        rfl
      · exfalso
        obtain ⟨b, g1, g2, g3, g4⟩ := R'.slot k _ q2
        rw [same k i q1, h3] at g1; cases g1
        obtain ⟨b', p1, p2, p3, p4⟩ := R.slot j _ q4
        rw [h4] at p1; cases p1
        have ka := keep j c' a q3 q4 h4
        obtain ⟨u, hu⟩ := p4.there
        have g3 : frameOf H sls vs a = none := g3
        rw [ka, hu] at g3; cases g3
    · rcases back_get hl' h2 with ⟨k', q3, q4⟩ | ⟨q3, q4⟩
      · exfalso
        obtain ⟨b, g1, g2, g3, g4⟩ := R'.slot k' _ q4
        rw [same k' j q3, h4] at g1; cases g1
        obtain ⟨b', p1, p2, p3, p4⟩ := R.slot i _ q2
        rw [h3] at p1; cases p1
        have ka := keep i c a q1 q2 h3
        obtain ⟨u, hu⟩ := p4.there
        have g3 : frameOf H sls vs a = none := g3
        rw [ka, hu] at g3; cases g3
      · exact R.sep i j a c c' q2 q4 h3 h4
  · cases r with
    | fz d => exact q
    | bor i => exact (hr i rfl).elim
    | nw c =>
      obtain ⟨a, rfl, g1, g2, g3, g4⟩ := q
      refine ⟨a, rfl, g1, sF.free g2, g3.of rfl rfl, fun i c' h1 h3 => ?_⟩
      rcases back_get hl' h1 with ⟨k, q1, q2⟩ | ⟨q1, q2⟩
      · exact g4 k c' q2 (by rw [same k i q1]; exact h3)
      · obtain ⟨b', p1, p2, p3, p4⟩ := R.slot i _ q2
        rw [h3] at p1; cases p1
        have ka := keep i c' a q1 q2 h3
        obtain ⟨u, hu⟩ := p4.there
        have g2 : frameOf H sls vs a = none := g2
        rw [ka, hu] at g2; cases g2
end
/-- the callee's promise, from the caller's wish -/
theorem cl_sp {Z : Fx} {B H : Hp} {env : List Sl} {σ : St} {vs : List V} {rs : List Rv} {Ff : Dn Rv} {Q : VK} {n : Nat} (hn : vs.length = n) (R : Rel Z B env σ H) (hv : StAll Z B σ vs rs) (h : post Z σ B (fun B env H v r => Val Z B env σ H v r) Q (dCl Ff rs env)) :
    spOf Z.K Z.mg n Ff vs H Q (EX Z σ) := by
  unfold dCl at h
  split at h
  · next ht =>
    cases e : slotsOf env rs with
    | none => rw [e] at h; exact h.elim
    | some sls =>
      rw [e] at h
      refine ⟨hn, frameOf H sls vs, B, sls, callee_rel _ R hv ht e, ?_⟩
      dsimp only at h
      cases e2 : Ff sls with
      | ok r sls' =>
        rw [e2] at h
        intro v H' B' R' hr
        obtain ⟨sB, R2, vr⟩ := caller_rel R hv ht e R'
        cases r with
        | fz d => exact h v H' B' sB R2 (vr v _ (fun i z => nomatch z) hr)
        | nw c => exact h v H' B' sB R2 (vr v _ (fun i z => nomatch z) hr)
        | bor i => exact h.elim
      | ex c sls' =>
        rw [e2] at h
        intro H' B' R' C hC
        obtain ⟨sB, R2, vr⟩ := caller_rel R hv ht e R'
        exact ⟨c, C, rfl, hC, rfl, h H' B' sB R2⟩
      | bad => rw [e2] at h; exact h.elim
  · exact h.elim
theorem dArgs_len : ∀ (ds : List (Dn Rv)) (env : List Sl) (rs : List Rv) (env' : List Sl), dArgs ds env = .ok rs env' → rs.length = ds.length := by
  intro ds
  induction ds with
  | nil => intro env xs env' e; cases e; rfl
  | cons d ds ih =>
    intro env xs env' e
    unfold dArgs at e
    obtain ⟨r, e1, h1, e⟩ := bnd_ok e
    obtain ⟨r', e2, h2, e⟩ := bnd_ok e
    obtain ⟨rs, e3, h3, e⟩ := bnd_ok e
    cases e
    rw [List.length_cons, List.length_cons, ih _ _ _ h3]
section
variable {X : Cx} {Z : Fx} {pos p : Pos} {m k : Nat}
theorem call_of {Ff : Dn Rv} {das : List (Dn Rv)} {σ : St} {H : Hp} {Q : VK} (h : tD Z (dCall Ff das) σ H Q) : tA Z das σ H fun vs H1 => spOf Z.K Z.mg das.length Ff vs H1 Q (EX Z σ) := by
  obtain ⟨B, env, R, h⟩ := h
  refine ⟨B, env, R, ?_⟩
  have h := post.bnd (Vl1 := fun B _ _ vs rs => StAll Z B σ vs rs) h
  cases e : dArgs das env with
  | ok rs env' =>
    rw [e] at h
    intro vs H1 B1 s R1 q
    obtain ⟨B2, env2, rs2, s2, R2, q2, p2⟩ := h vs H1 B1 s R1 q
    have hl : vs.length = das.length := by rw [q.length]; exact dArgs_len das env rs env' e
    exact cl_sp hl R2 q2 p2
  | ex c env' => rw [e] at h; exact h
  | bad => rw [e] at h; exact h
theorem d_call {x : Str} {e : Expr} {es : List Expr} {das : List (Dn Rv)} {Ff : Dn Rv} {n lev : Nat} (c : Cok Z X m k) (F : Cal X.prog X.w X.K X.mg X.base x n lev Ff) (ha : PA X (e :: es) (tA Z das)) (hlev : lev ≤ k := by decide) (hn : das.length = n := by rfl) (hg : Gl X x := by rfl)
    (hdb : (x == ("__debug__" : Str)) = false := by decide) (he : starEach (e :: es) X.env = (false, eval e X.env) :: starEach es X.env := by rfl) (hpl : (backTo pos (starEach es X.env)).any (·.1) = false := by rfl) : PE X (.Call (.Name x p) (e :: es) [] pos) (tD Z (dCall Ff das)) := by
  obtain ⟨f, fd, ps, G, gm, gk, gb⟩ := F.ex
  refine PE_imp (pe_callS G (c.room.mono hlev) hg gm gk gb (fun σ => passAt c.takes σ) ha hdb he hpl) fun σ H Q h => ?_
  have h := call_of h
  rw [hn, ← c.hK, ← c.hmg] at h
  exact h
theorem pe_callS0 {x : Str} {CX : CXT} {f : Addr} {fd : FuncData} {ps : List Str} {sp : Sp} {E : St → XK} {lev : Nat} (F : FnOk X.prog X.w X.K X.mg X.base CX lev f fd ps sp) (hr : Room lev X.A) (hg : Gl X x) (hm : X.mg x = some (.ref f)) (hk : PySem.W.keepIn X.K (.ref f) = true) (hb : Binds X.K fd ps []) (hx : ∀ σ, PassesAt CX X σ (E σ))
    (hdb : (x == ("__debug__" : Str)) = false := by decide) : PE X (.Call (.Name x p) [] [] pos) (fun σ H Q => sp [] H Q (E σ)) := by
  refine ⟨fun pins s σ H Q I h => ?_⟩
  refine wpAny_Call_Name_kw (ld_glob I hg hm ?_ hdb)
  exact PySem.W.callWith_K0 I.kIn hk (run_fnS (us := []) F hr hb (hx σ) I .nil h)
theorem d_call0 {x : Str} {Ff : Dn Rv} {lev : Nat} (c : Cok Z X m k) (F : Cal X.prog X.w X.K X.mg X.base x 0 lev Ff) (hlev : lev ≤ k := by decide) (hg : Gl X x := by rfl)
    (hdb : (x == ("__debug__" : Str)) = false := by decide) : PE X (.Call (.Name x p) [] [] pos) (tD Z (dCall Ff [])) := by
  obtain ⟨f, fd, ps, G, gm, gk, gb⟩ := F.ex
  refine PE_imp (pe_callS0 G (c.room.mono hlev) hg gm gk gb (fun σ => passAt c.takes σ) hdb) fun σ H Q h => ?_
  obtain ⟨B, env, R, h⟩ := h
  have h : post Z σ B (fun B env H v r => Val Z B env σ H v r) Q (dCl Ff [] env) := h
  have q := cl_sp (n := 0) rfl R .nil h
  rw [← c.hK, ← c.hmg] at q
  exact q

/-! ### raise -/
def dRaise (c : Str) : Dn Fl := fun e => .ex c e
/-- an exception class of the text -/
structure ExcF (K : PySem.W.Frag) (mg : Str → Option Value) (x : Str) : Prop where
  ex : ∃ C, mg x = some (.ref C) ∧ PySem.W.excIn K C [.type "ValueError", .type "Exception", .type "BaseException", .type "object"] "ValueError.__new__" = true ∧ PySem.W.keepIn K (.ref C) = true ∧
    PySem.W.subIn K (.ref C) (.type "BaseException") = some true ∧ PySem.W.typeIn K (.ref C) = some (.type "type")
theorem s_raise {x t : Str} {j : Nat} {p p2 p3 pos : Pos} (c : Cok Z X m k) (F : ExcF X.K X.mg x) (hg : Gl X x := by rfl) (hdb : (x == ("__debug__" : Str)) = false := by decide) : PS X (.Raise (some (.Call (.Name x p) [.Constant (.str t) j p2] [] p3)) none pos) (tDS Z (dRaise x)) := by
  obtain ⟨C, gC, xC, kC, bC, tC⟩ := F.ex
  refine PS_imp (ps_raise c.calm c.takes (pmk_own PySem.F.excBase_ValueError xC gC kC (raises_own bC tC) hg hdb)) fun D σ H ⟨B, env, R, h⟩ => ?_
  exact ⟨x, C, rfl, by rw [← c.hmg]; exact gC, rfl, h σ H B (.refl _) R⟩
end
end DL

/-! D6: what is walked: lists, tuples, texts, ranges, enumerate, zip. -/
namespace DL
open PySem PySem.Spec PyProof.Rows L2

/-! ### enumerate(tuple) -/
theorem meets_enum1 {v : Value} {o : Obj} {H : Heap → Prop} (B : Begins v o H) :
    Meets (Builtin.«enumerate.__new__» ⟨[.type "enumerate", v], []⟩) (fun _ R s => H s.heap ∧
      R (.ok (.ret (.ref (s.heap.push o).objs.size))) { s with heap := (s.heap.push o).push { cls := .type "enumerate", data := .fields #[.none, .bool false, .ref s.heap.objs.size, rawInt 0, .none, .none] } }) :=
  .of_wp fun prog w A R s h => by
    obtain ⟨hp, g, d, tk, os⟩ := s; obtain ⟨h1, h⟩ := h
    have hsub := sub_enumerate
    have q1 : ∀ {A' : Around} {E : Value → Shared → Prop} {Q : Value → Shared → Prop}, Q (.ref hp.objs.size) ⟨hp.push o, g, d, tk, os⟩ → wpAny (model prog w) A' (pyIter v) Q E ⟨hp, g, d, tk, os⟩ :=
      fun q => B.iter prog w _ _ ⟨hp, g, d, tk, os⟩ _ h1 q
    wp_walk using q1
    refine wpAny_stack_any fun st => wpAny_pure ?_
    split
    · rename_i c _ _ _ _ _
      cases (c == Value.type "enumerate")
      · wp_walk using q1
        exact ⟨_, rfl, h⟩
      · wp_walk using q1
        exact ⟨_, rfl, h⟩
    · wp_walk using q1
      exact ⟨_, rfl, h⟩
theorem call_enum1 {prog : Program} {w : World} {A : Around} {E : Value → Shared → Prop} {s : Shared} {v : Value} {o : Obj} {H : Heap → Prop} {Q : Value → Shared → Prop} (B : Begins v o H) (h1 : H s.heap)
    (h : ∀ h', IsEnum h' (s.heap.objs.size + 1) s.heap.objs.size 0 .none → h'.get? s.heap.objs.size = some o → h'.objs.size = s.heap.objs.size + 2 →
      (∀ b o, s.heap.get? b = some o → h'.get? b = some o) → Q (.ref (s.heap.objs.size + 1)) { s with heap := h' }) :
    wpAny (model prog w) A (call (.type "enumerate") [v]) Q E s := by
  refine callType_new F.called_enumerate (by decide) (F.typeCall_enumerate_1 _) (F.newCall_enumerate_1 _) (fun obj => F.args_object_init_2 obj _) F.entry_enumerate_new
    (meets_enum1 B) ⟨h1, ?_⟩
  have hz : (s.heap.push o).objs.size = s.heap.objs.size + 1 := Heap.size_push ..
  show _ ∧ _
  rw [hz]
  have he : IsEnum ((s.heap.push o).push
      { cls := .type "enumerate", data := .fields #[.none, .bool false, .ref s.heap.objs.size, rawInt 0, .none, .none] }) (s.heap.objs.size + 1) s.heap.objs.size 0 .none := by
    have := Heap.get?_push_size (s.heap.push o)
      (o := { cls := .type "enumerate", data := .fields #[.none, .bool false, .ref s.heap.objs.size, rawInt 0, .none, .none] }) rfl
    rw [hz] at this; exact this
  refine ⟨⟨_, he, rfl⟩, h _ he (Heap.get?_push_of_some _ (Heap.get?_push_size _ B.free)) (by rw [Heap.size_push, hz]) fun b o y => Heap.get?_push_of_some _ (Heap.get?_push_of_some _ y)⟩
def IteT (K : PySem.W.Frag) (a : Addr) : It :=
  ⟨fun i H => ∃ (xs : List V) (x : V), SqT K H a xs ∧ xs[i]? = some x, fun i H v H' => ∃ T x o, v = .ref T ∧ TO o ∧ H T = none ∧ H' = upd H T (.frz o (.tup [.int (i : Nat), x])) ∧ ∀ xs, SqT K H a xs → xs[i]? = some x, fun i H => ∃ xs : List V, SqT K H a xs ∧ xs.length = i⟩
theorem turn_enumT {P : Program} {w : World} {K : PySem.W.Frag} {elts : List Expr} {kk : Nat} {tpos : Pos} (a e it : Addr) (hae : a ≠ e) (hai : a ≠ it) :
    Turn P w K (.Tuple elts kk tpos) (IteT K a) [e, it] e (fun i h => (∃ old, IsEnum h e it ((i : Nat) : Int) old) ∧ h.IsTupleIter it a i ∧ e ≠ it) where
  mem := by simp
  obj := fun i h st b hb => by
    obtain ⟨⟨old, he⟩, ⟨o, ho, hc, hd⟩, _⟩ := st
    have e' : b = e ∨ b = it := by simpa using hb
    rcases e' with z | z
    · rw [z]; exact ⟨_, he, fun v q => nomatch q⟩
    · rw [z]; exact ⟨o, ho, fun v q => by rw [hd] at q; cases q⟩
  keep := fun i h h' st k => let ⟨⟨old, he⟩, hi, hne⟩ := st; ⟨⟨old, k e (by simp) _ he⟩, hi.at fun o q => k it (by simp) o q, hne⟩
  item := by
    intro X hP hw hK hc i pins s σ H E I hf st hg
    subst hP hw hK
    obtain ⟨⟨old, he⟩, hit, hne⟩ := st
    obtain ⟨xs, x, hq, hx⟩ := hg
    obtain ⟨its, rv, p, hz⟩ := I.tuple hq
    obtain ⟨u, hu, ru⟩ := rv.get hx
    have hel : e < s.heap.objs.size := Heap.lt_size he
    have hil : it < s.heap.objs.size := by obtain ⟨_, q, _⟩ := hit; exact Heap.lt_size q
    have hlt : i < its.toArray.size := by
      obtain ⟨q, _⟩ := List.getElem?_eq_some_iff.mp hu
      simpa using q
    have D := Draws.tuple (prog := X.prog) (w := X.w) (A := X.A.in1) (I.ok.hd hc) it a hai its.toArray
    refine wpAny_pyNext_enum_itemC (i := i) D he ⟨hit, p⟩ hlt hne (by simp [Ne.symm hae, hne]) fun u' h' tk hu' ho hs' hT hsz hk => ?_
    have eu : u' = u := by
      have hu' : its.toArray[i]? = some u' := hu'
      rw [List.getElem?_toArray, hu] at hu'
      exact (Option.some.inj hu').symm
    subst eu
    refine ⟨_, rfl, wpAny_letOwnedTupleGo_enum (s := { s with heap := h', toks := tk + 1 }) ho fun h'' he' sb => ?_⟩
    have hT2 : h''.get? s.heap.objs.size = some { cls := .type "tuple", data := .seq #[.int i tk, u'] } := (sb.2 _ (Nat.ne_of_gt hel)).trans hT
    have new : ObjOk X.prog X.w (upd H s.heap.objs.size (.frz { cls := .type "tuple", data := .seq #[.int i tk, u'] } (.tup [.int (i : Nat), x]))) h'' s.heap.objs.size (.frz { cls := .type "tuple", data := .seq #[.int i tk, u'] } (.tup [.int (i : Nat), x])) :=
      ⟨hT2, by show 2 ≤ sizeLine; decide, [.int i tk, u'], .cons ⟨_, rfl⟩ (.cons ru .nil), ⟨_, hT2, rfl, _, rfl⟩⟩
    have I1 : Inv X pins σ (upd H s.heap.objs.size (.frz { cls := .type "tuple", data := .seq #[.int i tk, u'] } (.tup [.int (i : Nat), x]))) { s with heap := h'', toks := tk + 1 } :=
      I.turnedNew (ch := [e, it]) (fun b ob hb q => (sb.2 b (fun z => hb (by simp [z]))).trans (hk b ob (fun z => hb (by simp [z])) (fun z => hb (by simp [z])) q)) hf (Nat.le_refl _) new
    refine ⟨.ref s.heap.objs.size, _, I1, rfl, ⟨_, x, _, rfl, ⟨rfl, rfl⟩, I.hok.fresh (Nat.le_refl _), rfl, fun ys hy => by rw [I.tuple_inj hy hq]; exact hx⟩, ⟨⟨u', ?_⟩, hs'.1.at fun o q => (sb.2 it (Ne.symm hne)).trans q, hne⟩, fun b hb => ?_⟩
    · have e1 : ((i + 1 : Nat) : Int) = (i : Int) + 1 := by omega
      rw [e1]; exact he'
    · have hb' : b < s.heap.objs.size := by
        have e' : b = e ∨ b = it := by simpa using hb
        rcases e' with z | z
        · rw [z]; exact hel
        · rw [z]; exact hil
      rw [upd_ne (Nat.ne_of_lt hb')]
      exact (hf b hb).1
  done := by
    intro X hP hw hK hc i pins s σ H E I hf st hg
    subst hP hw hK
    obtain ⟨⟨old, he⟩, hit, hne⟩ := st
    obtain ⟨xs, hq, hx⟩ := hg
    obtain ⟨its, rv, p, hz⟩ := I.tuple hq
    obtain ⟨f0, f1, f2, f3, f4, f5⟩ := hf it (by simp)
    have hl := rv.length
    have D := Draws.tuple (prog := X.prog) (w := X.w) (A := X.A.in1) (I.ok.hd hc) it a hai its.toArray
    have e9 : its.toArray.size = i := by rw [List.size_toArray]; omega
    exact wpAny_pyNext_enum_endD D he (by rw [e9]; exact ⟨hit, p⟩) fun h' eb => ⟨rfl, I.turned (t' := s.toks) (fun b o hb q => eb b o hb q) f0 f1 f3 f4 f5⟩
  self := fun A i s Q E st h => let ⟨⟨_, he⟩, _⟩ := st; wpAny_pyIter_enum he h

def IteL (K : PySem.W.Frag) (a : Addr) : It :=
  ⟨fun i H => ∃ (xs : List V) (x : V), SqL K H a xs ∧ xs[i]? = some x, fun i H v H' => ∃ T x o, v = .ref T ∧ TO o ∧ H T = none ∧ H' = upd H T (.frz o (.tup [.int (i : Nat), x])) ∧ ∀ xs, SqL K H a xs → xs[i]? = some x, fun i H => ∃ xs : List V, SqL K H a xs ∧ xs.length = i⟩
theorem turn_enumL {P : Program} {w : World} {K : PySem.W.Frag} {elts : List Expr} {kk : Nat} {tpos : Pos} (a e it : Addr) (hae : a ≠ e) (hai : a ≠ it) :
    Turn P w K (.Tuple elts kk tpos) (IteL K a) [e, it] e (fun i h => (∃ old, IsEnum h e it ((i : Nat) : Int) old) ∧ h.IsListIter it a i ∧ e ≠ it) where
  mem := by simp
  obj := fun i h st b hb => by
    obtain ⟨⟨old, he⟩, ⟨o, ho, hc, hd⟩, _⟩ := st
    have e' : b = e ∨ b = it := by simpa using hb
    rcases e' with z | z
    · rw [z]; exact ⟨_, he, fun v q => nomatch q⟩
    · rw [z]; exact ⟨o, ho, fun v q => by rw [hd] at q; cases q⟩
  keep := fun i h h' st k => let ⟨⟨old, he⟩, hi, hne⟩ := st; ⟨⟨old, k e (by simp) _ he⟩, hi.at fun o q => k it (by simp) o q, hne⟩
  item := by
    intro X hP hw hK hc i pins s σ H E I hf st hg
    subst hP hw hK
    obtain ⟨⟨old, he⟩, hit, hne⟩ := st
    obtain ⟨xs, x, hq, hx⟩ := hg
    obtain ⟨its, rv, p, hz⟩ := I.list hq
    obtain ⟨u, hu, ru⟩ := rv.get hx
    have hel : e < s.heap.objs.size := Heap.lt_size he
    have hil : it < s.heap.objs.size := by obtain ⟨_, q, _⟩ := hit; exact Heap.lt_size q
    have hlt : i < its.toArray.size := by
      obtain ⟨q, _⟩ := List.getElem?_eq_some_iff.mp hu
      simpa using q
    have D := Draws.list (prog := X.prog) (w := X.w) (A := X.A.in1) (I.ok.hd hc) it a hai its.toArray
    refine wpAny_pyNext_enum_itemC (i := i) D he ⟨hit, p.isList⟩ hlt hne (by simp [Ne.symm hae, hne]) fun u' h' tk hu' ho hs' hT hsz hk => ?_
    have eu : u' = u := by
      have hu' : its.toArray[i]? = some u' := hu'
      rw [List.getElem?_toArray, hu] at hu'
      exact (Option.some.inj hu').symm
    subst eu
    refine ⟨_, rfl, wpAny_letOwnedTupleGo_enum (s := { s with heap := h', toks := tk + 1 }) ho fun h'' he' sb => ?_⟩
    have hT2 : h''.get? s.heap.objs.size = some { cls := .type "tuple", data := .seq #[.int i tk, u'] } := (sb.2 _ (Nat.ne_of_gt hel)).trans hT
    have new : ObjOk X.prog X.w (upd H s.heap.objs.size (.frz { cls := .type "tuple", data := .seq #[.int i tk, u'] } (.tup [.int (i : Nat), x]))) h'' s.heap.objs.size (.frz { cls := .type "tuple", data := .seq #[.int i tk, u'] } (.tup [.int (i : Nat), x])) :=
      ⟨hT2, by show 2 ≤ sizeLine; decide, [.int i tk, u'], .cons ⟨_, rfl⟩ (.cons ru .nil), ⟨_, hT2, rfl, _, rfl⟩⟩
    have I1 : Inv X pins σ (upd H s.heap.objs.size (.frz { cls := .type "tuple", data := .seq #[.int i tk, u'] } (.tup [.int (i : Nat), x]))) { s with heap := h'', toks := tk + 1 } :=
      I.turnedNew (ch := [e, it]) (fun b ob hb q => (sb.2 b (fun z => hb (by simp [z]))).trans (hk b ob (fun z => hb (by simp [z])) (fun z => hb (by simp [z])) q)) hf (Nat.le_refl _) new
    refine ⟨.ref s.heap.objs.size, _, I1, rfl, ⟨_, x, _, rfl, ⟨rfl, rfl⟩, I.hok.fresh (Nat.le_refl _), rfl, fun ys hy => by rw [I.list_inj hy hq]; exact hx⟩, ⟨⟨u', ?_⟩, hs'.1.at fun o q => (sb.2 it (Ne.symm hne)).trans q, hne⟩, fun b hb => ?_⟩
    · have e1 : ((i + 1 : Nat) : Int) = (i : Int) + 1 := by omega
      rw [e1]; exact he'
    · have hb' : b < s.heap.objs.size := by
        have e' : b = e ∨ b = it := by simpa using hb
        rcases e' with z | z
        · rw [z]; exact hel
        · rw [z]; exact hil
      rw [upd_ne (Nat.ne_of_lt hb')]
      exact (hf b hb).1
  done := by
    intro X hP hw hK hc i pins s σ H E I hf st hg
    subst hP hw hK
    obtain ⟨⟨old, he⟩, hit, hne⟩ := st
    obtain ⟨xs, hq, hx⟩ := hg
    obtain ⟨its, rv, p, hz⟩ := I.list hq
    obtain ⟨f0, f1, f2, f3, f4, f5⟩ := hf it (by simp)
    have hl := rv.length
    have D := Draws.list (prog := X.prog) (w := X.w) (A := X.A.in1) (I.ok.hd hc) it a hai its.toArray
    have e9 : its.toArray.size = i := by rw [List.size_toArray]; omega
    exact wpAny_pyNext_enum_endD D he (by rw [e9]; exact ⟨hit, p.isList⟩) fun h' eb => ⟨rfl, I.turned (t' := s.toks) (fun b o hb q => eb b o hb q) f0 f1 f3 f4 f5⟩
  self := fun A i s Q E st h => let ⟨⟨_, he⟩, _⟩ := st; wpAny_pyIter_enum he h


/-! ### zip(tuple, tuple) -/
def Itz2 (K : PySem.W.Frag) (a b : Addr) : It :=
  ⟨fun i H => ∃ (xs ys : List V) (x y : V), SqT K H a xs ∧ SqT K H b ys ∧ xs[i]? = some x ∧ ys[i]? = some y,
    fun i H v H' => ∃ T x y o, v = .ref T ∧ TO o ∧ H T = none ∧ H' = upd H T (.frz o (.tup [x, y])) ∧ (∀ xs, SqT K H a xs → xs[i]? = some x) ∧ ∀ ys, SqT K H b ys → ys[i]? = some y,
    fun i H => ∃ xs ys : List V, SqT K H a xs ∧ SqT K H b ys ∧ (xs.length ≤ i ∨ ys.length ≤ i)⟩
theorem turn_zip2 {P : Program} {w : World} {K : PySem.W.Frag} {elts : List Expr} {kk : Nat} {tpos : Pos} {a b z TI TO' i1 i2 : Addr} (D : ZipApart z TI TO' i1 i2 a b) :
    Turn P w K (.Tuple elts kk tpos) (Itz2 K a b) [z, TI, TO', i1, i2] z (fun i h => IsZip h z TI TO' .none ∧ IsPair h TI (.ref i1) (.ref i2) ∧ (∃ x y, IsPair h TO' x y) ∧ h.IsTupleIter i1 a i ∧ h.IsTupleIter i2 b i) where
  mem := by simp
  obj := (RZ.turn_zipT (P := P) (w := w) (K := K) (elts := elts) (kk := kk) (tpos := tpos) D).obj
  keep := (RZ.turn_zipT (P := P) (w := w) (K := K) (elts := elts) (kk := kk) (tpos := tpos) D).keep
  item := by
    intro X hP hw hK hc i pins s σ H E I hf st hg
    subst hP hw hK
    obtain ⟨hz, hTI, ⟨x0, y0, hTO⟩, h1, h2⟩ := st
    obtain ⟨xs, ys, x, y, hqx, hqy, hx, hy⟩ := hg
    obtain ⟨its, rv, p, _⟩ := I.tuple hqx
    obtain ⟨its2, rv2, p2, _⟩ := I.tuple hqy
    obtain ⟨u, hu, ru⟩ := rv.get hx
    obtain ⟨u2, hu2, ru2⟩ := rv2.get hy
    have old : ∀ c ∈ [z, TI, TO', i1, i2], c < s.heap.objs.size := fun c hcm => by
      have e' : c = z ∨ c = TI ∨ c = TO' ∨ c = i1 ∨ c = i2 := by simpa using hcm
      obtain ⟨o1, g1, _⟩ := id h1
      obtain ⟨o2, g2, _⟩ := id h2
      rcases e' with q | q | q | q | q
      · rw [q]; exact Heap.lt_size hz
      · rw [q]; exact Heap.lt_size hTI
      · rw [q]; exact Heap.lt_size hTO
      · rw [q]; exact Heap.lt_size g1
      · rw [q]; exact Heap.lt_size g2
    have hzl : z < s.heap.objs.size := old z (by simp)
    refine RZ.pyNext_zipT_item D hz hTI hTO h1 h2 p p2 (x := u) (y := u2) (by simpa using hu) (by simpa using hu2) fun h' z' TO2 h1' h2' hT hsz hk => ?_
    refine ⟨_, rfl, wpAny_letOwnedTupleGo_zip (s := { s with heap := h' }) z' fun h'' z'' sb => ?_⟩
    have hT2 : h''.get? s.heap.objs.size = some { cls := .type "tuple", data := .seq #[u, u2] } := (sb.2 _ (Nat.ne_of_gt hzl)).trans hT
    have new : ObjOk X.prog X.w (upd H s.heap.objs.size (.frz { cls := .type "tuple", data := .seq #[u, u2] } (.tup [x, y]))) h'' s.heap.objs.size (.frz { cls := .type "tuple", data := .seq #[u, u2] } (.tup [x, y])) :=
      ⟨hT2, by show 2 ≤ sizeLine; decide, [u, u2], .cons ru (.cons ru2 .nil), ⟨_, hT2, rfl, _, rfl⟩⟩
    have ne : ∀ {c d : Addr}, c ∉ [z, TI, TO', i1, i2] → d ∈ [z, TI, TO', i1, i2] → c ≠ d := fun h1 h2 e => h1 (e ▸ h2)
    have I1 : Inv X pins σ (upd H s.heap.objs.size (.frz { cls := .type "tuple", data := .seq #[u, u2] } (.tup [x, y]))) { s with heap := h'' } :=
      I.turnedNew (t' := s.toks) (ch := [z, TI, TO', i1, i2]) (fun c o hb q => (sb.2 c (ne hb (by simp))).trans (hk c o (ne hb (by simp)) (ne hb (by simp)) (ne hb (by simp)) (ne hb (by simp)) q)) hf (Nat.le_refl _) new
    refine ⟨.ref s.heap.objs.size, _, I1, rfl, ⟨_, x, y, _, rfl, ⟨rfl, rfl⟩, I.hok.fresh (Nat.le_refl _), rfl, fun l hl => by rw [I.tuple_inj hl hqx]; exact hx, fun l hl => by rw [I.tuple_inj hl hqy]; exact hy⟩,
      ⟨z'', (sb.2 _ D.TIz).trans (hk _ _ D.TIz D.TITO D.TIi1 D.TIi2 hTI), ⟨u, u2, (sb.2 _ D.TOz).trans TO2⟩, h1'.at fun o q => (sb.2 _ D.i1z).trans q, h2'.at fun o q => (sb.2 _ D.i2z).trans q⟩, fun c hcm => ?_⟩
    rw [upd_ne (Nat.ne_of_lt (old c hcm))]
    exact (hf c hcm).1
  done := fun X hP hw hK hc i pins s σ H E I hf st hg => (RZ.turn_zipT (P := P) (w := w) (K := K) (elts := elts) (kk := kk) (tpos := tpos) D).done X hP hw hK hc i pins s σ H E I hf st hg
  self := fun A i s Q E st h => wpAny_pyIter_zip st.1 h
/-! ### zip(tuple, tuple, list) -/
def Itz3 (K : PySem.W.Frag) (a b c : Addr) : It :=
  ⟨fun i H => ∃ (xs ys zs : List V) (x y z : V), SqT K H a xs ∧ SqT K H b ys ∧ SqL K H c zs ∧ xs[i]? = some x ∧ ys[i]? = some y ∧ zs[i]? = some z,
    fun i H v H' => ∃ T x y z o, v = .ref T ∧ TO o ∧ H T = none ∧ H' = upd H T (.frz o (.tup [x, y, z])) ∧ (∀ xs, SqT K H a xs → xs[i]? = some x) ∧ (∀ ys, SqT K H b ys → ys[i]? = some y) ∧ ∀ zs, SqL K H c zs → zs[i]? = some z,
    fun i H => ∃ xs ys zs : List V, SqT K H a xs ∧ SqT K H b ys ∧ SqL K H c zs ∧ i ≤ xs.length ∧ i ≤ ys.length ∧ i ≤ zs.length ∧ (i = xs.length ∨ i = ys.length ∨ i = zs.length)⟩
theorem turn_zip3 {P : Program} {w : World} {K : PySem.W.Frag} {elts : List Expr} {kk : Nat} {tpos : Pos} {a b c z TI TO i1 i2 i3 : Addr} (S : ZipSep3 z TI TO i1 i2 i3 [i1, a] [i2, b] [i3, c]) (n1 : a ≠ i1) (n2 : b ≠ i2) (n3 : c ≠ i3) :
    Turn P w K (.Tuple elts kk tpos) (Itz3 K a b c) [z, TI, TO, i1, i2, i3] z (fun i h => IsZip h z TI TO .none ∧ IsTupOf3 h TI (.ref i1) (.ref i2) (.ref i3) ∧ (∃ a1 a2 a3, IsTupOf3 h TO a1 a2 a3) ∧ h.IsTupleIter i1 a i ∧ h.IsTupleIter i2 b i ∧ h.IsListIter i3 c i) where
  mem := by simp
  obj := fun i h st b hb => by
    obtain ⟨hz, hTI, ⟨a1, a2, a3, hTO⟩, ⟨o1, h1, _, d1⟩, ⟨o2, h2, _, d2⟩, ⟨o3, h3, _, d3⟩⟩ := st
    have e' : b = z ∨ b = TI ∨ b = TO ∨ b = i1 ∨ b = i2 ∨ b = i3 := by simpa using hb
    rcases e' with z | z | z | z | z | z
    · rw [z]; exact ⟨_, hz, fun v q => nomatch q⟩
    · rw [z]; exact ⟨_, hTI, fun v q => nomatch q⟩
    · rw [z]; exact ⟨_, hTO, fun v q => nomatch q⟩
    · rw [z]; exact ⟨_, h1, fun v q => by rw [d1] at q; cases q⟩
    · rw [z]; exact ⟨_, h2, fun v q => by rw [d2] at q; cases q⟩
    · rw [z]; exact ⟨_, h3, fun v q => by rw [d3] at q; cases q⟩
  keep := fun i h h' st k => by
    obtain ⟨hz, hTI, ⟨a1, a2, a3, hTO⟩, h1, h2, h3⟩ := st
    exact ⟨k z (by simp) _ hz, k TI (by simp) _ hTI, ⟨a1, a2, a3, k TO (by simp) _ hTO⟩, h1.at fun o q => k i1 (by simp) o q, h2.at fun o q => k i2 (by simp) o q, h3.at fun o q => k i3 (by simp) o q⟩
  item := by
    intro X hP hw hK hc i pins s σ H E I hf st hg
    subst hP hw hK
    obtain ⟨hz, hTI, ⟨a1, a2, a3, hTO⟩, h1, h2, h3⟩ := st
    obtain ⟨xs, ys, zs, x, y, zz, hqx, hqy, hqz, hx, hy, hzz⟩ := hg
    obtain ⟨its1, rv1, p1, _⟩ := I.tuple hqx
    obtain ⟨its2, rv2, p2, _⟩ := I.tuple hqy
    obtain ⟨its3, rv3, p3, _⟩ := I.list hqz
    obtain ⟨u1, hu1, ru1⟩ := rv1.get hx
    obtain ⟨u2, hu2, ru2⟩ := rv2.get hy
    obtain ⟨u3, hu3, ru3⟩ := rv3.get hzz
    have lt : ∀ {its : List Value} {u : Value}, its[i]? = some u → i < its.toArray.size := fun h => by
      obtain ⟨q, _⟩ := List.getElem?_eq_some_iff.mp h
      simpa using q
    have D1 := Draws.tuple (prog := X.prog) (w := X.w) (A := X.A.in1) (I.ok.hd hc) i1 a n1 its1.toArray
    have D2 := Draws.tuple (prog := X.prog) (w := X.w) (A := X.A.in1) (I.ok.hd hc) i2 b n2 its2.toArray
    have D3 := Draws.list (prog := X.prog) (w := X.w) (A := X.A.in1) (I.ok.hd hc) i3 c n3 its3.toArray
    refine wpAny_pyNext_zipD3_item (i := i) S D1 D2 D3 hz hTI hTO ⟨h1, p1⟩ ⟨h2, p2⟩ ⟨h3, p3.isList⟩ (lt hu1) (lt hu2) (lt hu3) fun w1 w2 w3 h' tk y1 y2 y3 b1 b2 d1 d2 d3 b5 b6 hk => ?_
    have same : ∀ {its : List Value} {u u' : Value}, its[i]? = some u → its.toArray[i]? = some u' → u' = u := fun h h' => by
      rw [List.getElem?_toArray, h] at h'
      exact (Option.some.inj h').symm
    have e1 := same hu1 y1
    have e2 := same hu2 y2
    have e3 := same hu3 y3
    subst e1 e2 e3
    have hzl : z < s.heap.objs.size := Heap.lt_size hz
    have hTl : TI < s.heap.objs.size := Heap.lt_size hTI
    refine ⟨_, rfl, wpAny_letOwnedTupleGo_zip (s := { s with heap := h', toks := tk }) b1 fun h'' hz' sb => ?_⟩
    have hT2 : h''.get? s.heap.objs.size = some { cls := .type "tuple", data := .seq #[w1, w2, w3] } := (sb.2 _ (Nat.ne_of_gt hzl)).trans b5
    have new : ObjOk X.prog X.w (upd H s.heap.objs.size (.frz { cls := .type "tuple", data := .seq #[w1, w2, w3] } (.tup [x, y, zz]))) h'' s.heap.objs.size (.frz { cls := .type "tuple", data := .seq #[w1, w2, w3] } (.tup [x, y, zz])) :=
      ⟨hT2, by show 3 ≤ sizeLine; decide, [w1, w2, w3], .cons ru1 (.cons ru2 (.cons ru3 .nil)), ⟨_, hT2, rfl, _, rfl⟩⟩
    have I1 : Inv X pins σ (upd H s.heap.objs.size (.frz { cls := .type "tuple", data := .seq #[w1, w2, w3] } (.tup [x, y, zz]))) { s with heap := h'', toks := tk } :=
      I.turnedNew (ch := [z, TI, TO, i1, i2, i3]) (fun b ob hb q => (sb.2 b (fun z => hb (by simp [z]))).trans (hk b ob (fun z => hb (by simp [z])) (fun z => hb (by simp [z])) (fun z => hb (by simp [z])) (fun z => hb (by simp [z])) (fun z => hb (by simp [z])) q)) hf (Nat.le_refl _) new
    have hTI' : IsTupOf3 h' TI (.ref i1) (.ref i2) (.ref i3) := hk _ _ S.TIz S.TITO S.TIi1 S.TIi2 S.TIi3 hTI
    refine ⟨.ref s.heap.objs.size, _, I1, rfl, ⟨_, x, y, zz, _, rfl, ⟨rfl, rfl⟩, I.hok.fresh (Nat.le_refl _), rfl, fun ys hy => by rw [I.tuple_inj hy hqx]; exact hx, fun ys' hy' => by rw [I.tuple_inj hy' hqy]; exact hy, fun ys hy => by rw [I.list_inj hy hqz]; exact hzz⟩,
      ⟨hz', (sb.2 _ S.TIz).trans hTI', ⟨_, _, _, (sb.2 _ S.TOz).trans b2⟩, d1.1.at fun o q => (sb.2 i1 S.zi1.symm).trans q, d2.1.at fun o q => (sb.2 i2 S.zi2.symm).trans q, d3.1.at fun o q => (sb.2 i3 S.zi3.symm).trans q⟩, fun b' hb => ?_⟩
    have hb' : b' < s.heap.objs.size := by
      obtain ⟨o1, g1, _⟩ := id h1
      obtain ⟨o2, g2, _⟩ := id h2
      obtain ⟨o3, g3, _⟩ := id h3
      have e' : b' = z ∨ b' = TI ∨ b' = TO ∨ b' = i1 ∨ b' = i2 ∨ b' = i3 := by simpa using hb
      rcases e' with z | z | z | z | z | z
      · rw [z]; exact hzl
      · rw [z]; exact hTl
      · rw [z]; exact Heap.lt_size hTO
      · rw [z]; exact Heap.lt_size g1
      · rw [z]; exact Heap.lt_size g2
      · rw [z]; exact Heap.lt_size g3
    rw [upd_ne (Nat.ne_of_lt hb')]
    exact (hf b' hb).1
  done := by
    intro X hP hw hK hc i pins s σ H E I hf st hg
    subst hP hw hK
    obtain ⟨hz, hTI, ⟨a1, a2, a3, hTO⟩, h1, h2, h3⟩ := st
    obtain ⟨xs, ys, zs, hqx, hqy, hqz, l1, l2, l3, l4⟩ := hg
    obtain ⟨its1, rv1, p1, _⟩ := I.tuple hqx
    obtain ⟨its2, rv2, p2, _⟩ := I.tuple hqy
    obtain ⟨its3, rv3, p3, _⟩ := I.list hqz
    have r1 := rv1.length
    have r2 := rv2.length
    have r3 := rv3.length
    have D1 := Draws.tuple (prog := X.prog) (w := X.w) (A := X.A.in1) (I.ok.hd hc) i1 a n1 its1.toArray
    have D2 := Draws.tuple (prog := X.prog) (w := X.w) (A := X.A.in1) (I.ok.hd hc) i2 b n2 its2.toArray
    have D3 := Draws.list (prog := X.prog) (w := X.w) (A := X.A.in1) (I.ok.hd hc) i3 c n3 its3.toArray
    refine wpAny_pyNext_zipD3_end (i := i) S D1 D2 D3 hz hTI hTO ⟨h1, p1⟩ ⟨h2, p2⟩ ⟨h3, p3.isList⟩ (by rw [List.size_toArray]; omega) (by rw [List.size_toArray]; omega) (by rw [List.size_toArray]; omega) (by rw [List.size_toArray, List.size_toArray, List.size_toArray]; omega) fun h' tk hk => ⟨rfl, ?_⟩
    exact I.step (g' := s.gens) (d' := s.drawn) (ch := [z, TI, TO, i1, i2, i3]) (fun b hb => ⟨(hf b hb).2.2.2.1, (hf b hb).2.1, (hf b hb).2.2.2.2.1, (hf b hb).2.2.2.2.2⟩)
      (fun b o _ _ hb e _ => hk b o (fun z => hb (by simp [z])) (fun z => hb (by simp [z])) (fun z => hb (by simp [z])) (fun z => hb (by simp [z])) (fun z => hb (by simp [z])) e)
      (fun b o _ _ hb e _ => ⟨o.slots, hk b o (fun z => hb (by simp [z])) (fun z => hb (by simp [z])) (fun z => hb (by simp [z])) (fun z => hb (by simp [z])) (fun z => hb (by simp [z])) e⟩) (fun _ _ _ _ n => n)
      (fun b o hb e => ⟨o, hk b o (fun z => hb (by simp [z])) (fun z => hb (by simp [z])) (fun z => hb (by simp [z])) (fun z => hb (by simp [z])) (fun z => hb (by simp [z])) e⟩) (fun _ _ e => e) (fun _ _ _ e => e) (fun b ps e => ⟨#[], by rw [e]; simp⟩)
      (fun m hm => by
        have nL : ∀ b ∈ [z, TI, TO, i1, i2, i3], X.env.locals ≠ b := fun b hb e => (hf b hb).2.1 e.symm
        obtain ⟨o, es, ep, ho, r⟩ := hm
        exact ⟨o, es, ep, hk _ o (nL z (by simp)) (nL TO (by simp)) (nL i1 (by simp)) (nL i2 (by simp)) (nL i3 (by simp)) ho, r⟩)
      (fun b u e => by
        have nit : ∀ b u, H b = some u → b ∉ [z, TI, TO, i1, i2, i3] := fun b u e hb => by rw [(hf b hb).1] at e; cases e
        refine (I.hok b u e).stay (fun c' v hc' q => ?_) (fun _ q => q) fun _ _ q => q
        have nc : c' ∉ [z, TI, TO, i1, i2, i3] := by
          rcases hc' with z | z
          · rw [z]; exact nit b u e
          · exact nit c' _ z
        exact hk c' v (fun z => nc (by simp [z])) (fun z => nc (by simp [z])) (fun z => nc (by simp [z])) (fun z => nc (by simp [z])) (fun z => nc (by simp [z])) q) I.bare
  self := fun A i s Q E st h => wpAny_pyIter_zip st.1 h
end DL

/-! D7: iterables as denotations. -/
namespace DL
open PySem PySem.Spec PyProof.Rows L2

def dGiv {α : Type} : Option α → Dn α
  | some a => ret a
  | none => fun _ => .bad
def dIt (g : List PyData → Option (List PyData)) (das : List (Dn Rv)) : Dn (List PyData) := bnd (dArgsC das) fun ds => dGiv (g ds)
/-- a reading over committed arguments -/
theorem it_of {Z : Fx} {g : List PyData → Option (List PyData)} {das : List (Dn Rv)} {σ : St} {H : Hp} {R : It → Hp → Prop} (h : tI Z (dIt g das) σ H R) :
    tAC Z das σ H fun vs H1 => ∃ B ds items, Same B H1 ∧ DaAll Z.K B vs ds ∧ g ds = some items ∧ ∀ J, Goes Z B J items → items.length ≤ sizeLine → R J H1 := by
  obtain ⟨B, env, R0, h⟩ := h
  refine ⟨B, env, R0, post.imp (post.bnd (Vl1 := fun B _ _ vs xs => DaAll Z.K B vs xs) h) fun vs H1 ⟨B1, env1, ds, s, R1, q, p⟩ => ?_⟩
  cases e : g ds with
  | none => rw [e] at p; exact p.elim
  | some items =>
    rw [e] at p
    exact ⟨B1, ds, items, R1.bh, q, e, fun J G hz => p J H1 B1 (.refl _) R1 ⟨G, hz⟩⟩
theorem it1_of {Z : Fx} {g : List PyData → Option (List PyData)} {d : Dn Rv} {σ : St} {H : Hp} {R : It → Hp → Prop} (h : tI Z (dIt g [d]) σ H R) :
    tD Z d σ H fun v H1 => ∃ B x items, Same B H1 ∧ Da Z.K B v x ∧ g [x] = some items ∧ ∀ J, Goes Z B J items → items.length ≤ sizeLine → R J H1 := by
  have e : dIt g [d] = bnd d fun r => bnd (cmt r) fun x => dGiv (g [x]) := by
    unfold dIt dArgsC dArgsC
    simp only [bnd_bnd, ret_bnd]
  rw [e] at h
  obtain ⟨B, env, R0, h⟩ := h
  refine ⟨B, env, R0, post.imp (commits h) fun v H1 ⟨B1, env1, x, s, R1, q, p⟩ => ?_⟩
  cases e : g [x] with
  | none => rw [e] at p; exact p.elim
  | some items =>
    rw [e] at p
    exact ⟨B1, x, items, R1.bh, q, e, fun J G hz => p J H1 B1 (.refl _) R1 ⟨G, hz⟩⟩

/-! ### a list, a tuple, a text -/
def signs (x : Str) : List PyData := x.cps.toList.map fun c => .str ⟨#[c]⟩
def gSeq : List PyData → Option (List PyData)
  | [.list xs] => some xs
  | [.tuple xs] => some xs
  | [.str x] => if x.length ≤ 1000000 then some (signs x) else none
  | _ => none
theorem goes_list {Z : Fx} {B : Hp} {a : Addr} {vs : List V} {ds : List PyData} (h1 : SqL Z.K B a vs) (h2 : DaAll Z.K B vs ds) : Goes Z B (Itl Z.K a) ds := by
  intro i B1 H1 s1 s2
  have hq : SqL Z.K H1 a vs := (s1.trans s2).seq h1
  refine ⟨fun x hx => ?_, fun e => ⟨vs, hq, by rw [h2.length, e]; exact Nat.le_refl _⟩⟩
  obtain ⟨v, hv, hd⟩ := h2.get hx
  refine ⟨⟨vs, v, hq, hv⟩, fun w H2 y => ?_⟩
  obtain ⟨e, y⟩ := y
  subst e
  have := y vs hq
  rw [hv] at this
  cases this
  exact ⟨B1, Ext.refl s2, Da.mono s1 _ hd⟩
theorem goes_tuple {Z : Fx} {B : Hp} {a : Addr} {vs : List V} {ds : List PyData} (h1 : SqT Z.K B a vs) (h2 : DaAll Z.K B vs ds) : Goes Z B (Itt Z.K a) ds := by
  intro i B1 H1 s1 s2
  have hq : SqT Z.K H1 a vs := SqT.mono (s1.trans s2) h1
  refine ⟨fun x hx => ?_, fun e => ⟨vs, hq, by rw [h2.length, e]; exact Nat.le_refl _⟩⟩
  obtain ⟨v, hv, hd⟩ := h2.get hx
  refine ⟨⟨vs, v, hq, hv⟩, fun w H2 y => ?_⟩
  obtain ⟨e, y⟩ := y
  subst e
  have := y vs hq
  rw [hv] at this
  cases this
  exact ⟨B1, Ext.refl s2, Da.mono s1 _ hd⟩
theorem goes_str {Z : Fx} {B : Hp} (x : Str) : Goes Z B (Its x) (signs x) := by
  intro i B1 H1 s1 s2
  have hl : (signs x).length = x.cps.size := by unfold signs; simp
  refine ⟨fun d hx => ?_, fun e => by show x.cps.size ≤ i; omega⟩
  have hi : i < x.cps.size := by
    obtain ⟨q, _⟩ := List.getElem?_eq_some_iff.mp hx
    omega
  refine ⟨hi, fun w H2 y => ?_⟩
  obtain ⟨e, c, hc, rfl⟩ := y
  subst e
  unfold signs at hx
  rw [List.getElem?_map, Array.getElem?_toList, hc] at hx
  have hx : PyData.str ⟨#[c]⟩ = d := Option.some.inj hx
  subst hx
  exact ⟨B1, Ext.refl s2, .str _⟩
section
variable {X : Cx} {Z : Fx} {tg : Expr} {pos p : Pos}
theorem pi_any {l : Expr} {tl : TE} (hl : PE X l tl) : PI X tg l (fun σ H R => tl σ H fun x H1 => (∃ a xs, x = .ref a ∧ SqL X.K H1 a xs ∧ (xs.length ≤ sizeLine → R (Itl X.K a) H1)) ∨ (∃ a xs, x = .ref a ∧ SqT X.K H1 a xs ∧ (xs.length ≤ sizeLine → R (Itt X.K a) H1)) ∨ (∃ z, x = .str z ∧ R (Its z) H1)) := by
  refine ⟨fun pins s σ H R I h => ?_⟩
  refine thn (hl.run pins s σ H _ I h) fun v s1 ⟨x, H1, I1, r1, q1⟩ => ?_
  rcases q1 with ⟨a, xs, e, hq, q⟩ | ⟨a, xs, e, hq, q⟩ | ⟨z, e, q⟩
  · subst e
    cases r1
    obtain ⟨its, rv, p, hz⟩ := I1.list hq
    refine wpAny_pyIter_list p.isList ?_
    refine ⟨s1.heap.objs.size, [s1.heap.objs.size], _, _, H1, rfl, I1.kept (t' := s1.toks) fun b o e => Heap.get?_push_of_some _ e, turn_list a _, ⟨_, Heap.get?_push_size _ rfl, rfl, rfl⟩, fun b hb => ?_, q hz⟩
    have e : b = s1.heap.objs.size := by simpa using hb
    subst e
    exact I1.fpOk (Nat.le_refl _) (I1.hok.fresh (Nat.le_refl _))
  · subst e
    cases r1
    obtain ⟨its, rv, p, hz⟩ := I1.tuple hq
    refine wpAny_pyIter_tuple (show s1.heap.IsTuple a its.toArray from p) ?_
    refine ⟨s1.heap.objs.size, [s1.heap.objs.size], _, _, H1, rfl, I1.kept (t' := s1.toks) fun b o e => Heap.get?_push_of_some _ e, turn_tuple a _, ⟨_, Heap.get?_push_size _ rfl, rfl, rfl⟩, fun b hb => ?_, q hz⟩
    have e : b = s1.heap.objs.size := by simpa using hb
    subst e
    exact I1.fpOk (Nat.le_refl _) (I1.hok.fresh (Nat.le_refl _))
  · subst e
    obtain ⟨t, rfl⟩ := r1
    cases ha : z.cps.all (· < 128)
    · exact wpAny_pyIter_wide ha (pi_one (tk := s1.toks) I1 _ (turn_str _ z t "str_iterator" (.inr rfl)) ⟨_, Heap.get?_push_size _ rfl, rfl, rfl⟩ q)
    · exact wpAny_pyIter_ascii ha (pi_one (tk := s1.toks) I1 _ (turn_str _ z t "str_ascii_iterator" (.inl rfl)) ⟨_, Heap.get?_push_size _ rfl, rfl, rfl⟩ q)
theorem i_any {l : Expr} {d : Dn Rv} {m k : Nat} (c : Cok Z X m k) (hl : PE X l (tD Z d)) : PI X tg l (tI Z (dIt gSeq [d])) := by
  refine PI_imp (pi_any hl) fun σ H R h => ?_
  obtain ⟨B, env, R0, h⟩ := it1_of h
  refine ⟨B, env, R0, post.imp h fun v H1 ⟨B1, x, items, s, q, hg, p⟩ => ?_⟩
  rw [c.hK]
  unfold gSeq at hg
  split at hg
  · next xs e =>
    cases e
    cases hg
    obtain ⟨a, vs, rfl, h1, h2⟩ := Da.lstI q
    exact .inl ⟨a, vs, rfl, s.seq h1, fun hz => p _ (goes_list h1 h2) (by rw [← h2.length]; exact hz)⟩
  · next xs e =>
    cases e
    cases hg
    obtain ⟨a, vs, rfl, h1, h2⟩ := Da.tupI q
    exact .inr (.inl ⟨a, vs, rfl, SqT.mono s h1, fun hz => p _ (goes_tuple h1 h2) (by rw [← h2.length]; exact hz)⟩)
  · next z e =>
    cases e
    split at hg
    · next hz =>
      cases hg
      cases q
      refine .inr (.inr ⟨z, rfl, p _ (goes_str z) ?_⟩)
      have : (signs z).length = z.length := by unfold signs Str.length; simp
      rw [this]
      exact Nat.le_trans hz (by decide)
    · cases hg
  · cases hg

/-! ### ranges -/
def rangeL (lo : Int) (n : Nat) : List PyData := (List.range n).map fun (i : Nat) => .int (lo + (i : Int))
def gRng1 : List PyData → Option (List PyData)
  | [.int j] => if -1000000 ≤ j ∧ j ≤ 1000000 then some (rangeL 0 j.toNat) else none
  | _ => none
def gRng2 : List PyData → Option (List PyData)
  | [.int i, .int j] => if -1000000 ≤ i ∧ i ≤ 1000000 ∧ -1000000 ≤ j ∧ j ≤ 1000000 then some (rangeL i (j - i).toNat) else none
  | _ => none
theorem rangeL_length (lo : Int) (n : Nat) : (rangeL lo n).length = n := by unfold rangeL; simp
theorem goes_range {B : Hp} (lo : Int) (n : Nat) : Goes Z B (Itr lo n) (rangeL lo n) := by
  intro i B1 H1 s1 s2
  refine ⟨fun d hx => ?_, fun e => by show n ≤ i; rw [rangeL_length] at e; omega⟩
  have hi : i < n := by
    obtain ⟨q, _⟩ := List.getElem?_eq_some_iff.mp hx
    rw [rangeL_length] at q
    exact q
  refine ⟨hi, fun w H2 y => ?_⟩
  obtain ⟨e, rfl⟩ := y
  subst e
  unfold rangeL at hx
  rw [List.getElem?_map, List.getElem?_range hi] at hx
  have hx : PyData.int (lo + (i : Int)) = d := Option.some.inj hx
  subst hx
  exact ⟨B1, Ext.refl s2, .int _⟩
theorem DaAll.oneI {K : PySem.W.Frag} {B : Hp} {vs : List V} {i : Int} (h : DaAll K B vs [.int i]) : vs = [.int i] := DaAll.ints (ns := [i]) h
theorem DaAll.twoI {K : PySem.W.Frag} {B : Hp} {vs : List V} {i j : Int} (h : DaAll K B vs [.int i, .int j]) : vs = [.int i, .int j] := DaAll.ints (ns := [i, j]) h
theorem i_range1 {a : Expr} {d : Dn Rv} (hm : X.mg "range" = none) (ha : PA X [a] (tAC Z [d])) (hg : Gl X "range" := by rfl) (hs : starEach [a] X.env = [(false, eval a X.env)] := by rfl) : PI X tg (.Call (.Name "range" p) [a] [] pos) (tI Z (dIt gRng1 [d])) := by
  refine PI_imp (pi_range1 hg hm ha hs) fun σ H R h => ?_
  obtain ⟨B, env, R0, h⟩ := it_of h
  refine ⟨B, env, R0, post.imp h fun vs H1 ⟨B1, ds, items, s, q, hg, p⟩ => ?_⟩
  unfold gRng1 at hg
  split at hg
  · next j =>
    split at hg
    · next hz =>
      cases hg
      exact ⟨j, DaAll.oneI q, by omega, by omega, p _ (goes_range 0 _) (by rw [rangeL_length]; exact Nat.le_trans (show j.toNat ≤ 1000000 by omega) (by decide))⟩
    · cases hg
  · cases hg
theorem i_range2 {a b : Expr} {d d' : Dn Rv} (hm : X.mg "range" = none) (ha : PA X [a, b] (tAC Z [d, d'])) (hg : Gl X "range" := by rfl) (hs : starEach [a, b] X.env = [(false, eval a X.env), (false, eval b X.env)] := by rfl) (hs2 : starEach [b] X.env = [(false, eval b X.env)] := by rfl) : PI X tg (.Call (.Name "range" p) [a, b] [] pos) (tI Z (dIt gRng2 [d, d'])) := by
  refine PI_imp (pi_range2 hg hm ha hs hs2) fun σ H R h => ?_
  obtain ⟨B, env, R0, h⟩ := it_of h
  refine ⟨B, env, R0, post.imp h fun vs H1 ⟨B1, ds, items, s, q, hg, p⟩ => ?_⟩
  unfold gRng2 at hg
  split at hg
  · next i j =>
    split at hg
    · next hz =>
      cases hg
      exact ⟨i, j, DaAll.twoI q, ⟨by omega, by omega, by omega, by omega⟩, p _ (goes_range i _) (by rw [rangeL_length]; exact Nat.le_trans (show (j - i).toNat ≤ 2000000 by omega) (by decide))⟩
    · cases hg
  · cases hg

/-! ### enumerate -/
def enumL : Nat → List PyData → List PyData
  | _, [] => []
  | i, x :: xs => .tuple [.int (i : Nat), x] :: enumL (i + 1) xs
theorem enumL_length : ∀ (k : Nat) (xs : List PyData), (enumL k xs).length = xs.length
  | _, [] => rfl
  | k, x :: xs => by unfold enumL; rw [List.length_cons, List.length_cons, enumL_length]
theorem enumL_get : ∀ (k : Nat) (xs : List PyData) (i : Nat), (enumL k xs)[i]? = (xs[i]?).map fun x => .tuple [.int ((k + i : Nat) : Int), x]
  | _, [], _ => by unfold enumL; simp
  | k, x :: xs, 0 => by unfold enumL; simp
  | k, x :: xs, i + 1 => by
    unfold enumL
    rw [List.getElem?_cons_succ, List.getElem?_cons_succ, enumL_get (k + 1) xs i, show k + 1 + i = k + (i + 1) by omega]
def gEnum : List PyData → Option (List PyData)
  | [.list xs] => some (enumL 0 xs)
  | [.tuple xs] => some (enumL 0 xs)
  | _ => none
theorem goes_enumL {B : Hp} {a : Addr} {vs : List V} {ds : List PyData} (h1 : SqL Z.K B a vs) (h2 : DaAll Z.K B vs ds) : Goes Z B (IteL Z.K a) (enumL 0 ds) := by
  intro i B1 H1 s1 s2
  have hq : SqL Z.K H1 a vs := (s1.trans s2).seq h1
  refine ⟨fun x hx => ?_, fun e => ⟨vs, hq, by rw [h2.length, e, enumL_length]⟩⟩
  rw [enumL_get] at hx
  cases hy : ds[i]? with
  | none => rw [hy] at hx; cases hx
  | some y =>
    rw [hy] at hx
    have hx : PyData.tuple [.int ((0 + i : Nat) : Int), y] = x := Option.some.inj hx
    subst hx
    obtain ⟨v, hv, hd⟩ := h2.get hy
    refine ⟨⟨vs, v, hq, hv⟩, fun w H2 yy => ?_⟩
    obtain ⟨T, x, o, rfl, ho, hT, rfl, hx⟩ := yy
    have e := hx vs hq
    rw [hv] at e
    cases e
    have x2 := Ext.one (.frz o (.tup [.int (i : Nat), v])) s2 hT
    rw [Nat.zero_add]
    exact ⟨_, x2, .tup (.inl ⟨o, upd_same, ho⟩) (.cons (.int _) (.cons (Da.mono (s1.trans x2.b) _ hd) .nil))⟩
theorem goes_enumT {B : Hp} {a : Addr} {vs : List V} {ds : List PyData} (h1 : SqT Z.K B a vs) (h2 : DaAll Z.K B vs ds) : Goes Z B (IteT Z.K a) (enumL 0 ds) := by
  intro i B1 H1 s1 s2
  have hq : SqT Z.K H1 a vs := SqT.mono (s1.trans s2) h1
  refine ⟨fun x hx => ?_, fun e => ⟨vs, hq, by rw [h2.length, e, enumL_length]⟩⟩
  rw [enumL_get] at hx
  cases hy : ds[i]? with
  | none => rw [hy] at hx; cases hx
  | some y =>
    rw [hy] at hx
    have hx : PyData.tuple [.int ((0 + i : Nat) : Int), y] = x := Option.some.inj hx
    subst hx
    obtain ⟨v, hv, hd⟩ := h2.get hy
    refine ⟨⟨vs, v, hq, hv⟩, fun w H2 yy => ?_⟩
    obtain ⟨T, x, o, rfl, ho, hT, rfl, hx⟩ := yy
    have e := hx vs hq
    rw [hv] at e
    cases e
    have x2 := Ext.one (.frz o (.tup [.int (i : Nat), v])) s2 hT
    rw [Nat.zero_add]
    exact ⟨_, x2, .tup (.inl ⟨o, upd_same, ho⟩) (.cons (.int _) (.cons (Da.mono (s1.trans x2.b) _ hd) .nil))⟩
theorem pi_enumA {e : Expr} {ta : TA} {tpos : Pos} {elts : List Expr} {kk : Nat} (hg : Gl X "enumerate") (hm : X.mg "enumerate" = none) (ha : PA X [e] ta) (hs : starEach [e] X.env = [(false, eval e X.env)] := by rfl) :
    PI X (.Tuple elts kk tpos) (.Call (.Name "enumerate" p) [e] [] pos) (fun σ H R => ta σ H fun vs H1 => ∃ a xs, vs = [.ref a] ∧ ((SqL X.K H1 a xs ∧ (xs.length ≤ sizeLine → R (IteL X.K a) H1)) ∨ (SqT X.K H1 a xs ∧ (xs.length ≤ sizeLine → R (IteT X.K a) H1)))) := by
  refine ⟨fun pins s σ H R I h => ?_⟩
  refine Call_ (ld_blt I hg hm boot_enumerate (PyProof.Rows.callWith_type1 (thn (ha.run pos pins s σ H _ I h) fun us s1 ⟨vs, H1, I1, r1, q1⟩ => ?_) hs rfl))
  obtain ⟨a, xs, ex, q⟩ := q1
  subst ex
  cases r1 with
  | cons r rr =>
    cases rr
    cases r
    have fr : ∀ b ∈ [s1.heap.objs.size + 1, s1.heap.objs.size], FpOk X pins H1 b := fun b hb => by
      have e' : b = s1.heap.objs.size + 1 ∨ b = s1.heap.objs.size := by simpa using hb
      have hle : s1.heap.objs.size ≤ b := by
        rcases e' with z | z
        · rw [z]; exact Nat.le_add_right _ _
        · rw [z]; exact Nat.le_refl _
      exact I1.fpOk hle (I1.hok.fresh hle)
    rcases q with ⟨hq, q⟩ | ⟨hq, q⟩
    · obtain ⟨its, rv, p', hz⟩ := I1.list hq
      have hlt : a < s1.heap.objs.size := p'.lt
      refine call_enumerate_list p'.isList fun h' he hit hsz hk => wpAny_pyIter_enum he ?_
      have I2 : Inv X pins σ H1 { s1 with heap := h' } := I1.kept (t' := s1.toks) hk
      exact ⟨s1.heap.objs.size + 1, [s1.heap.objs.size + 1, s1.heap.objs.size], _, _, H1, rfl, I2, turn_enumL a (s1.heap.objs.size + 1) s1.heap.objs.size (Nat.ne_of_lt (Nat.lt_succ_of_lt hlt)) (Nat.ne_of_lt hlt), ⟨⟨.none, he⟩, hit, Nat.succ_ne_self _⟩, fr, q hz⟩
    · obtain ⟨its, rv, p', hz⟩ := I1.tuple hq
      obtain ⟨o1, ho1, _⟩ := id p'
      have hlt : a < s1.heap.objs.size := Heap.lt_size ho1
      refine call_enum1 (begins_tuple a its.toArray) p' fun h' he hit hsz hk => wpAny_pyIter_enum he ?_
      have I2 : Inv X pins σ H1 { s1 with heap := h' } := I1.kept (t' := s1.toks) hk
      exact ⟨s1.heap.objs.size + 1, [s1.heap.objs.size + 1, s1.heap.objs.size], _, _, H1, rfl, I2, turn_enumT a (s1.heap.objs.size + 1) s1.heap.objs.size (Nat.ne_of_lt (Nat.lt_succ_of_lt hlt)) (Nat.ne_of_lt hlt), ⟨⟨.none, he⟩, ⟨_, hit, rfl, rfl⟩, Nat.succ_ne_self _⟩, fr, q hz⟩
theorem DaAll.oneD {K : PySem.W.Frag} {B : Hp} {vs : List V} {d : PyData} (h : DaAll K B vs [d]) : ∃ v, vs = [v] ∧ Da K B v d := by
  cases h with | cons h1 t => cases t; exact ⟨_, rfl, h1⟩
theorem DaAll.twoD {K : PySem.W.Frag} {B : Hp} {vs : List V} {d e : PyData} (h : DaAll K B vs [d, e]) : ∃ v w, vs = [v, w] ∧ Da K B v d ∧ Da K B w e := by
  cases h with | cons h1 t => obtain ⟨w, rfl, h2⟩ := DaAll.oneD t; exact ⟨_, w, rfl, h1, h2⟩
theorem DaAll.threeD {K : PySem.W.Frag} {B : Hp} {vs : List V} {d e f : PyData} (h : DaAll K B vs [d, e, f]) : ∃ v w u, vs = [v, w, u] ∧ Da K B v d ∧ Da K B w e ∧ Da K B u f := by
  cases h with | cons h1 t => obtain ⟨w, u, rfl, h2, h3⟩ := DaAll.twoD t; exact ⟨_, w, u, rfl, h1, h2, h3⟩
theorem i_enum {e : Expr} {d : Dn Rv} {tpos : Pos} {elts : List Expr} {kk m k : Nat} (c : Cok Z X m k) (hm : X.mg "enumerate" = none) (ha : PA X [e] (tAC Z [d])) (hg : Gl X "enumerate" := by rfl) (hs : starEach [e] X.env = [(false, eval e X.env)] := by rfl) :
    PI X (.Tuple elts kk tpos) (.Call (.Name "enumerate" p) [e] [] pos) (tI Z (dIt gEnum [d])) := by
  refine PI_imp (pi_enumA hg hm ha hs) fun σ H R h => ?_
  obtain ⟨B, env, R0, h⟩ := it_of h
  refine ⟨B, env, R0, post.imp h fun vs H1 ⟨B1, ds, items, s, q, hg, p⟩ => ?_⟩
  rw [c.hK]
  unfold gEnum at hg
  split at hg
  · next xs =>
    cases hg
    obtain ⟨v, rfl, q1⟩ := q.oneD
    obtain ⟨a, vs, rfl, h1, h2⟩ := Da.lstI q1
    exact ⟨a, vs, rfl, .inl ⟨s.seq h1, fun hz => p _ (goes_enumL h1 h2) (by rw [enumL_length, ← h2.length]; exact hz)⟩⟩
  · next xs =>
    cases hg
    obtain ⟨v, rfl, q1⟩ := q.oneD
    obtain ⟨a, vs, rfl, h1, h2⟩ := Da.tupI q1
    exact ⟨a, vs, rfl, .inr ⟨SqT.mono s h1, fun hz => p _ (goes_enumT h1 h2) (by rw [enumL_length, ← h2.length]; exact hz)⟩⟩
  · cases hg

/-! ### zip -/
def zip2L : List PyData → List PyData → List PyData
  | x :: xs, y :: ys => .tuple [x, y] :: zip2L xs ys
  | _, _ => []
def zip3L : List PyData → List PyData → List PyData → List PyData
  | x :: xs, y :: ys, z :: zs => .tuple [x, y, z] :: zip3L xs ys zs
  | _, _, _ => []
theorem zip2L_get : ∀ {xs ys : List PyData} {i : Nat} {d : PyData}, (zip2L xs ys)[i]? = some d → ∃ x y, xs[i]? = some x ∧ ys[i]? = some y ∧ d = .tuple [x, y]
  | [], _, i, d, h => by unfold zip2L at h; simp at h
  | _ :: _, [], i, d, h => by unfold zip2L at h; simp at h
  | x :: xs, y :: ys, 0, d, h => by unfold zip2L at h; exact ⟨x, y, rfl, rfl, (Option.some.inj h).symm⟩
  | x :: xs, y :: ys, i + 1, d, h => by
    unfold zip2L at h
    rw [List.getElem?_cons_succ] at h
    simpa using zip2L_get h
theorem zip2L_length : ∀ (xs ys : List PyData), (zip2L xs ys).length = min xs.length ys.length
  | [], _ => by unfold zip2L; simp
  | _ :: _, [] => by unfold zip2L; simp
  | x :: xs, y :: ys => by unfold zip2L; rw [List.length_cons, List.length_cons, List.length_cons, zip2L_length]; omega
theorem zip3L_get : ∀ {xs ys zs : List PyData} {i : Nat} {d : PyData}, (zip3L xs ys zs)[i]? = some d → ∃ x y z, xs[i]? = some x ∧ ys[i]? = some y ∧ zs[i]? = some z ∧ d = .tuple [x, y, z]
  | [], _, _, i, d, h => by unfold zip3L at h; simp at h
  | _ :: _, [], _, i, d, h => by unfold zip3L at h; simp at h
  | _ :: _, _ :: _, [], i, d, h => by unfold zip3L at h; simp at h
  | x :: xs, y :: ys, z :: zs, 0, d, h => by unfold zip3L at h; exact ⟨x, y, z, rfl, rfl, rfl, (Option.some.inj h).symm⟩
  | x :: xs, y :: ys, z :: zs, i + 1, d, h => by
    unfold zip3L at h
    rw [List.getElem?_cons_succ] at h
    simpa using zip3L_get h
theorem zip3L_length : ∀ (xs ys zs : List PyData), (zip3L xs ys zs).length = min (min xs.length ys.length) zs.length
  | [], _, _ => by unfold zip3L; simp
  | _ :: _, [], _ => by unfold zip3L; simp
  | _ :: _, _ :: _, [] => by unfold zip3L; simp
  | x :: xs, y :: ys, z :: zs => by unfold zip3L; rw [List.length_cons, List.length_cons, List.length_cons, List.length_cons, zip3L_length]; omega
def gZip2 : List PyData → Option (List PyData)
  | [.tuple xs, .tuple ys] => some (zip2L xs ys)
  | _ => none
def gZip3 : List PyData → Option (List PyData)
  | [.tuple xs, .tuple ys, .list zs] => some (zip3L xs ys zs)
  | _ => none
theorem pi_zipB {e e2 : Expr} {ta : TA} {tpos : Pos} {elts : List Expr} {kk : Nat} (hg : Gl X "zip") (hm : X.mg "zip" = none) (ha : PA X [e, e2] ta)
    (hs : starEach [e, e2] X.env = (false, eval e X.env) :: starEach [e2] X.env := by rfl) (hpl : (backTo pos (starEach [e2] X.env)).any (·.1) = false := by rfl) :
    PI X (.Tuple elts kk tpos) (.Call (.Name "zip" p) [e, e2] [] pos) (fun σ H R => ta σ H fun vs H1 => ∃ a b xs ys, vs = [.ref a, .ref b] ∧ SqT X.K H1 a xs ∧ SqT X.K H1 b ys ∧ (xs.length ≤ sizeLine → R (Itz2 X.K a b) H1)) := by
  refine ⟨fun pins s σ H R I h => ?_⟩
  refine Call_ (ld_blt I hg hm PyProof.Rows.boot_zip (PyProof.Rows.callWith_type1 (thn (ha.run pos pins s σ H _ I h) fun us s1 ⟨vs, H1, I1, r1, q1⟩ => ?_) hs hpl))
  obtain ⟨a, b, xs, ys, ex, q1⟩ := q1
  subst ex
  cases r1 with
  | cons r rr =>
    cases rr with
    | cons r' rr =>
      cases rr
      cases r
      cases r'
      have fresh5 : ∀ c, c ∈ [s1.heap.objs.size + 4, s1.heap.objs.size + 2, s1.heap.objs.size + 3, s1.heap.objs.size, s1.heap.objs.size + 1] → FpOk X pins H1 c := fun c hcm => by
        have e' : c = s1.heap.objs.size + 4 ∨ c = s1.heap.objs.size + 2 ∨ c = s1.heap.objs.size + 3 ∨ c = s1.heap.objs.size ∨ c = s1.heap.objs.size + 1 := by simpa using hcm
        have hle : s1.heap.objs.size ≤ c := by omega
        exact I1.fpOk hle (I1.hok.fresh hle)
      obtain ⟨hqx, hqy, q⟩ := q1
      · obtain ⟨its, rv, p1, hz1⟩ := I1.tuple hqx
        obtain ⟨its2, rv2, p2, _⟩ := I1.tuple hqy
        obtain ⟨o1, ho1, _⟩ := id p1
        obtain ⟨o2, ho2, _⟩ := id p2
        refine RZ.call_zipT (show s1.heap.IsTuple a its.toArray from p1) (show s1.heap.IsTuple b its2.toArray from p2) fun h' hz hTI hTO h1 h2 hsz hk => wpAny_pyIter_zip hz ?_
        have I2 : Inv X pins σ H1 { s1 with heap := h' } := I1.kept (t' := s1.toks) hk
        exact ⟨s1.heap.objs.size + 4, [s1.heap.objs.size + 4, s1.heap.objs.size + 2, s1.heap.objs.size + 3, s1.heap.objs.size, s1.heap.objs.size + 1], _, _, H1, rfl, I2, turn_zip2 (PySem.W.ktu_apart s1.heap.objs.size a b (Heap.lt_size ho1) (Heap.lt_size ho2)), ⟨hz, hTI, ⟨_, _, hTO⟩, h1, h2⟩, fresh5, q hz1⟩
theorem goes_zipT {B : Hp} {a b : Addr} {vs us : List V} {ds es : List PyData} (h1 : SqT Z.K B a vs) (h2 : DaAll Z.K B vs ds) (h3 : SqT Z.K B b us) (h4 : DaAll Z.K B us es) : Goes Z B (Itz2 Z.K a b) (zip2L ds es) := by
  intro i B1 H1 s1 s2
  have hq : SqT Z.K H1 a vs := SqT.mono (s1.trans s2) h1
  have hr : SqT Z.K H1 b us := SqT.mono (s1.trans s2) h3
  refine ⟨fun x hx => ?_, fun e => ⟨vs, us, hq, hr, by rw [h2.length, h4.length, e, zip2L_length]; omega⟩⟩
  obtain ⟨x, y, hx1, hy, rfl⟩ := zip2L_get hx
  obtain ⟨v, hv, hd⟩ := h2.get hx1
  obtain ⟨u, hu, hd'⟩ := h4.get hy
  refine ⟨⟨vs, us, v, u, hq, hr, hv, hu⟩, fun w H2 yy => ?_⟩
  obtain ⟨T, x', y', o, rfl, ho, hT, rfl, hx', hy'⟩ := yy
  have e := hx' vs hq
  rw [hv] at e
  cases e
  have e := hy' us hr
  rw [hu] at e
  cases e
  have x2 := Ext.one (.frz o (.tup [v, u])) s2 hT
  exact ⟨_, x2, .tup (.inl ⟨o, upd_same, ho⟩) (.cons (Da.mono (s1.trans x2.b) _ hd) (.cons (Da.mono (s1.trans x2.b) _ hd') .nil))⟩
theorem i_zip2 {e e2 : Expr} {d d2 : Dn Rv} {tpos : Pos} {elts : List Expr} {kk m k : Nat} (c : Cok Z X m k) (hm : X.mg "zip" = none) (ha : PA X [e, e2] (tAC Z [d, d2])) (hg : Gl X "zip" := by rfl)
    (hs : starEach [e, e2] X.env = (false, eval e X.env) :: starEach [e2] X.env := by rfl) (hpl : (backTo pos (starEach [e2] X.env)).any (·.1) = false := by rfl) :
    PI X (.Tuple elts kk tpos) (.Call (.Name "zip" p) [e, e2] [] pos) (tI Z (dIt gZip2 [d, d2])) := by
  refine PI_imp (pi_zipB hg hm ha hs hpl) fun σ H R h => ?_
  obtain ⟨B, env, R0, h⟩ := it_of h
  refine ⟨B, env, R0, post.imp h fun vs H1 ⟨B1, ds, items, s, q, hg, p⟩ => ?_⟩
  rw [c.hK]
  unfold gZip2 at hg
  split at hg
  · next xs ys =>
    cases hg
    obtain ⟨v, u, rfl, q1, q2⟩ := q.twoD
    obtain ⟨a, vs, rfl, h1, h2⟩ := Da.tupI q1
    obtain ⟨b, us, rfl, h3, h4⟩ := Da.tupI q2
    exact ⟨a, b, vs, us, rfl, SqT.mono s h1, SqT.mono s h3, fun hz => p _ (goes_zipT h1 h2 h3 h4) (by rw [zip2L_length, ← h2.length]; omega)⟩
  · cases hg
theorem goes_zip3 {B : Hp} {a b c : Addr} {vs us ws : List V} {ds es fs : List PyData} (h1 : SqT Z.K B a vs) (h2 : DaAll Z.K B vs ds) (h3 : SqT Z.K B b us) (h4 : DaAll Z.K B us es) (h5 : SqL Z.K B c ws) (h6 : DaAll Z.K B ws fs) : Goes Z B (Itz3 Z.K a b c) (zip3L ds es fs) := by
  intro i B1 H1 s1 s2
  have hq : SqT Z.K H1 a vs := SqT.mono (s1.trans s2) h1
  have hr : SqT Z.K H1 b us := SqT.mono (s1.trans s2) h3
  have ht : SqL Z.K H1 c ws := (s1.trans s2).seq h5
  have l1 := h2.length
  have l2 := h4.length
  have l3 := h6.length
  refine ⟨fun x hx => ?_, fun e => ?_⟩
  · obtain ⟨x, y, z, hx1, hy, hz, rfl⟩ := zip3L_get hx
    obtain ⟨v, hv, hd⟩ := h2.get hx1
    obtain ⟨u, hu, hd'⟩ := h4.get hy
    obtain ⟨w, hw, hd''⟩ := h6.get hz
    refine ⟨⟨vs, us, ws, v, u, w, hq, hr, ht, hv, hu, hw⟩, fun _ H2 yy => ?_⟩
    obtain ⟨T, x', y', z', o, rfl, ho, hT, rfl, hx', hy', hz'⟩ := yy
    have e := hx' vs hq
    rw [hv] at e
    cases e
    have e := hy' us hr
    rw [hu] at e
    cases e
    have e := hz' ws ht
    rw [hw] at e
    cases e
    have x2 := Ext.one (.frz o (.tup [v, u, w])) s2 hT
    exact ⟨_, x2, .tup (.inl ⟨o, upd_same, ho⟩) (.cons (Da.mono (s1.trans x2.b) _ hd) (.cons (Da.mono (s1.trans x2.b) _ hd') (.cons (Da.mono (s1.trans x2.b) _ hd'') .nil)))⟩
  · rw [zip3L_length] at e
    exact ⟨vs, us, ws, hq, hr, ht, by omega, by omega, by omega, by omega⟩
theorem i_zip3 {e e2 e3 : Expr} {d d2 d3 : Dn Rv} {tpos : Pos} {elts : List Expr} {kk m k : Nat} (c : Cok Z X m k) (hm : X.mg "zip" = none) (ha : PA X [e, e2, e3] (tAC Z [d, d2, d3])) (hg : Gl X "zip" := by rfl)
    (hs : starEach [e, e2, e3] X.env = (false, eval e X.env) :: starEach [e2, e3] X.env := by rfl) (hpl : (backTo pos (starEach [e2, e3] X.env)).any (·.1) = false := by rfl) :
    PI X (.Tuple elts kk tpos) (.Call (.Name "zip" p) [e, e2, e3] [] pos) (tI Z (dIt gZip3 [d, d2, d3])) := by
  refine ⟨fun pins s σ H R I h => ?_⟩
  have h := it_of h
  refine Call_ (ld_blt I hg hm PyProof.Rows.boot_zip (PyProof.Rows.callWith_type1 (thn (ha.run pos pins s σ H _ I h) fun us s1 ⟨vs, H1, I1, r1, B1, ds, items, s, q, hg, p⟩ => ?_) hs hpl))
  unfold gZip3 at hg
  split at hg
  · next xs ys zs =>
    cases hg
    obtain ⟨v, u, w, rfl, q1, q2, q3⟩ := q.threeD
    obtain ⟨a, vs, rfl, h1, h2⟩ := Da.tupI q1
    obtain ⟨b, us, rfl, h3, h4⟩ := Da.tupI q2
    obtain ⟨cc, ws, rfl, h5, h6⟩ := Da.lstI q3
    cases r1 with
    | cons r rr => cases rr with
      | cons r' rr => cases rr with
        | cons r'' rr =>
          cases rr
          cases r
          cases r'
          cases r''
          obtain ⟨its1, rv1, p1, hz1⟩ := I1.tuple (show SqT X.K H1 a vs by rw [c.hK]; exact SqT.mono s h1)
          obtain ⟨its2, rv2, p2, _⟩ := I1.tuple (show SqT X.K H1 b us by rw [c.hK]; exact SqT.mono s h3)
          obtain ⟨its3, rv3, p3, _⟩ := I1.list (show SqL X.K H1 cc ws by rw [c.hK]; exact s.seq h5)
          obtain ⟨o1, ho1, _⟩ := id p1
          obtain ⟨o2, ho2, _⟩ := id p2
          have lt1 : a < s1.heap.objs.size := Heap.lt_size ho1
          have lt2 : b < s1.heap.objs.size := Heap.lt_size ho2
          have lt3 : cc < s1.heap.objs.size := p3.lt
          have fresh6 : ∀ c, c ∈ [s1.heap.objs.size + 5, s1.heap.objs.size + 3, s1.heap.objs.size + 4, s1.heap.objs.size, s1.heap.objs.size + 1, s1.heap.objs.size + 2] → FpOk X pins H1 c := fun c hcm => by
            have e' : c = s1.heap.objs.size + 5 ∨ c = s1.heap.objs.size + 3 ∨ c = s1.heap.objs.size + 4 ∨ c = s1.heap.objs.size ∨ c = s1.heap.objs.size + 1 ∨ c = s1.heap.objs.size + 2 := by simpa using hcm
            have hle : s1.heap.objs.size ≤ c := by omega
            exact I1.fpOk hle (I1.hok.fresh hle)
          refine zip_begins3 (begins_tuple a its1.toArray) (begins_tuple b its2.toArray) (begins_list cc its3.toArray) p1 p2 p3.isList fun h' hz hTI hTO g1 g2 g3 hsz hk => wpAny_pyIter_zip hz ?_
          have I2 : Inv X pins σ H1 { s1 with heap := h' } := I1.kept (t' := s1.toks) hk
          have S := zip_sep3 (N := s1.heap.objs.size) (fp1 := [a]) (fp2 := [b]) (fp3 := [cc]) (by simpa using lt1) (by simpa using lt2) (by simpa using lt3)
          refine ⟨s1.heap.objs.size + 5, [s1.heap.objs.size + 5, s1.heap.objs.size + 3, s1.heap.objs.size + 4, s1.heap.objs.size, s1.heap.objs.size + 1, s1.heap.objs.size + 2], _, _, H1, rfl, I2, turn_zip3 (a := a) (b := b) (c := cc) S (Nat.ne_of_lt lt1) (Nat.ne_of_lt (Nat.lt_succ_of_lt lt2)) (Nat.ne_of_lt (Nat.lt_succ_of_lt (Nat.lt_succ_of_lt lt3))), ⟨hz, hTI, ⟨_, _, _, hTO⟩, ⟨_, g1, rfl, rfl⟩, ⟨_, g2, rfl, rfl⟩, ⟨_, g3, rfl, rfl⟩⟩, fresh6, ?_⟩
          rw [c.hK]
          exact p _ (goes_zip3 h1 h2 h3 h4 h5 h6) (by rw [zip3L_length, ← h2.length]; omega)
  · cases hg
end
end DL

/-! D8: operators and comparisons. -/
namespace DL
open PySem PySem.Spec PyProof.Rows L2

/-! ### a result -/
theorem PostB.imm {K : PySem.W.Frag} {B H : Hp} {Q : VK} {v : V} {d : PyData} (s : Same B H) (h : PostB K B H Q (.fz d)) (hd : ∀ B, Da K B v d) : Q v H := h v H B (Ext.refl s) (hd B)
theorem PostB.old {K : PySem.W.Frag} {B H : Hp} {Q : VK} {v : V} {d : PyData} (s : Same B H) (h : PostB K B H Q (.fz d)) (hd : Da K B v d) : Q v H := h v H B (Ext.refl s) hd
theorem PostB.tup {K : PySem.W.Frag} {B H : Hp} {Q : VK} {vs : List V} {ds : List PyData} {p : Addr} (s : Same B H) (h : PostB K B H Q (.fz (.tuple ds))) (hd : DaAll K B vs ds) {o : Obj} (ho : TO o) (hp : H p = none) : Q (.ref p) (upd H p (.frz o (.tup vs))) := by
  have x := Ext.one (.frz o (.tup vs)) s hp
  exact h _ _ _ x (.tup (.inl ⟨o, upd_same, ho⟩) (DaAll.mono x.b _ hd))
theorem Inv.lstR {X : Cx} {pins : List (Addr × Obj)} {σ : St} {H : Hp} {s : Shared} {l : Addr} {xs : List V} (I : Inv X pins σ H s) (h : Rd H l (.lst xs)) :
    xs.length ≤ sizeLine ∧ ∃ (its : List Value) (n : Nat), Vals xs its ∧ xs.length = its.length ∧ s.heap.get? l = some { cls := .type "list", data := .seq its.toArray n } := by
  obtain ⟨z, its, n, r, e⟩ := h.ok I.hok
  exact ⟨z, its, n, r, r.length, e⟩
/-- the two arguments -/
theorem rD2_of {K : PySem.W.Frag} {g : List PyData → Option Out} {x y : V} {H : Hp} {Q : VK} (h : rD2 K g x y H Q) : ∃ B d e out, Same B H ∧ Ar K B H x d ∧ Ar K B H y e ∧ g [d, e] = some out ∧ PostB K B H Q out := by
  obtain ⟨B, ds, out, s, ar, hg, q⟩ := h
  obtain ⟨d, e, rfl, a1, a2⟩ := ar.two
  exact ⟨B, d, e, out, s, a1, a2, hg, q⟩
theorem rD1_of {K : PySem.W.Frag} {g : List PyData → Option Out} {vs : List V} {H : Hp} {Q : VK} {x : V} (e : vs = [x]) (h : rD K g vs H Q) : ∃ B d out, Same B H ∧ Ar K B H x d ∧ g [d] = some out ∧ PostB K B H Q out := by
  subst e
  obtain ⟨B, ds, out, s, ar, hg, q⟩ := h
  obtain ⟨d, rfl, a1⟩ := ar.one
  exact ⟨B, d, out, s, a1, hg, q⟩
section
variable {X : Cx}
/-! ### arithmetic -/
def gAdd : List PyData → Option Out
  | [.int a, .int b] => some (.fz (.int (a + b)))
  | [.tuple xs, .tuple ys] => if xs.length + ys.length ≤ 100000 then some (.fz (.tuple (xs ++ ys))) else none
  | [.list xs, .list ys] => if xs.length + ys.length ≤ 100000 then some (.nl (xs ++ ys)) else none
  | [.str a, .str b] => if a.length + b.length ≤ 100000 then some (.fz (.str (a ++ b))) else none
  | _ => none
theorem le_line {n : Nat} (h : n ≤ 100000) : n ≤ sizeLine := Nat.le_trans h (by decide)
theorem op_catR : OpR X (binaryOp .Add) (fun x y H Q => ∃ l b xs zs, x = .ref l ∧ y = .ref b ∧ SqL X.K H l xs ∧ SqL X.K H b zs ∧ xs.length + zs.length ≤ sizeLine ∧ ∀ p, H p = none → Q (.ref p) (upd H p (.lst (xs ++ zs)))) := by
  intro pins s σ H x y v u Q I rx ry h
  obtain ⟨l, b, xs, zs, rfl, rfl, hH, hB, hz, q⟩ := h
  cases rx
  cases ry
  obtain ⟨its, r, ⟨⟨cls, dd, data, sl⟩, n, ho, hc, hdd, hd⟩, z⟩ := I.list hH
  obtain ⟨its2, r2, ⟨⟨cls2, dd2, data2, sl2⟩, n2, ho2, hc2, hdd2, hd2⟩, z2⟩ := I.list hB
  simp only at hc hd hc2 hd2
  subst hc hd hc2 hd2
  have hl := r.length
  have hl2 := r2.length
  refine concat_meets ⟨_, ho, rfl⟩ ⟨_, ho2, rfl⟩ noFill_list_add seq_list_add PySem.F.slot_list_add PySem.F.entry_list_add (PySem.F.args_list_add_2 _ _) (list_addW l b its.toArray its2.toArray n n2 dd dd2 sl sl2 (by rw [List.size_toArray, List.size_toArray]; omega)) ⟨ho, ho2, ?_⟩
  have ea : its.toArray ++ its2.toArray = (its ++ its2).toArray := by simp
  rw [ea]
  exact ⟨.ref _, _, I.lnew (t' := s.toks) (r.append r2) (by rw [List.length_append]; omega), rfl, q _ I.fresh⟩
theorem o_add : OpR X (binaryOp .Add) (rD2 X.K gAdd) := by
  intro pins s σ H x y v u Q I rx ry h
  obtain ⟨B, d, e, out, sB, a1, a2, hg, q⟩ := rD2_of h
  unfold gAdd at hg
  split at hg
  · next a b e1 =>
    cases e1; cases hg
    rw [a1.int] at rx
    rw [a2.int] at ry
    exact op_add pins s σ H _ _ v u Q I rx ry ⟨a, b, rfl, rfl, q.imm sB fun _ => .int _⟩
  · next xs ys e1 =>
    cases e1
    split at hg
    · next hz =>
      cases hg
      obtain ⟨p1, vs, rfl, s1, d1⟩ := a1.tup
      obtain ⟨p2, us, rfl, s2, d2⟩ := a2.tup
      have l1 := d1.length
      have l2 := d2.length
      refine op_catN pins s σ H _ _ v u Q I rx ry ⟨p1, p2, vs, us, rfl, rfl, SqN.up sB s1, SqN.up sB s2, by rw [l1, l2]; exact le_line hz, fun e => ?_, fun _ e => ?_, fun _ _ p o ho hp => q.tup sB (d1.append d2) ho hp⟩
      · subst e
        cases d1
        exact q.old sB (.tup s2 d2)
      · subst e
        cases d2
        rw [List.append_nil] at q
        exact q.old sB (.tup s1 d1)
    · cases hg
  · next xs ys e1 =>
    cases e1
    split at hg
    · next hz =>
      cases hg
      obtain ⟨p1, vs, rfl, s1, d1⟩ := a1.lst sB
      obtain ⟨p2, us, rfl, s2, d2⟩ := a2.lst sB
      have l1 := d1.length
      have l2 := d2.length
      exact op_catR pins s σ H _ _ v u Q I rx ry ⟨p1, p2, vs, us, rfl, rfl, s1, s2, by rw [l1, l2]; exact le_line hz, fun p hp => q p _ hp (d1.append d2)⟩
    · cases hg
  · next a b e1 =>
    cases e1
    split at hg
    · next hz =>
      cases hg
      rw [a1.str] at rx
      rw [a2.str] at ry
      exact op_add_str pins s σ H _ _ v u Q I rx ry ⟨a, b, rfl, rfl, le_line hz, q.imm sB fun _ => .str _⟩
    · cases hg
  · cases hg
def gI2 (C : Int → Int → Bool) (f : Int → Int → PyData) : List PyData → Option Out
  | [.int a, .int b] => if C a b = true then some (.fz (f a b)) else none
  | _ => none
theorem gI2_of {C : Int → Int → Bool} {f : Int → Int → PyData} {K : PySem.W.Frag} {x y : V} {H : Hp} {Q : VK} (h : rD2 K (gI2 C f) x y H Q) : ∃ B a b, x = .int a ∧ y = .int b ∧ C a b = true ∧ Same B H ∧ PostB K B H Q (.fz (f a b)) := by
  obtain ⟨B, d, e, out, sB, a1, a2, hg, q⟩ := rD2_of h
  unfold gI2 at hg
  split at hg
  · next a b e1 =>
    cases e1
    split at hg
    · next hc => cases hg; exact ⟨B, a, b, a1.int, a2.int, hc, sB, q⟩
    · cases hg
  · cases hg
def gSub := gI2 (fun _ _ => true) fun a b => .int (a - b)
theorem o_sub : OpR X (binaryOp .Sub) (rD2 X.K gSub) := by
  intro pins s σ H x y v u Q I rx ry h
  obtain ⟨B, a, b, rfl, rfl, hc, sB, q⟩ := gI2_of h
  exact op_sub pins s σ H _ _ v u Q I rx ry ⟨a, b, rfl, rfl, q.imm sB fun _ => .int _⟩
def gDiv := gI2 (fun _ b => decide (0 < b) && decide (b < 1073741824)) fun a b => .int (a / b)
theorem o_div : OpR X (binaryOp .FloorDiv) (rD2 X.K gDiv) := by
  intro pins s σ H x y v u Q I rx ry h
  obtain ⟨B, a, b, rfl, rfl, hc, sB, q⟩ := gI2_of h
  simp only [Bool.and_eq_true, decide_eq_true_eq] at hc
  exact op_fdiv pins s σ H _ _ v u Q I rx ry ⟨a, b, rfl, rfl, hc, q.imm sB fun _ => .int _⟩
def gMod := gI2 (fun _ b => decide (0 < b)) fun a b => .int (a % b)
theorem o_mod : OpR X (binaryOp .Mod) (rD2 X.K gMod) := by
  intro pins s σ H x y v u Q I rx ry h
  obtain ⟨B, a, b, rfl, rfl, hc, sB, q⟩ := gI2_of h
  simp only [decide_eq_true_eq] at hc
  exact op_mod pins s σ H _ _ v u Q I rx ry ⟨a, b, rfl, rfl, hc, q.imm sB fun _ => .int _⟩
def gPow := gI2 (fun a b => decide (0 ≤ b) && decide (b ≤ 1000) && decide (a.natAbs < 2 ^ 64)) fun a b => .int (a ^ b.toNat)
theorem o_pow : OpR X (binaryOp .Pow) (rD2 X.K gPow) := by
  intro pins s σ H x y v u Q I rx ry h
  obtain ⟨B, a, b, rfl, rfl, hc, sB, q⟩ := gI2_of h
  simp only [Bool.and_eq_true, decide_eq_true_eq] at hc
  exact op_pow pins s σ H _ _ v u Q I rx ry ⟨a, b, rfl, rfl, ⟨hc.1.1, Int.le_trans hc.1.2 (by decide), hc.2⟩, q.imm sB fun _ => .int _⟩
def gNeg : List PyData → Option Out
  | [.int a] => some (.fz (.int (-a)))
  | _ => none
theorem u_neg : UnR X (unaryOp .USub) (rD1 X.K gNeg) := by
  intro pins s σ H x v Q I rx h
  obtain ⟨B, d, out, sB, a1, hg, q⟩ := rD1_of rfl h
  unfold gNeg at hg
  split at hg
  · next a e1 =>
    cases e1; cases hg
    rw [a1.int] at rx
    exact un_neg pins s σ H _ v Q I rx ⟨a, rfl, q.imm sB fun _ => .int _⟩
  · cases hg
theorem tuple_mul_same (l : Addr) (items : Array Value) (n : Nat) (dd : Option Addr) (sl : Array (Option Value)) (x : Int) (u : Tok) (c0 : (decide (x < -(2 ^ 63)) || decide (x ≥ 2 ^ 63)) = false) (c1 : (items.isEmpty || x == 1) = true) :
    Meets (Builtin.«tuple.__mul__» ⟨[.ref l, .int x u], []⟩) (fun _ R s => s.heap.get? l = some { cls := .type "tuple", dict := dd, data := .seq items n, slots := sl } ∧ R (.ok (.ret (Value.ref l))) s) :=
  .of_wp fun prog w A R s h => by
    obtain ⟨hp, g, d, tk, os⟩ := s
    obtain ⟨hl, h⟩ := h
    have f1 := AutoSeq1.idx_int
    wp_walk using AutoSeq1.wpAny_loadPart' hl
    repeat (first
      | (refine wpAny_ite_false (decide_eq_false (by rw [c0]; exact Bool.false_ne_true)) ?_; wp_walk using AutoSeq1.wpAny_loadPart' hl)
      | (refine wpAny_ite_true (decide_eq_true c1) ?_; wp_walk using AutoSeq1.wpAny_loadPart' hl))
    exact ⟨_, rfl, h⟩
theorem tuple_mul_none (l : Addr) (items : Array Value) (n : Nat) (dd : Option Addr) (sl : Array (Option Value)) (x : Int) (u : Tok) (c0 : (decide (x < -(2 ^ 63)) || decide (x ≥ 2 ^ 63)) = false) (c1 : (items.isEmpty || x == 1) = false) (c2 : (decide (x ≤ 0) || items.isEmpty) = true) :
    Meets (Builtin.«tuple.__mul__» ⟨[.ref l, .int x u], []⟩) (fun _ R s => s.heap.get? l = some { cls := .type "tuple", dict := dd, data := .seq items n, slots := sl } ∧
      R (.ok (.ret (Value.ref s.heap.objs.size))) { s with heap := s.heap.push { cls := Value.type "tuple", data := Data.seq #[] }, toks := s.toks }) :=
  .of_wp fun prog w A R s h => by
    obtain ⟨hp, g, d, tk, os⟩ := s
    obtain ⟨hl, h⟩ := h
    have f1 := AutoSeq1.idx_int
    wp_walk using AutoSeq1.wpAny_loadPart' hl
    repeat (first
      | (refine wpAny_ite_false (decide_eq_false (by rw [c0]; exact Bool.false_ne_true)) ?_; wp_walk using AutoSeq1.wpAny_loadPart' hl)
      | (refine wpAny_ite_false (decide_eq_false (by rw [c1]; exact Bool.false_ne_true)) ?_; wp_walk using AutoSeq1.wpAny_loadPart' hl)
      | (refine wpAny_ite_true (decide_eq_true c2) ?_; wp_walk using AutoSeq1.wpAny_loadPart' hl))
    exact ⟨_, rfl, h⟩
/-- a tuple times an int: one, none, itself -/
theorem op_repT1 : OpR X (binaryOp .Mult) (fun x y H Q => ∃ l k xs, x = .ref l ∧ y = .int k ∧ SqT X.K H l xs ∧ -1000 ≤ k ∧ k ≤ 1000 ∧ (xs = [] ∨ k ≤ 1) ∧ (xs = [] ∨ k = 1 → Q (.ref l) H) ∧ (xs ≠ [] → k ≤ 0 → NewT H Q [])) := by
  intro pins s σ H x y v u Q I rx ry h
  obtain ⟨l, k, xs, rfl, rfl, hT, h1, h2, h3, q1, q2⟩ := h
  cases rx
  obtain ⟨t, rfl⟩ := ry
  obtain ⟨its, r, ⟨⟨cls, dd, data, sl⟩, ho, hc, n, hd⟩, hs⟩ := I.tuple hT
  simp only at hc hd
  subst hc hd
  have hle : its.length = xs.length := r.length.symm
  have c0 : (decide (k < -(2 ^ 63)) || decide (k ≥ 2 ^ 63)) = false := by
    rw [decide_eq_false (by omega), decide_eq_false (by omega)] <;> rfl
  by_cases hc1 : (its.toArray.isEmpty || k == 1) = true
  · refine wpAny_binaryOp_repeat_ref (T := "tuple") (U := "int") (by decide) ⟨_, ho, rfl⟩ (fun s' => typeIs_int s' k t) noFill_tuple_mul F.fills_int_mul F.slot_int_rmul repeat_tuple F.slot_int_index.lookup
      (call_meets F.slot_int_rmul (typeIs_int s k t) F.entry_int_rmul (F.args_int_rmul_2 _ _) (int_rmul_tuple k t l its.toArray n dd sl)
        ⟨ho, rfl, ⟨_, ho, rfl⟩, call_meets F.slot_tuple_mul ⟨_, ho, rfl⟩ F.entry_tuple_mul (F.args_tuple_mul_2 _ _) (tuple_mul_same l its.toArray n dd sl k t c0 hc1) ⟨ho, ?_⟩⟩)
    refine ⟨.ref l, H, I, rfl, q1 ?_⟩
    rw [Bool.or_eq_true] at hc1
    rcases hc1 with z | z
    · have : its = [] := by simpa using z
      rw [this] at hle
      exact .inl (List.eq_nil_of_length_eq_zero hle.symm)
    · exact .inr (by simpa using z)
  · have hc1 : (its.toArray.isEmpty || k == 1) = false := by simpa using hc1
    rw [Bool.or_eq_false_iff] at hc1
    have hk : k ≠ 1 := by simpa using hc1.2
    have hx : xs ≠ [] := fun e => by
      rw [e] at hle
      have : its = [] := List.eq_nil_of_length_eq_zero hle
      rw [this] at hc1
      exact absurd hc1.1 (by decide)
    have hk1 : k ≤ 1 := h3.resolve_left hx
    refine wpAny_binaryOp_repeat_ref (T := "tuple") (U := "int") (by decide) ⟨_, ho, rfl⟩ (fun s' => typeIs_int s' k t) noFill_tuple_mul F.fills_int_mul F.slot_int_rmul repeat_tuple F.slot_int_index.lookup
      (call_meets F.slot_int_rmul (typeIs_int s k t) F.entry_int_rmul (F.args_int_rmul_2 _ _) (int_rmul_tuple k t l its.toArray n dd sl)
        ⟨ho, rfl, ⟨_, ho, rfl⟩, call_meets F.slot_tuple_mul ⟨_, ho, rfl⟩ F.entry_tuple_mul (F.args_tuple_mul_2 _ _) (tuple_mul_none l its.toArray n dd sl k t c0 (by rw [hc1.1, hc1.2]; rfl) (by rw [decide_eq_true (show k ≤ 0 by omega)]; rfl)) ⟨ho, ?_⟩⟩)
    exact laidT (t' := s.toks) (c' := 0) (its := []) I .nil (Nat.zero_le _) (fun b u e => Heap.get?_push_of_some _ e) (Nat.le_refl _) (Heap.get?_push_size _ rfl) (q2 hx (by omega))
theorem list_mulW (l : Addr) (items : Array Value) (n : Nat) (dd : Option Addr) (sl : Array (Option Value)) (x : Int) (u : Tok) (hc0 : ¬(!Builtin.List.listFitsIndex x) = true) (hc1 : ¬items.size * x.toNat > (2 ^ 63 - 1) / 8) (hc2 : ¬Builtin.List.listTooLong (items.size * x.toNat) = true)
    (hsz : (List.foldl (fun x1 x2 => x1 ++ x2) #[] (List.replicate (if items.isEmpty = true then 0 else x.toNat) items)).size ≤ sizeLine) :
    Meets (Builtin.«list.__mul__» ⟨[.ref l, .int x u], []⟩) (fun _ R s => s.heap.get? l = some { cls := .type "list", dict := dd, data := .seq items n, slots := sl } ∧ R (.ok (.ret (Value.ref s.heap.objs.size))) { s with heap := s.heap.push { cls := Value.type "list", data := Data.seq (List.foldl (fun x1 x2 => x1 ++ x2) #[] (List.replicate (if items.isEmpty = true then 0 else x.toNat) items)) }, toks := s.toks }) :=
  .of_wp fun prog w A R s h => by
    obtain ⟨hp, g, d, tk, os⟩ := s
    obtain ⟨hl, h⟩ := h
    have f1 := AutoSeq1.idx_int
    wp_walk using AutoSeq1.wpAny_loadPart' hl
    refine wpAny_ite_false (decide_eq_false (Nat.not_lt.mpr hsz)) ?_
    wp_walk using AutoSeq1.wpAny_loadPart' hl
    exact ⟨_, rfl, h⟩
theorem int_rmul_list (a : Int) (t : Tok) (l : Addr) (items : Array Value) (n : Nat) (dd : Option Addr) (sl : Array (Option Value)) :
    Meets (Builtin.«int.__rmul__» ⟨[.int a t, .ref l], []⟩) (fun _ R s => s.heap.get? l = some { cls := .type "list", dict := dd, data := .seq items n, slots := sl } ∧ R (.ok (.ret Value.notImplemented)) s) :=
  .of_wp fun prog w A R s h => by obtain ⟨hp, g, d, tk, os⟩ := s; obtain ⟨hl, h⟩ := h; wp_walk using AutoSeq1.wpAny_loadPart' hl; exact ⟨_, rfl, h⟩
theorem op_repR : OpR X (binaryOp .Mult) (fun x y H Q => ∃ l k xs, x = .ref l ∧ y = .int k ∧ SqL X.K H l xs ∧ -(2 ^ 63) ≤ k ∧ k < 2 ^ 63 ∧ xs.length * k.toNat ≤ sizeLine ∧
    ∀ p, H p = none → Q (.ref p) (upd H p (.lst (List.replicate k.toNat xs).flatten))) := by
  intro pins s σ H x y v u Q I rx ry h
  obtain ⟨l, k, xs, rfl, rfl, hH, h1, h2, hz, q⟩ := h
  cases rx
  obtain ⟨t, rfl⟩ := ry
  obtain ⟨its, r, ⟨⟨cls, dd, data, sl⟩, n, ho, hc, hdd, hd⟩, z⟩ := I.list hH
  simp only at hc hd
  subst hc hd
  have hl := r.length
  have hlen : its.toArray.size * k.toNat ≤ sizeLine := by rw [List.size_toArray, ← hl]; exact hz
  have hcap : ¬ its.toArray.size * k.toNat > (2 ^ 63 - 1) / 8 := by
    have : (sizeLine : Nat) ≤ (2 ^ 63 - 1) / 8 := by decide
    omega
  have hfit : ¬ (!Builtin.List.listFitsIndex k) = true := by
    rw [fitsIndex_both h1 h2]
    exact Bool.false_ne_true
  have hlong : ¬ Builtin.List.listTooLong (its.toArray.size * k.toNat) = true := by
    rw [notLongL hlen]
    exact Bool.false_ne_true
  have hnew : List.foldl (fun x1 x2 => x1 ++ x2) #[] (List.replicate (if its.toArray.isEmpty = true then 0 else k.toNat) its.toArray) = (List.replicate k.toNat its).flatten.toArray := by
    have f0 : ∀ m : Nat, List.foldl (fun x1 x2 => x1 ++ x2) #[] (List.replicate m its.toArray) = (List.replicate m its).flatten.toArray := fun m => by
      have := foldl_rep its m []
      rw [List.nil_append] at this
      exact this
    rw [f0]
    cases its with
    | nil => simp
    | cons a r' => rw [if_neg (by simp)]
  refine wpAny_binaryOp_repeat_ref (T := "list") (U := "int") (by decide) ⟨_, ho, rfl⟩ (fun s' => typeIs_int s' k t) noFill_list_mul F.fills_int_mul F.slot_int_rmul repeat_list F.slot_int_index.lookup
    (call_meets F.slot_int_rmul (typeIs_int s k t) F.entry_int_rmul (F.args_int_rmul_2 _ _) (int_rmul_list k t l its.toArray n dd sl)
      ⟨ho, rfl, ⟨_, ho, rfl⟩, call_meets F.slot_list_mul ⟨_, ho, rfl⟩ F.entry_list_mul (F.args_list_mul_2 _ _) (list_mulW l its.toArray n dd sl k t hfit hcap hlong (by rw [hnew, List.size_toArray, PyProof.Rows.lm_len_rep_flat, Nat.mul_comm, ← hl]; exact hz)) ⟨ho, ?_⟩⟩)
  rw [hnew]
  exact ⟨.ref _, _, I.lnew (t' := s.toks) (r.rep k.toNat) (by rw [PyProof.Rows.lm_len_rep_flat, Nat.mul_comm]; exact hz), rfl, q _ I.fresh⟩
/-- products: ints; a tuple, a list by an int -/
def gMul : List PyData → Option Out
  | [.int a, .int b] => if (-1000000000000 < b ∧ b < 1000000000000) ∨ (-1000000000000 < a ∧ a < 1000000000000) then some (.fz (.int (a * b))) else none
  | [.tuple xs, .int k] => if xs.length ≤ 1000 ∧ k ≤ 1000 ∧ -1000 ≤ k then some (.fz (.tuple (List.replicate k.toNat xs).flatten)) else none
  | [.list xs, .int k] => if xs.length ≤ 1000 ∧ k ≤ 1000 ∧ -1000 ≤ k then some (.nl (List.replicate k.toNat xs).flatten) else none
  | _ => none
theorem o_mul : OpR X (binaryOp .Mult) (rD2 X.K gMul) := by
  intro pins s σ H x y v u Q I rx ry h
  obtain ⟨B, d, e, out, sB, a1, a2, hg, q⟩ := rD2_of h
  unfold gMul at hg
  split at hg
  · next a b e1 =>
    cases e1
    split at hg
    · next hc =>
      cases hg
      rw [a1.int] at rx
      rw [a2.int] at ry
      refine op_mul pins s σ H _ _ v u Q I rx ry ⟨a, b, rfl, rfl, ?_, q.imm sB fun _ => .int _⟩
      rcases hc with hc | hc
      · exact .inr ⟨by omega, by omega⟩
      · exact .inl ⟨by omega, by omega⟩
    · cases hg
  · next xs k e1 =>
    cases e1
    split at hg
    · next hc =>
      cases hg
      obtain ⟨p1, vs, rfl, s1, d1⟩ := a1.tup
      rw [a2.int] at ry
      have l1 := d1.length
      have dr := d1.rep k.toNat
      by_cases hk : 2 ≤ k ∧ vs ≠ []
      · exact op_repN pins s σ H _ _ v u Q I rx ry ⟨p1, k, vs, rfl, rfl, SqN.up sB s1, hk.2, hk.1, hc.2.1, by omega, fun p o ho hp => q.tup sB dr ho hp⟩
      · by_cases hv : vs = []
        · subst hv
          cases d1
          have e0 : (List.replicate k.toNat ([] : List PyData)).flatten = [] := by simp
          rw [e0] at q
          exact op_repT1 pins s σ H _ _ v u Q I rx ry ⟨p1, k, [], rfl, rfl, SqN.up sB s1, hc.2.2, hc.2.1, .inl rfl, fun _ => q.old sB (.tup s1 .nil), fun h => absurd rfl h⟩
        · have hk1 : k ≤ 1 := by
            have : ¬ 2 ≤ k := fun z => hk ⟨z, hv⟩
            omega
          refine op_repT1 pins s σ H _ _ v u Q I rx ry ⟨p1, k, vs, rfl, rfl, SqN.up sB s1, hc.2.2, hc.2.1, .inr hk1, fun z => ?_, fun _ hk0 p o ho hp => ?_⟩
          · have : k = 1 := z.resolve_left hv
            subst this
            have e0 : (List.replicate (Int.toNat 1) xs).flatten = xs := by simp
            rw [e0] at q
            exact q.old sB (.tup s1 d1)
          · have e1 : k.toNat = 0 := by omega
            rw [e1] at q
            exact q.tup sB (vs := []) .nil ho hp
    · cases hg
  · next xs k e1 =>
    cases e1
    split at hg
    · next hc =>
      cases hg
      obtain ⟨p1, vs, rfl, s1, d1⟩ := a1.lst sB
      rw [a2.int] at ry
      have l1 := d1.length
      refine op_repR pins s σ H _ _ v u Q I rx ry ⟨p1, k, vs, rfl, rfl, s1, by omega, by omega, ?_, fun p hp => q p _ hp (d1.rep k.toNat)⟩
      have : vs.length * k.toNat ≤ 1000 * 1000 := Nat.mul_le_mul (by omega) (by omega)
      exact Nat.le_trans this (by decide)
    · cases hg
  · cases hg

/-! ### comparisons -/
def gLt := gI2 (fun _ _ => true) fun a b => .bool (decide (a < b))
def gLe := gI2 (fun _ _ => true) fun a b => .bool (decide (a ≤ b))
def gGt := gI2 (fun _ _ => true) fun a b => .bool (decide (b < a))
def gGe := gI2 (fun _ _ => true) fun a b => .bool (decide (b ≤ a))
theorem o_lt : OpR X (compareOp .Lt) (rD2 X.K gLt) := by
  intro pins s σ H x y v u Q I rx ry h
  obtain ⟨B, a, b, rfl, rfl, hc, sB, q⟩ := gI2_of h
  exact op_lt pins s σ H _ _ v u Q I rx ry ⟨a, b, rfl, rfl, q.imm sB fun _ => .bl _⟩
theorem o_le : OpR X (compareOp .LtE) (rD2 X.K gLe) := by
  intro pins s σ H x y v u Q I rx ry h
  obtain ⟨B, a, b, rfl, rfl, hc, sB, q⟩ := gI2_of h
  exact op_le pins s σ H _ _ v u Q I rx ry ⟨a, b, rfl, rfl, q.imm sB fun _ => .bl _⟩
theorem o_gt : OpR X (compareOp .Gt) (rD2 X.K gGt) := by
  intro pins s σ H x y v u Q I rx ry h
  obtain ⟨B, a, b, rfl, rfl, hc, sB, q⟩ := gI2_of h
  exact op_gt pins s σ H _ _ v u Q I rx ry ⟨a, b, rfl, rfl, q.imm sB fun _ => .bl _⟩
theorem o_ge : OpR X (compareOp .GtE) (rD2 X.K gGe) := by
  intro pins s σ H x y v u Q I rx ry h
  obtain ⟨B, a, b, rfl, rfl, hc, sB, q⟩ := gI2_of h
  exact op_ge pins s σ H _ _ v u Q I rx ry ⟨a, b, rfl, rfl, q.imm sB fun _ => .bl _⟩
/-- data without dicts, of small depth -/
def okD : Nat → PyData → Bool
  | _, .none => true
  | _, .bool _ => true
  | _, .int _ => true
  | _, .str x => PyData.strOk x
  | n + 1, .list xs => xs.all (okD n)
  | n + 1, .tuple xs => xs.all (okD n)
  | _, _ => false
theorem okD_all {n : Nat} (h : ∀ d, okD n d = true → d.canLay0 = true ∧ d.depth ≤ n) : ∀ xs : List PyData, xs.all (okD n) = true → PyData.canLayAll0 xs = true ∧ PyData.depthAll xs ≤ n
  | [], _ => ⟨rfl, Nat.zero_le _⟩
  | x :: xs, hx => by
    rw [List.all_cons, Bool.and_eq_true] at hx
    obtain ⟨h1, h2⟩ := h x hx.1
    obtain ⟨h3, h4⟩ := okD_all h xs hx.2
    exact ⟨by rw [PyData.canLayAll0, h1, h3]; rfl, by rw [PyData.depthAll]; omega⟩
theorem okD_ok : ∀ (n : Nat) (d : PyData), okD n d = true → d.canLay0 = true ∧ d.depth ≤ n
  | 0, .none, _ => ⟨by simp [PyData.canLay0], by simp [PyData.depth]⟩
  | 0, .bool _, _ => ⟨by simp [PyData.canLay0], by simp [PyData.depth]⟩
  | 0, .int _, _ => ⟨by simp [PyData.canLay0], by simp [PyData.depth]⟩
  | 0, .str x, h => ⟨by simpa [PyData.canLay0, okD] using h, by simp [PyData.depth]⟩
  | 0, .list xs, h => by simp [okD] at h
  | 0, .tuple xs, h => by simp [okD] at h
  | 0, .dict xs, h => by simp [okD] at h
  | n + 1, .none, _ => ⟨by simp [PyData.canLay0], by simp [PyData.depth]⟩
  | n + 1, .bool _, _ => ⟨by simp [PyData.canLay0], by simp [PyData.depth]⟩
  | n + 1, .int _, _ => ⟨by simp [PyData.canLay0], by simp [PyData.depth]⟩
  | n + 1, .str x, h => ⟨by simpa [PyData.canLay0, okD] using h, by simp [PyData.depth]⟩
  | n + 1, .list xs, h => by
    obtain ⟨h1, h2⟩ := okD_all (okD_ok n) xs (by simpa [okD] using h)
    exact ⟨by rw [PyData.canLay0]; exact h1, by rw [PyData.depth]; omega⟩
  | n + 1, .tuple xs, h => by
    obtain ⟨h1, h2⟩ := okD_all (okD_ok n) xs (by simpa [okD] using h)
    exact ⟨by rw [PyData.canLay0]; exact h1, by rw [PyData.depth]; omega⟩
  | n + 1, .dict xs, h => by simp [okD] at h
theorem okD_shaped {d : PyData} (h : okD 8 d = true) : SeqAt.shaped d = true := by
  obtain ⟨h1, h2⟩ := okD_ok 8 d h
  unfold SeqAt.shaped
  rw [h1, decide_eq_true (show d.depth ≤ 64 by omega)]
  rfl
def gEq : List PyData → Option Out
  | [d, e] => if okD 8 d = true ∧ okD 8 e = true then some (.fz (.bool (PyData.eqv d e))) else none
  | _ => none
def gNe : List PyData → Option Out
  | [d, e] => if okD 8 d = true ∧ okD 8 e = true then some (.fz (.bool (!PyData.eqv d e))) else none
  | _ => none
theorem o_eq {k : Nat} (hr : Room k X.A) : OpR X (compareOp .Eq) (rD2 X.K gEq) := by
  intro pins s σ H x y v u Q I rx ry h
  obtain ⟨B, d, e, out, sB, a1, a2, hg, q⟩ := rD2_of h
  have hg : (if okD 8 d = true ∧ okD 8 e = true then some (Out.fz (.bool (PyData.eqv d e))) else none) = some out := hg
  split at hg
  · next hc =>
    cases hg
    exact op_eqD hr.units pins s σ H _ _ v u Q I rx ry ⟨d, e, Da.dp _ (a1.da sB), Da.dp _ (a2.da sB), okD_shaped hc.1, okD_shaped hc.2, q.imm sB fun _ => .bl _⟩
  · cases hg
theorem o_ne {k : Nat} (hr : Room k X.A) : OpR X (compareOp .NotEq) (rD2 X.K gNe) := by
  intro pins s σ H x y v u Q I rx ry h
  obtain ⟨B, d, e, out, sB, a1, a2, hg, q⟩ := rD2_of h
  have hg : (if okD 8 d = true ∧ okD 8 e = true then some (Out.fz (.bool (!PyData.eqv d e))) else none) = some out := hg
  split at hg
  · next hc =>
    cases hg
    exact op_neD hr.units pins s σ H _ _ v u Q I rx ry ⟨d, e, Da.dp _ (a1.da sB), Da.dp _ (a2.da sB), okD_shaped hc.1, okD_shaped hc.2, q.imm sB fun _ => .bl _⟩
  · cases hg
/-- x is None, x is True -/
def isNone : PyData → Bool
  | .none => true
  | _ => false
def gIs : List PyData → Option Out
  | [.bool a, .bool b] => some (.fz (.bool (a == b)))
  | [d, .none] => some (.fz (.bool (isNone d)))
  | _ => none
def gIsNot : List PyData → Option Out
  | [.bool a, .bool b] => some (.fz (.bool (!(a == b))))
  | [d, .none] => some (.fz (.bool (!isNone d)))
  | _ => none
theorem Ar.isNone {K : PySem.W.Frag} {B H : Hp} {x : V} {d : PyData} (h : Ar K B H x d) : decide (x = .non) = DL.isNone d := by
  rcases h with h | ⟨a, vs, ds, rfl, rfl, h1, h2⟩
  · cases h <;> rfl
  · rfl
theorem o_is : OpR X (compareOp .Is) (rD2 X.K gIs) := by
  intro pins s σ H x y v u Q I rx ry h
  obtain ⟨B, d, e, out, sB, a1, a2, hg, q⟩ := rD2_of h
  unfold gIs at hg
  split at hg
  · next a b e1 =>
    cases e1; cases hg
    rw [a1.bl] at rx
    rw [a2.bl] at ry
    refine op_isBl pins s σ H _ _ v u Q I rx ry ⟨a, b, rfl, rfl, ?_⟩
    have e : decide (a = b) = (a == b) := by cases a <;> cases b <;> rfl
    rw [e]
    exact q.imm sB fun _ => .bl _
  · next d e1 =>
    cases e1; cases hg
    rw [a2.non] at ry
    refine op_isN pins s σ H _ _ v u Q I rx ry ⟨rfl, ?_⟩
    rw [a1.isNone]
    exact q.imm sB fun _ => .bl _
  · cases hg
theorem o_isnot : OpR X (compareOp .IsNot) (rD2 X.K gIsNot) := by
  intro pins s σ H x y v u Q I rx ry h
  obtain ⟨B, d, e, out, sB, a1, a2, hg, q⟩ := rD2_of h
  unfold gIsNot at hg
  split at hg
  · next a b e1 =>
    cases e1; cases hg
    rw [a1.bl] at rx
    rw [a2.bl] at ry
    refine op_notBl pins s σ H _ _ v u Q I rx ry ⟨a, b, rfl, rfl, ?_⟩
    have e : decide (a = b) = (a == b) := by cases a <;> cases b <;> rfl
    rw [e]
    exact q.imm sB fun _ => .bl _
  · next d e1 =>
    cases e1; cases hg
    rw [a2.non] at ry
    refine op_notN pins s σ H _ _ v u Q I rx ry ⟨rfl, ?_⟩
    rw [a1.isNone]
    exact q.imm sB fun _ => .bl _
  · cases hg
/-- membership: ints in a list or a tuple of ints; data in a list; a sign in a text -/
def allInt : List PyData → Bool
  | [] => true
  | .int _ :: xs => allInt xs
  | _ => false
def hasInt (i : Int) : List PyData → Bool
  | [] => false
  | .int j :: xs => (j == i) || hasInt i xs
  | _ :: xs => hasInt i xs
def inB (neg b : Bool) : PyData := .bool (if neg then !b else b)
def inTup (neg : Bool) (xs : List PyData) : PyData → Option Out
  | .int i => if allInt xs = true then some (.fz (inB neg (hasInt i xs))) else none
  | _ => none
def inStr (neg : Bool) (z : Str) : PyData → Option Out
  | .str c => match c.cps.toList with
    | [n] => some (.fz (inB neg (decide (n ∈ z.cps.toList))))
    | _ => none
  | _ => none
def gInG (neg : Bool) : List PyData → Option Out
  | [d, .list xs] => if okD 7 d = true ∧ xs.all (okD 7) = true then some (.fz (inB neg (xs.any fun z => PyData.eqv z d))) else none
  | [d, .tuple xs] => inTup neg xs d
  | [d, .str z] => inStr neg z d
  | _ => none
abbrev gIn := gInG false
abbrev gNotIn := gInG true
theorem allInt_vs {K : PySem.W.Frag} {B : Hp} : ∀ {vs : List V} {xs : List PyData}, DaAll K B vs xs → allInt xs = true → vs.all flatV = true ∧ ∀ i, inV (.int i) vs = hasInt i xs
  | _, _, .nil, _ => ⟨rfl, fun _ => rfl⟩
  | _, d :: _, .cons h t, hx => by
    cases h with
    | int j =>
      obtain ⟨h1, h2⟩ := allInt_vs t (by simpa [allInt] using hx)
      refine ⟨by rw [List.all_cons, h1]; rfl, fun i => ?_⟩
      have := h2 i
      unfold inV at this ⊢
      rw [List.any_cons, this]
      rfl
    | _ => simp [allInt] at hx

theorem str_one {c : Str} {n : Nat} (h : c.cps.toList = [n]) : c = ⟨#[n]⟩ := by
  cases c with
  | mk a =>
    have : a = #[n] := by
      apply Array.toList_inj.mp
      exact h
    rw [this]
theorem o_in {k : Nat} (hr : Room k X.A) : OpR X (compareOp .In) (rD2 X.K gIn) := by
  intro pins s σ H x y v u Q I rx ry h
  obtain ⟨B, d, e, out, sB, a1, a2, hg, q⟩ := rD2_of h
  replace hg : gInG false [d, e] = some out := hg
  unfold gInG at hg
  split at hg
  · next d xs e1 =>
    cases e1
    split at hg
    · next hc =>
      cases hg
      have hl : SeqAt.shaped (.list xs) = true := okD_shaped (by simpa [okD] using hc.2)
      have hd : SeqAt.shaped d = true := by
        obtain ⟨h1, h2⟩ := okD_ok 7 d hc.1
        unfold SeqAt.shaped
        rw [h1, decide_eq_true (show d.depth ≤ 64 by omega)]
        rfl
      exact op_inD (by have := hr.un; omega) pins s σ H _ _ v u Q I rx ry ⟨d, xs, Da.dp _ (a1.da sB), Da.dp _ (a2.da sB), hd, hl, q.imm sB fun _ => .bl _⟩
    · cases hg
  · next d xs e1 =>
    cases e1
    unfold inTup at hg
    split at hg
    · next i =>
      split at hg
      · next hc =>
        cases hg
        rw [a1.int] at rx
        obtain ⟨p1, vs, rfl, s1, d1⟩ := a2.tup
        obtain ⟨h1, h2⟩ := allInt_vs d1 hc
        refine op_in_seq pins s σ H _ _ v u Q I rx ry ⟨p1, vs, rfl, .inr (SqN.up sB s1), rfl, h1, ?_⟩
        show Q (.bl (inV (.int i) vs)) H
        rw [h2]
        exact q.imm sB fun _ => .bl _
      · cases hg
    · cases hg
  · next d z e1 =>
    cases e1
    unfold inStr at hg
    split at hg
    · next c =>
      split at hg
      · next n hn =>
        cases hg
        rw [a1.str] at rx
        rw [a2.str] at ry
        exact op_in_sign pins s σ H _ _ v u Q I rx ry ⟨n, z, by rw [str_one hn], rfl, q.imm sB fun _ => .bl _⟩
      · cases hg
    · cases hg
  · cases hg
theorem o_notin {k : Nat} (hr : Room k X.A) : OpR X (compareOp .NotIn) (rD2 X.K gNotIn) := by
  intro pins s σ H x y v u Q I rx ry h
  obtain ⟨B, d, e, out, sB, a1, a2, hg, q⟩ := rD2_of h
  replace hg : gInG true [d, e] = some out := hg
  unfold gInG at hg
  split at hg
  · next d xs e1 =>
    cases e1
    split at hg
    · next hc =>
      cases hg
      have hl : SeqAt.shaped (.list xs) = true := okD_shaped (by simpa [okD] using hc.2)
      have hd : SeqAt.shaped d = true := by
        obtain ⟨h1, h2⟩ := okD_ok 7 d hc.1
        unfold SeqAt.shaped
        rw [h1, decide_eq_true (show d.depth ≤ 64 by omega)]
        rfl
      exact op_notInD (by have := hr.un; omega) pins s σ H _ _ v u Q I rx ry ⟨d, xs, Da.dp _ (a1.da sB), Da.dp _ (a2.da sB), hd, hl, q.imm sB fun _ => .bl _⟩
    · cases hg
  · next d xs e1 =>
    cases e1
    unfold inTup at hg
    split at hg
    · next i =>
      split at hg
      · next hc =>
        cases hg
        rw [a1.int] at rx
        obtain ⟨p1, vs, rfl, s1, d1⟩ := a2.tup
        obtain ⟨h1, h2⟩ := allInt_vs d1 hc
        refine op_notIn_seq pins s σ H _ _ v u Q I rx ry ⟨p1, vs, rfl, .inr (SqN.up sB s1), rfl, h1, ?_⟩
        show Q (.bl (!inV (.int i) vs)) H
        rw [h2]
        exact q.imm sB fun _ => .bl _
      · cases hg
    · cases hg
  · next d z e1 =>
    cases e1
    unfold inStr at hg
    split at hg
    · next c =>
      split at hg
      · next n hn =>
        cases hg
        rw [a1.str] at rx
        rw [a2.str] at ry
        exact op_notIn_sign pins s σ H _ _ v u Q I rx ry ⟨n, z, by rw [str_one hn], rfl, q.imm sB fun _ => .bl _⟩
      · cases hg
    · cases hg
  · cases hg
/-! ### subscripts, slices -/
def gIx : List PyData → Option Out
  | [.list xs, .int i] => (atI xs i).map .fz
  | [.tuple xs, .int i] => (atI xs i).map .fz
  | _ => none
theorem atI_da {K : PySem.W.Frag} {B : Hp} {vs : List V} {ds : List PyData} {i : Int} {d : PyData} (h : DaAll K B vs ds) (e : atI ds i = some d) : ∃ v, atI vs i = some v ∧ Da K B v d := by
  unfold atI at e ⊢
  rw [h.length]
  cases q : ixN ds.length i with
  | none => rw [q] at e; cases e
  | some j =>
    rw [q] at e
    exact h.get e
theorem x_ix : IxR X (rD2 X.K gIx) := by
  intro value slice pins s σ H x y v u Q I rx ry h hs
  obtain ⟨B, d, e, out, sB, a1, a2, hg, q⟩ := rD2_of h
  unfold gIx at hg
  split at hg
  · next xs i e1 =>
    cases e1
    obtain ⟨w, hw, rfl⟩ := Option.map_eq_some_iff.mp hg
    obtain ⟨p1, vs, rfl, s1, d1⟩ := a1.lst sB
    rw [a2.int] at ry
    obtain ⟨z, hz, hd⟩ := atI_da d1 hw
    exact ix_list value slice pins s σ H _ _ v u Q I rx ry ⟨p1, vs, i, z, rfl, rfl, s1, hz, q.old sB hd⟩ hs
  · next xs i e1 =>
    cases e1
    obtain ⟨w, hw, rfl⟩ := Option.map_eq_some_iff.mp hg
    obtain ⟨p1, vs, rfl, s1, d1⟩ := a1.tup
    rw [a2.int] at ry
    obtain ⟨z, hz, hd⟩ := atI_da d1 hw
    exact ix_tup value slice pins s σ H _ _ v u Q I rx ry ⟨p1, vs, i, z, rfl, rfl, SqN.up sB s1, hz, q.old sB hd⟩ hs
  · cases hg
def cutD (xs : List PyData) (lo hi : Option Int) : List PyData := (xs.drop (HT.sIx xs.length 0 lo)).take (HT.sIx xs.length xs.length hi - HT.sIx xs.length 0 lo)
theorem cut_da {K : PySem.W.Frag} {B : Hp} {vs : List V} {ds : List PyData} (h : DaAll K B vs ds) (lo hi : Option Int) : DaAll K B (cutV vs lo hi) (cutD ds lo hi) := by
  unfold cutV cutD
  rw [h.length]
  exact (h.drop _).take _
def gCut : List PyData → Option Int → Option Int → Option Out
  | [.list xs], lo, hi => some (.nl (cutD xs lo hi))
  | [.tuple xs], lo, hi => some (.fz (.tuple (cutD xs lo hi)))
  | _, _, _ => none
theorem cut_whole {xs : List PyData} {lo hi : Option Int} (h : HT.sIx xs.length 0 lo = 0 ∧ HT.sIx xs.length xs.length hi = xs.length) : cutD xs lo hi = xs := by
  unfold cutD
  rw [h.1, h.2]
  simp
theorem l_cut : SlR X (rSlD X.K gCut) := by
  intro pins s σ H x v vl vu lo hi sl Q I rx hs pl pu h
  obtain ⟨B, ds, out, sB, ar, hg, q⟩ := h
  obtain ⟨d, rfl, a1⟩ := ar.one
  unfold gCut at hg
  split at hg
  · next xs e1 =>
    cases e1; cases hg
    obtain ⟨p1, vs, rfl, s1, d1⟩ := a1.lst sB
    exact sl_list pins s σ H _ v vl vu _ _ sl Q I rx hs pl pu ⟨p1, vs, rfl, s1, fun p hp => q p _ hp (cut_da d1 _ _)⟩
  · next xs e1 =>
    cases e1; cases hg
    obtain ⟨p1, vs, rfl, s1, d1⟩ := a1.tup
    have l1 := d1.length
    refine sl_tupN pins s σ H _ v vl vu _ _ sl Q I rx hs pl pu ⟨p1, vs, rfl, SqN.up sB s1, fun hw => ?_, fun _ p o ho hp => q.tup sB (cut_da d1 _ _) ho hp⟩
    rw [l1] at hw
    rw [cut_whole hw] at q
    exact q.old sB (.tup s1 d1)
  · cases hg
end
end DL

/-! D9: built-in functions, methods that change a list. -/
namespace DL
open PySem PySem.Spec PyProof.Rows L2
section
variable {X : Cx}
def gLen : List PyData → Option Out
  | [.list xs] => some (.fz (.int xs.length))
  | [.tuple xs] => some (.fz (.int xs.length))
  | [.str z] => if z.length ≤ 100000 then some (.fz (.int z.length)) else none
  | _ => none
theorem one_arg {K : PySem.W.Frag} {g : List PyData → Option Out} {vs : List V} {H : Hp} {Q : VK} (hg1 : ∀ ds out, g ds = some out → ∃ d, ds = [d]) (h : rD K g vs H Q) : ∃ x, vs = [x] ∧ ∃ B d out, Same B H ∧ Ar K B H x d ∧ g [d] = some out ∧ PostB K B H Q out := by
  obtain ⟨B, ds, out, s, ar, hg, q⟩ := h
  obtain ⟨d, rfl⟩ := hg1 ds out hg
  cases ar with
  | cons a1 t => cases t; exact ⟨_, rfl, B, d, out, s, a1, hg, q⟩
theorem c_len : CallR X (.builtin "len") (rD X.K gLen) := by
  intro pins s σ H vs us Q I rv h
  obtain ⟨x, rfl, B, d, out, sB, a1, hg, q⟩ := one_arg (fun ds out hg => by unfold gLen at hg; split at hg <;> first | exact ⟨_, rfl⟩ | cases hg) h
  unfold gLen at hg
  split at hg
  · next xs e1 =>
    cases e1; cases hg
    obtain ⟨p1, ws, rfl, s1, d1⟩ := a1.lst sB
    refine call_len_seq pins s σ H _ us Q I rv ⟨p1, ws, rfl, .inl s1, ?_⟩
    rw [d1.length]
    exact q.imm sB fun _ => .int _
  · next xs e1 =>
    cases e1; cases hg
    obtain ⟨p1, ws, rfl, s1, d1⟩ := a1.tup
    refine call_len_seq pins s σ H _ us Q I rv ⟨p1, ws, rfl, .inr (SqN.up sB s1), ?_⟩
    rw [d1.length]
    exact q.imm sB fun _ => .int _
  · next z e1 =>
    cases e1
    split at hg
    · next hz =>
      cases hg
      rw [a1.str] at rv
      exact call_len_str pins s σ H _ us Q I rv ⟨z, rfl, le_line hz, q.imm sB fun _ => .int _⟩
    · cases hg
  · cases hg
/-- the ints of a list -/
def intsOf : List PyData → Option (List Int)
  | [] => some []
  | .int i :: xs => (intsOf xs).map (i :: ·)
  | _ => none
theorem intsOf_eq : ∀ {xs : List PyData} {ns : List Int}, intsOf xs = some ns → xs = ns.map .int
  | [], _, h => by cases h; rfl
  | .int i :: xs, ns, h => by
    unfold intsOf at h
    obtain ⟨ms, h1, rfl⟩ := Option.map_eq_some_iff.mp h
    rw [intsOf_eq h1]; rfl
  | .none :: _, _, h => by cases h
  | .bool _ :: _, _, h => by cases h
  | .str _ :: _, _, h => by cases h
  | .list _ :: _, _, h => by cases h
  | .tuple _ :: _, _, h => by cases h
  | .dict _ :: _, _, h => by cases h
theorem intsOf_map : ∀ ns : List Int, intsOf (ns.map .int) = some ns
  | [] => rfl
  | n :: ns => by rw [List.map_cons, intsOf, intsOf_map ns]; rfl
def gSum : List PyData → Option Out
  | [.list xs] => (intsOf xs).map fun ns => .fz (.int ns.sum)
  | [.tuple xs] => (intsOf xs).map fun ns => .fz (.int ns.sum)
  | _ => none
theorem iter_tup {prog : Program} {w : World} {A : Around} {E : Value → Shared → Prop} {s : Shared} {l : Addr} {items : Array Value} {Q : Value → Shared → Prop} (hl : s.heap.IsTuple l items)
    (h : ∀ s₂ : Shared, s₂ = { s with heap := s.heap.push { cls := .type "tuple_iterator", data := .fields #[.ref l, .int 0 0] } } →
      (s₂.heap.IsTupleIter s.heap.objs.size l 0 ∧ s₂.heap.IsTuple l items) → l ≠ s.heap.objs.size → Q (.ref s.heap.objs.size) s₂) : wpAny (model prog w) A (pyIter (.ref l)) Q E s := by
  have hlt : l < s.heap.objs.size := by obtain ⟨_, e, _⟩ := hl; exact Heap.lt_size e
  exact wpAny_pyIter_tuple hl (h _ rfl ⟨⟨_, Heap.get?_push_size _ rfl, rfl, rfl⟩, hl.at fun o e => Heap.get?_push_of_some _ e⟩ (Nat.ne_of_lt hlt))
theorem sum_rawT {prog : Program} {w : World} {A : Around} {E : Value → Shared → Prop} {s : Shared} {l : Addr} {its : List Value} {ns : List Int} {Q : Value → Shared → Prop} (hh : A.handled = none) (hl : s.heap.IsTuple l its.toArray) (hi : IntsAre its ns)
    (h : ∀ h' tk t', (∀ b o, s.heap.get? b = some o → h'.get? b = some o) → Q (.int ns.sum t') { s with heap := h', toks := tk }) : wpAny (model prog w) A (call (.builtin "sum") [.ref l]) Q E s := by
  obtain ⟨xs, e⟩ := hi.allInts.items
  have hn : numsOf (intItems xs).toList = ns := by rw [← e]; exact hi.numsOf
  rw [nums_intItems] at hn
  rw [e] at hl
  have hlt : l < s.heap.objs.size := by obtain ⟨_, e, _⟩ := hl; exact Heap.lt_size e
  refine call_sum_walkG (iter_tup hl fun s₂ e2 st hne => ?_)
  subst e2
  refine ⟨_, _, _, _, _, _, numAt xs, rfl, Walks.tuple (A := A.in1) hh _ l hne (intItems xs), st, fun b hb => ?_, (fun _ _ => intItems_at), fun h' tk t' hk => ?_⟩
  · have e' : b = s.heap.objs.size ∨ b = l := by simpa using hb
    show b < (s.heap.push _).objs.size
    rw [Heap.size_push]
    rcases e' with z | z
    · rw [z]; exact Nat.lt_succ_self _
    · rw [z]; exact Nat.lt_succ_of_lt hlt
  · have q := h h' tk t' (fun b o eo => hk b o (fun hmem => by
      have e1 : b = s.heap.objs.size := by simpa using hmem
      exact absurd (e1 ▸ Heap.lt_size eo) (Nat.lt_irrefl _)) (Heap.get?_push_of_some _ eo))
    have e3 : (intItems xs).size = xs.size := by simp [intItems]
    rw [e3, preSum_eq, List.take_of_length_le (by simp), hn]
    exact q
theorem c_sum (hc : X.calm = true) : CallR X (.builtin "sum") (rD X.K gSum) := by
  intro pins s σ H vs us Q I rv h
  obtain ⟨x, rfl, B, d, out, sB, a1, hg, q⟩ := one_arg (fun ds out hg => by unfold gSum at hg; split at hg <;> first | exact ⟨_, rfl⟩ | cases hg) h
  unfold gSum at hg
  split at hg
  · next xs e1 =>
    cases e1
    obtain ⟨ns, hn, rfl⟩ := Option.map_eq_some_iff.mp hg
    rw [intsOf_eq hn] at a1
    obtain ⟨p1, ws, rfl, s1, d1⟩ := a1.lst sB
    rw [DaAll.ints d1] at s1
    exact cr_sum hc pins s σ H _ us Q I rv ⟨p1, ns, rfl, s1, q.imm sB fun _ => .int _⟩
  · next xs e1 =>
    cases e1
    obtain ⟨ns, hn, rfl⟩ := Option.map_eq_some_iff.mp hg
    rw [intsOf_eq hn] at a1
    obtain ⟨p1, ws, rfl, s1, d1⟩ := a1.tup
    rw [DaAll.ints d1] at s1
    obtain ⟨its, rvv, p, hz⟩ := I.tuple (SqN.up sB s1)
    rw [Vals.ref1 rv]
    exact sum_rawT (I.ok.hd hc) p rvv.ints fun h' tk t' hk => ⟨.int _, H, I.kept hk, ⟨_, rfl⟩, q.imm sB fun _ => .int _⟩
  · cases hg
/-! ### max, min -/
def maxL : List Int → Int
  | [] => 0
  | [a] => a
  | a :: b :: r => max a (maxL (b :: r))
def minL : List Int → Int
  | [] => 0
  | [a] => a
  | a :: b :: r => min a (minL (b :: r))
theorem maxL_mem : ∀ {ns : List Int}, ns ≠ [] → maxL ns ∈ ns ∧ ∀ a ∈ ns, a ≤ maxL ns
  | [], h => absurd rfl h
  | [a], _ => ⟨by simp [maxL], fun b hb => by have := List.mem_singleton.mp hb; subst this; exact Int.le_refl _⟩
  | a :: b :: r, _ => by
    obtain ⟨h1, h2⟩ := maxL_mem (ns := b :: r) (by simp)
    unfold maxL
    refine ⟨?_, fun c hc => ?_⟩
    · by_cases h : a ≤ maxL (b :: r)
      · rw [Int.max_eq_right h]; exact List.mem_cons_of_mem _ h1
      · rw [Int.max_eq_left (by omega)]; exact List.mem_cons_self
    · rcases List.mem_cons.mp hc with rfl | hc
      · exact Int.le_max_left ..
      · exact Int.le_trans (h2 c hc) (Int.le_max_right ..)
theorem minL_mem : ∀ {ns : List Int}, ns ≠ [] → minL ns ∈ ns ∧ ∀ a ∈ ns, minL ns ≤ a
  | [], h => absurd rfl h
  | [a], _ => ⟨by simp [minL], fun b hb => by have := List.mem_singleton.mp hb; subst this; exact Int.le_refl _⟩
  | a :: b :: r, _ => by
    obtain ⟨h1, h2⟩ := minL_mem (ns := b :: r) (by simp)
    unfold minL
    refine ⟨?_, fun c hc => ?_⟩
    · by_cases h : a ≤ minL (b :: r)
      · rw [Int.min_eq_left h]; exact List.mem_cons_self
      · rw [Int.min_eq_right (by omega)]; exact List.mem_cons_of_mem _ h1
    · rcases List.mem_cons.mp hc with rfl | hc
      · exact Int.min_le_left ..
      · exact Int.le_trans (Int.min_le_right ..) (h2 c hc)
def gMax : List PyData → Option Out
  | [.list xs] => match intsOf xs with
    | some (n :: ns) => some (.fz (.int (maxL (n :: ns))))
    | _ => none
  | [.int a, .int b] => some (.fz (.int (if b > a then b else a)))
  | _ => none
def gMin : List PyData → Option Out
  | [.list xs] => match intsOf xs with
    | some (n :: ns) => some (.fz (.int (minL (n :: ns))))
    | _ => none
  | [.int a, .int b] => some (.fz (.int (if b < a then b else a)))
  | _ => none
theorem c_max (hc : X.calm = true) : CallR X (.builtin "max") (rD X.K gMax) := by
  intro pins s σ H vs us Q I rv h
  obtain ⟨B, ds, out, sB, ar, hg, q⟩ := h
  unfold gMax at hg
  split at hg
  · next xs =>
    split at hg
    · next n ns hn =>
      cases hg
      rw [intsOf_eq hn] at ar
      cases ar with
      | cons a1 t =>
        cases t
        obtain ⟨p1, ws, rfl, s1, d1⟩ := a1.lst sB
        rw [DaAll.ints d1] at s1
        obtain ⟨m1, m2⟩ := maxL_mem (ns := n :: ns) (by simp)
        refine cr_max hc pins s σ H _ us Q I rv ⟨p1, n :: ns, rfl, s1, by simp, fun m hm hle => ?_⟩
        have : m = maxL (n :: ns) := Int.le_antisymm (m2 m hm) (hle _ m1)
        rw [this]
        exact q.imm sB fun _ => .int _
    · cases hg
  · next a b =>
    cases hg
    cases ar with
    | cons a1 t => cases t with
      | cons a2 t =>
        cases t
        rw [a1.int, a2.int] at rv
        exact call_max2 hc pins s σ H _ us Q I rv ⟨a, b, rfl, q.imm sB fun _ => .int _⟩
  · cases hg
theorem c_min (hc : X.calm = true) : CallR X (.builtin "min") (rD X.K gMin) := by
  intro pins s σ H vs us Q I rv h
  obtain ⟨B, ds, out, sB, ar, hg, q⟩ := h
  unfold gMin at hg
  split at hg
  · next xs =>
    split at hg
    · next n ns hn =>
      cases hg
      rw [intsOf_eq hn] at ar
      cases ar with
      | cons a1 t =>
        cases t
        obtain ⟨p1, ws, rfl, s1, d1⟩ := a1.lst sB
        rw [DaAll.ints d1] at s1
        obtain ⟨m1, m2⟩ := minL_mem (ns := n :: ns) (by simp)
        refine cr_min hc pins s σ H _ us Q I rv ⟨p1, n :: ns, rfl, s1, by simp, fun m hm hle => ?_⟩
        have : m = minL (n :: ns) := Int.le_antisymm (hle _ m1) (m2 m hm)
        rw [this]
        exact q.imm sB fun _ => .int _
    · cases hg
  · next a b =>
    cases hg
    cases ar with
    | cons a1 t => cases t with
      | cons a2 t =>
        cases t
        rw [a1.int, a2.int] at rv
        exact call_min2 hc pins s σ H _ us Q I rv ⟨a, b, rfl, q.imm sB fun _ => .int _⟩
  · cases hg
/-! ### all -/
def boolsOf : List PyData → Option (List Bool)
  | [] => some []
  | .bool i :: xs => (boolsOf xs).map (i :: ·)
  | _ => none
theorem boolsOf_eq : ∀ {xs : List PyData} {ns : List Bool}, boolsOf xs = some ns → xs = ns.map .bool
  | [], _, h => by cases h; rfl
  | .bool i :: xs, ns, h => by
    unfold boolsOf at h
    obtain ⟨ms, h1, rfl⟩ := Option.map_eq_some_iff.mp h
    rw [boolsOf_eq h1]; rfl
  | .none :: _, _, h => by cases h
  | .int _ :: _, _, h => by cases h
  | .str _ :: _, _, h => by cases h
  | .list _ :: _, _, h => by cases h
  | .tuple _ :: _, _, h => by cases h
  | .dict _ :: _, _, h => by cases h
theorem boolsOf_map : ∀ ns : List Bool, boolsOf (ns.map .bool) = some ns
  | [] => rfl
  | n :: ns => by rw [List.map_cons, boolsOf, boolsOf_map ns]; rfl
theorem DaAll.bools {K : PySem.W.Frag} {H : Hp} : ∀ {vs : List V} {ns : List Bool}, DaAll K H vs (ns.map .bool) → vs = ns.map V.bl
  | _, [], h => by cases h; rfl
  | _, n :: ns, h => by
    rw [List.map_cons] at h
    cases h with
    | cons h1 h2 => cases h1; rw [DaAll.bools h2]; rfl
def gAll : List PyData → Option Out
  | [.list xs] => (boolsOf xs).map fun bs => .fz (.bool (bs.all id))
  | _ => none
theorem c_all (hc : X.calm = true) : CallR X (.builtin "all") (rD X.K gAll) := by
  intro pins s σ H vs us Q I rv h
  obtain ⟨x, rfl, B, d, out, sB, a1, hg, q⟩ := one_arg (fun ds out hg => by unfold gAll at hg; split at hg <;> first | exact ⟨_, rfl⟩ | cases hg) h
  unfold gAll at hg
  split at hg
  · next xs e1 =>
    cases e1
    obtain ⟨ns, hn, rfl⟩ := Option.map_eq_some_iff.mp hg
    rw [boolsOf_eq hn] at a1
    obtain ⟨p1, ws, rfl, s1, d1⟩ := a1.lst sB
    rw [DaAll.bools d1] at s1
    exact cr_all hc pins s σ H _ us Q I rv ⟨p1, ns, rfl, s1, q.imm sB fun _ => .bl _⟩
  · cases hg
/-! ### tuple(..), list(..) -/
def gTuple : List PyData → Option Out
  | [.list xs] => some (.fz (.tuple xs))
  | [.tuple xs] => some (.fz (.tuple xs))
  | _ => none
def gList : List PyData → Option Out
  | [.list xs] => some (.nl xs)
  | [.tuple xs] => some (.nl xs)
  | _ => none
theorem c_tuple : CallR X (.type "tuple") (rD X.K gTuple) := by
  intro pins s σ H vs us Q I rv h
  obtain ⟨x, rfl, B, d, out, sB, a1, hg, q⟩ := one_arg (fun ds out hg => by unfold gTuple at hg; split at hg <;> first | exact ⟨_, rfl⟩ | cases hg) h
  unfold gTuple at hg
  split at hg
  · next xs e1 =>
    cases e1; cases hg
    obtain ⟨p1, ws, rfl, s1, d1⟩ := a1.lst sB
    exact call_tupleN pins s σ H _ us Q I rv ⟨p1, ws, rfl, .inl ⟨s1, fun l o ho hl => q.tup sB d1 ho hl⟩⟩
  · next xs e1 =>
    cases e1; cases hg
    obtain ⟨p1, ws, rfl, s1, d1⟩ := a1.tup
    exact call_tupleN pins s σ H _ us Q I rv ⟨p1, ws, rfl, .inr ⟨SqN.up sB s1, q.old sB (.tup s1 d1)⟩⟩
  · cases hg
theorem c_list : CallR X (.type "list") (rD X.K gList) := by
  intro pins s σ H vs us Q I rv h
  obtain ⟨x, rfl, B, d, out, sB, a1, hg, q⟩ := one_arg (fun ds out hg => by unfold gList at hg; split at hg <;> first | exact ⟨_, rfl⟩ | cases hg) h
  unfold gList at hg
  split at hg
  · next xs e1 =>
    cases e1; cases hg
    obtain ⟨p1, ws, rfl, s1, d1⟩ := a1.lst sB
    exact call_list_of pins s σ H _ us Q I rv ⟨p1, ws, rfl, .inl s1, fun l hl => q l _ hl d1⟩
  · next xs e1 =>
    cases e1; cases hg
    obtain ⟨p1, ws, rfl, s1, d1⟩ := a1.tup
    exact call_list_of pins s σ H _ us Q I rv ⟨p1, ws, rfl, .inr (SqN.up sB s1), fun l hl => q l _ hl d1⟩
  · cases hg
end
end DL

/-! D10: sorted, isinstance, list(range(..)), methods of lists. -/
namespace DL
open PySem PySem.Spec PyProof.Rows L2
def tupI (ns : List Int) : PyData := .tuple (ns.map .int)
theorem dataLe_tups : PySem.W.dataLe false tupI = fun p q => decide (p ≤ q) := by
  funext p q
  show (!PySem.W.dataLt (.tuple (q.map .int)) (.tuple (p.map .int))) = _
  rw [PySem.W.dataLt_tuple]
  show (!PySem.W.rowLt (q.map .int) (p.map .int)) = _
  rw [PySem.W.dataLt_ints]
  by_cases h : q < p
  · have h' : ¬ p ≤ q := fun r => List.not_lt.mpr r h
    simp [h, h']
  · have h' : p ≤ q := List.not_lt.mp h
    simp [h, h']
def rowsOf : List PyData → Option (List (List Int))
  | [] => some []
  | .tuple ys :: xs => match intsOf ys with
    | some (n :: ns) => (rowsOf xs).map ((n :: ns) :: ·)
    | _ => none
  | _ => none
theorem rowsOf_eq : ∀ {xs : List PyData} {rs : List (List Int)}, rowsOf xs = some rs → xs = rs.map tupI ∧ ∀ r ∈ rs, r ≠ []
  | [], _, h => by cases h; exact ⟨rfl, fun r hr => by cases hr⟩
  | .tuple ys :: xs, rs, h => by
    unfold rowsOf at h
    split at h
    · next n ns hn =>
      obtain ⟨ms, h1, rfl⟩ := Option.map_eq_some_iff.mp h
      obtain ⟨e, h2⟩ := rowsOf_eq h1
      refine ⟨by rw [e, intsOf_eq hn]; rfl, fun r hr => ?_⟩
      rcases List.mem_cons.mp hr with rfl | hr
      · simp
      · exact h2 r hr
    · cases h
  | .none :: _, _, h => by cases h
  | .bool _ :: _, _, h => by cases h
  | .int _ :: _, _, h => by cases h
  | .str _ :: _, _, h => by cases h
  | .list _ :: _, _, h => by cases h
  | .dict _ :: _, _, h => by cases h
theorem rowsOf_map : ∀ rs : List (List Int), (∀ r ∈ rs, r ≠ []) → rowsOf (rs.map tupI) = some rs
  | [], _ => rfl
  | [] :: _, h => absurd rfl (h [] List.mem_cons_self)
  | (n :: ns) :: rs, h => by
    rw [List.map_cons, tupI, rowsOf, intsOf_map, rowsOf_map rs fun r hr => h r (List.mem_cons_of_mem _ hr)]
    rfl
def sortI (ns : List Int) : List Int := ns.mergeSort fun a b => decide (a ≤ b)
def sortR (rs : List (List Int)) : List (List Int) := rs.mergeSort fun a b => decide (a ≤ b)
def gSorted : List PyData → Option Out
  | [.list xs] => match intsOf xs with
    | some ns => some (.nl ((sortI ns).map .int))
    | none => match rowsOf xs with
      | some rs => some (.nl ((sortR rs).map tupI))
      | none => none
  | _ => none
section
variable {X : Cx}
theorem each_da {K : PySem.W.Frag} {B : Hp} {β : Type} {enc : β → PyData} : ∀ {vs : List V} {us : List Value} {bs : List β}, Vals vs us → DaAll K B vs (bs.map enc) → PySem.W.EachIs (fun u b => ∃ v, RelV v u ∧ Da K B v (enc b)) us bs
  | _, _, [], r, d => by
    cases d
    cases r
    exact .nil
  | _, _, b :: bs, r, d => by
    rw [List.map_cons] at d
    cases d with
    | cons d1 d2 => cases r with
      | cons r1 r2 => exact .cons ⟨_, r1, d1⟩ (each_da r2 d2)
theorem da_each {K : PySem.W.Frag} {B : Hp} {β : Type} {enc : β → PyData} : ∀ {us : List Value} {bs : List β}, PySem.W.EachIs (fun u b => ∃ v, RelV v u ∧ Da K B v (enc b)) us bs → ∃ vs, Vals vs us ∧ DaAll K B vs (bs.map enc)
  | _, _, .nil => ⟨[], .nil, .nil⟩
  | _, _, .cons ⟨v, r, d⟩ t => by
    obtain ⟨vs, r2, d2⟩ := da_each t
    exact ⟨v :: vs, .cons r r2, .cons d d2⟩
theorem sorted_enc {pins : List (Addr × Obj)} {s : Shared} {σ : St} {H : Hp} {k : Nat} (hr : Room k X.A) {β : Type} {enc : β → PyData} {B : Hp} {a : Addr} {ws : List V} {bs : List β} {Q : VK} (I : Inv X pins σ H s) (sB : Same B H) (h1 : SqL X.K H a ws) (h2 : DaAll X.K B ws (bs.map enc))
    (hal : PySem.W.AllAlike (bs.map enc)) (hk : PySem.W.Sortable (bs.map enc)) (hdep : ∀ b, b ∈ bs → (enc b).depth ≤ 4) (q : PostB X.K B H Q (.nl ((bs.mergeSort (PySem.W.dataLe false enc)).map enc))) : wpAny (model X.prog X.w) X.A (call (.builtin "sorted") [.ref a]) (EP X pins σ Q) X.xe s := by
  obtain ⟨its, r, pl, z⟩ := I.list h1
  have hl := r.length
  have hb : its.length = bs.length := by rw [← hl, h2.length, List.length_map]
  have rd : PySem.W.EachIs (fun v b => ∃ as, Reads s.heap v (enc b) as) its bs := by
    have := each_da r h2
    exact this.mono fun u b ⟨v, rv, d⟩ => Dp.reads I _ v u (Da.dp _ (Da.mono sB _ d)) rv
  refine PySem.W.sorted_data (R := fun u b => ∃ v, RelV v u ∧ Da X.K B v (enc b)) (enc := enc) (vs := its) (bs := bs) pl.isList (each_da r h2) rd hal hk (by rw [← hb, ← hl]; exact z) (fun b hb => by have := hdep b hb; have := hr.un; omega) fun out hlo hE => ?_
  obtain ⟨vs', r', d'⟩ := da_each hE
  obtain ⟨ep, he'⟩ := PyProof.Rows.sortedAll_at s.heap its out.toArray
  have hlen : vs'.length ≤ sizeLine := by rw [d'.length, List.length_map, List.length_mergeSort, ← hb, ← hl]; exact z
  refine ⟨.ref _, upd H (s.heap.objs.size + 1) (.lst vs'), I.laid (t' := s.toks) (fun _ _ => PyProof.Rows.sortedAll_old) (Nat.le_succ _) ⟨hlen, out, ep, r', ?_⟩, rfl, q _ _ (I.hok.fresh (Nat.le_succ _)) d'⟩
  simpa using he'
theorem c_sorted {k : Nat} (hr : Room k X.A) : CallR X (.builtin "sorted") (rD X.K gSorted) := by
  intro pins s σ H vs us Q I rv h
  obtain ⟨x, rfl, B, d, out, sB, a1, hg, q⟩ := one_arg (fun ds out hg => by unfold gSorted at hg; split at hg <;> first | exact ⟨_, rfl⟩ | cases hg) h
  unfold gSorted at hg
  split at hg
  · next xs e1 =>
    cases e1
    split at hg
    · next ns hn =>
      cases hg
      rw [intsOf_eq hn] at a1
      obtain ⟨p1, ws, rfl, s1, d1⟩ := a1.lst sB
      rw [Vals.ref1 rv]
      have e : PySem.W.dataLe false (fun b : Int => PyData.int b) = fun a b => decide (a ≤ b) := PySem.W.dataLe_int (fun b => b)
      refine sorted_enc hr (enc := fun b : Int => PyData.int b) I sB s1 d1 (PySem.W.AllAlike.of fun b b' => by simp [PySem.W.alike]) (PySem.W.Sortable.others fun b => ⟨by simp, fun xs => by simp⟩) (fun b _ => by simp [PyData.depth]) ?_
      rw [e]
      exact q
    · split at hg
      · next rs hn =>
        cases hg
        obtain ⟨ex, hne⟩ := rowsOf_eq hn
        rw [ex] at a1
        obtain ⟨p1, ws, rfl, s1, d1⟩ := a1.lst sB
        rw [Vals.ref1 rv]
        refine sorted_enc hr (enc := tupI) I sB s1 d1 (PySem.W.AllAlike.of fun b b' => by unfold tupI; rw [PySem.W.alike]; exact PySem.W.alike_ints b b') (.inl fun d hd => ?_) (fun b _ => by unfold tupI; rw [PyData.depth, PySem.W.depth_ints]; omega) ?_
        · obtain ⟨r, hr, rfl⟩ := List.mem_map.mp hd
          cases r with
          | nil => exact absurd rfl (hne _ hr)
          | cons n ns => exact ⟨_, _, rfl⟩
        · rw [dataLe_tups]
          exact q
      · cases hg
  · cases hg

/-! ### isinstance(x, T) for a built-in T -/
def tyOf : PyData → String
  | .none => "NoneType"
  | .bool _ => "bool"
  | .int _ => "int"
  | .str _ => "str"
  | .list _ => "list"
  | .tuple _ => "tuple"
  | .dict _ => "dict"
theorem Ar.ty {K : PySem.W.Frag} {B H : Hp} {x : V} {d : PyData} (s : Same B H) (h : Ar K B H x d) : TyX K H x (.type (tyOf d)) := by
  have h := h.da s
  cases h with
  | non => exact .base .non
  | bl b => exact .base (.bl b)
  | int i => exact .base (.int i)
  | str x => exact .base (.str x)
  | lst h1 h2 =>
    rcases h1 with (h1 | ⟨o, h1⟩) | ⟨o, its, n, h1, h3, _⟩
    · exact .base (.lst h1)
    · exact .base (.frz h1)
    · exact .kList h1 h3
  | tup h1 h2 =>
    rcases h1 with ⟨o, h1, _⟩ | ⟨o, its, n, h1, h3, _⟩
    · exact .fTuple h1
    · exact .kTuple h1 h3.1
def isTyN (T a : String) : Bool := a == T || (T == "int" && a == "bool")
def isTy (T : String) (d : PyData) : Bool := isTyN T (tyOf d)
def gIsi (T : String) : List PyData → Option Out
  | [d] => some (.fz (.bool (isTy T d)))
  | _ => none
theorem kitN : ∀ T ∈ ["int", "bool", "tuple", "str"], ∀ a ∈ ["NoneType", "bool", "int", "str", "list", "tuple", "dict"], kitB a T = some (isTyN T a) := by decide +kernel
theorem kit_isTy {K : PySem.W.Frag} {T : String} (hT : T ∈ ["int", "bool", "tuple", "str"]) (d : PyData) : PySem.W.kitOne K (.type (tyOf d)) (.type T) = some (isTy T d) :=
  kit_ty (kitN T hT (tyOf d) (by cases d <;> simp [tyOf]))
variable {Z : Fx} {m k : Nat}
theorem d_isi {e : Expr} {de : Dn Rv} {T : String} {t : Str} {p p2 pos : Pos} (c : Cok Z X m k) (he : PE X e (tD Z de)) (hm : X.mg "isinstance" = none) (hmt : X.mg t = none) (hT : T ∈ ["int", "bool", "tuple", "str"])
    (hb : bootBuiltins t = some (.type T)) (hbi : bootBuiltins "isinstance" = some (.builtin "isinstance")) (hg : Gl X "isinstance" := by rfl) (hgt : Gl X t := by rfl) (hn : t ≠ "__name__" := by decide) (hd : (t == ("__debug__" : Str)) = false := by decide)
    (hs : starEach [e, .Name t p2] X.env = (false, eval e X.env) :: starEach [.Name t p2] X.env := by rfl) (hs2 : starEach [.Name t p2] X.env = (false, eval (.Name t p2) X.env) :: starEach [] X.env := by rfl)
    (hpl : (backTo pos (starEach [.Name t p2] X.env)).any (·.1) = false := by rfl) : PE X (.Call (.Name "isinstance" p) [e, .Name t p2] [] pos) (tD Z (dB (gIsi T) [de])) := by
  have hc : CallR X (.builtin "isinstance") (rIsi X.K) := call_isi
  refine PE_imp (pe_callB hc hg hm hbi (pa_cons he (pa_cons (pe_bltn (v := .ty T) hgt hmt hb rfl hn hd) pa_nil hs2) hs) (by decide) (by decide) hs hpl) fun σ H Q h => ?_
  obtain ⟨B, env, R, h⟩ := tD1_rD h
  refine ⟨B, env, R, post.imp h fun x H1 h => ?_⟩
  obtain ⟨B1, d, out, sB, a1, hg, q⟩ := rD1_of rfl h
  have hg : some (Out.fz (.bool (isTy T d))) = some out := hg
  cases hg
  refine ⟨x, .ty T, _, _, isTy T d, rfl, .ty T, ?_, kit_isTy hT d, q.imm sB fun _ => .bl _⟩
  rw [c.hK]
  exact a1.ty sB

/-! ### list(range(..)), tuple(range(..)) -/
def gRgL : List PyData → Option Out
  | [.int j] => if -1000000 ≤ j ∧ j ≤ 1000000 then some (.nl (rangeL 0 j.toNat)) else none
  | _ => none
def gRgT : List PyData → Option Out
  | [.int j] => if -1000000 ≤ j ∧ j ≤ 1000000 then some (.fz (.tuple (rangeL 0 j.toNat))) else none
  | _ => none
theorem rg_da {K : PySem.W.Frag} {B : Hp} (j : Int) : DaAll K B (rgV 0 j) (rangeL 0 j.toNat) := by
  unfold rgV rangeL
  rw [Int.sub_zero]
  generalize List.range j.toNat = l
  induction l with
  | nil => exact .nil
  | cons a l ih => exact .cons (.int _) ih
theorem d_listRg {e : Expr} {de : Dn Rv} {p p2 pos pos2 : Pos} (c : Cok Z X m k) (he : PE X e (tD Z de)) (hm : X.mg "list" = none) (hmr : X.mg "range" = none) (hg : Gl X "list" := by rfl) (hgr : Gl X "range" := by rfl)
    (na : starEach [e] X.env = (false, eval e X.env) :: starEach [] X.env := by rfl) (na2 : starEach [Expr.Call (.Name "range" p2) [e] [] pos2] X.env = (false, eval (Expr.Call (.Name "range" p2) [e] [] pos2) X.env) :: starEach [] X.env := by rfl) : PE X (.Call (.Name "list" p) [.Call (.Name "range" p2) [e] [] pos2] [] pos) (tD Z (dB gRgL [de])) := by
  refine PE_imp (pe_listRg c.calm hg hm (prg_1 hgr hmr he na) na2) fun σ H Q h => ?_
  obtain ⟨B, env, R, h⟩ := tD1_rD h
  refine ⟨B, env, R, post.imp h fun x H1 h => ?_⟩
  obtain ⟨B1, d, out, sB, a1, hg, q⟩ := rD1_of rfl h
  unfold gRgL at hg
  split at hg
  · next j e1 =>
    cases e1
    split at hg
    · next hz =>
      cases hg
      exact ⟨j, a1.int, ⟨by omega, by omega, by omega, by omega, by omega⟩, fun p hp => q p _ hp (rg_da j)⟩
    · cases hg
  · cases hg
theorem d_tupRg {e : Expr} {de : Dn Rv} {p p2 pos pos2 : Pos} (c : Cok Z X m k) (he : PE X e (tD Z de)) (hm : X.mg "tuple" = none) (hmr : X.mg "range" = none) (hg : Gl X "tuple" := by rfl) (hgr : Gl X "range" := by rfl)
    (na : starEach [e] X.env = (false, eval e X.env) :: starEach [] X.env := by rfl) (na2 : starEach [Expr.Call (.Name "range" p2) [e] [] pos2] X.env = (false, eval (Expr.Call (.Name "range" p2) [e] [] pos2) X.env) :: starEach [] X.env := by rfl) : PE X (.Call (.Name "tuple" p) [.Call (.Name "range" p2) [e] [] pos2] [] pos) (tD Z (dB gRgT [de])) := by
  refine PE_imp (pe_tupRgN c.calm hg hm (prg_1 hgr hmr he na) na2) fun σ H Q h => ?_
  obtain ⟨B, env, R, h⟩ := tD1_rD h
  refine ⟨B, env, R, post.imp h fun x H1 h => ?_⟩
  obtain ⟨B1, d, out, sB, a1, hg, q⟩ := rD1_of rfl h
  unfold gRgT at hg
  split at hg
  · next j e1 =>
    cases e1
    split at hg
    · next hz =>
      cases hg
      exact ⟨j, a1.int, ⟨by omega, by omega, by omega, by omega, by omega⟩, fun p o ho hp => q.tup sB (rg_da j) ho hp⟩
    · cases hg
  · cases hg

/-! ### methods that read a list -/
/-- the receiver held, then the arguments -/
def dM (T : String) (g : List PyData → Option Out) (d : Dn Rv) (das : List (Dn Rv)) : Dn Rv := bnd d fun r => bnd (hold r) fun r' => fun e => match dat e r' with
  | some x => if tyOf x = T then bnd (dArgs das) (fun rs => dApp g (r' :: rs)) e else .bad
  | none => .bad
theorem tyV_of {K : PySem.W.Frag} {B H : Hp} {x : V} {d : PyData} (s : Same B H) (h : Ar K B H x d) {T : String} (hT : T = "list" ∨ T = "str") (e : tyOf d = T) : tyV K T x H := by
  have h := h.da s
  rcases hT with rfl | rfl
  · cases h with
    | lst h1 h2 => exact .inl ⟨rfl, _, h1⟩
    | _ => simp [tyOf] at e
  · cases h with
    | str x => rfl
    | _ => simp [tyOf] at e
theorem d_meth {T : String} {name : Str} {id : String} {g : List PyData → Option Out} {o e : Expr} {es : List Expr} {d : Dn Rv} {das : List (Dn Rv)} {apos cpos : Pos} (c : Cok Z X m k) (pa : PlainAttrs T) (slot : Slot T name id) (hty : typeOf (.builtin id) = pure (.type "method_descriptor")) (hT : T = "list" ∨ T = "str")
    (hm : MtR X id (fun x xs H Q => rD X.K g (x :: xs) H Q)) (ho : PE X o (tD Z d)) (ha : PA X (e :: es) (tA Z das))
    (hbase : attributeBase o name X.env (eval o X.env) = eval o X.env := by rfl)
    (hfew : ((backTo cpos (starEach (e :: es) X.env)).all (fun x => !x.1) && (backToKw cpos (keywordEach [] X.env)).all (fun x => x.1.isSome)
      && decide ((e :: es).length + ([] : List Keyword).length + (if ([] : List Keyword).isEmpty then 0 else 1) < 30)) = true := by rfl)
    (hline : (apos.endLine == cpos.line) = true := by rfl) (he : starEach (e :: es) X.env = (false, eval e X.env) :: starEach es X.env := by rfl) (hpl : (backTo cpos (starEach es X.env)).any (·.1) = false := by rfl) :
    PE X (.Call (.Attribute o name apos) (e :: es) [] cpos) (tD Z (dM T g d das)) := by
  refine PE_imp (pe_bm pa slot hty hm ho ha hbase hfew hline he hpl) fun σ H Q ⟨B, env, R, h⟩ => ?_
  refine held R h fun x H1 B1 env1 r _ R1 q1 p => ?_
  cases e1 : dat env1 r with
  | none => rw [e1] at p; exact p.elim
  | some y =>
    rw [e1] at p
    dsimp only at p
    split at p
    · next ht =>
      refine ⟨by rw [c.hK]; exact tyV_of R1.bh (dat_ok R1 q1 e1) hT ht, B1, env1, R1, post.imp (post.bnd (Vl1 := fun B _ _ vs rs => StAll Z B σ vs rs) p) fun vs H2 ⟨B2, env2, rs, s, R2, q2, p2⟩ => ?_⟩
      rw [c.hK]
      exact app_rD R2 (.cons (q1.mono s) q2) p2
    · exact p.elim
/-- list.index: the first place of an int -/
def idxOf (i : Int) : List Int → Option Nat
  | [] => none
  | n :: ns => if n = i then some 0 else (idxOf i ns).map (· + 1)
def gIndex : List PyData → Option Out
  | [.list xs, .int i] => match intsOf xs with
    | some ns => (idxOf i ns).map fun j => .fz (.int (j : Nat))
    | none => none
  | _ => none
theorem idxOf_ok {i : Int} : ∀ {ns : List Int} {j : Nat}, idxOf i ns = some j → ns[j]? = some i ∧ ∀ (m : Nat) (n : Int), m < j → ns[m]? = some n → n ≠ i
  | [], _, h => by cases h
  | n :: ns, j, h => by
    unfold idxOf at h
    split at h
    · next e => cases h; subst e; exact ⟨rfl, fun m n hm => absurd hm (Nat.not_lt_zero _)⟩
    · next e =>
      obtain ⟨j', h1, rfl⟩ := Option.map_eq_some_iff.mp h
      obtain ⟨h2, h3⟩ := idxOf_ok h1
      refine ⟨by rw [List.getElem?_cons_succ]; exact h2, fun m n' hm hn => ?_⟩
      cases m with
      | zero => cases Option.some.inj hn; exact e
      | succ m => rw [List.getElem?_cons_succ] at hn; exact h3 m n' (by omega) hn
theorem m_index : MtR X "list.index" (fun x xs H Q => rD X.K gIndex (x :: xs) H Q) := by
  intro pins s σ H x xs v us Q I rx rv h
  obtain ⟨B, ds, out, sB, ar, hg, q⟩ := h
  unfold gIndex at hg
  split at hg
  · next ys i =>
    split at hg
    · next ns hn =>
      obtain ⟨j, hj, rfl⟩ := Option.map_eq_some_iff.mp hg
      rw [intsOf_eq hn] at ar
      cases ar with
      | cons a1 t => cases t with
        | cons a2 t =>
          cases t
          obtain ⟨p1, ws, rfl, s1, d1⟩ := a1.lst sB
          rw [DaAll.ints d1] at s1
          rw [a2.int] at rv
          obtain ⟨h2, h3⟩ := idxOf_ok hj
          refine mt_index pins s σ H _ _ v us Q I rx rv ⟨p1, ns.map V.int, .int i, j, .int i, rfl, rfl, s1, rfl, ?_, by rw [List.getElem?_map, h2]; rfl, by simp [eqV], fun m z' hm hz => ?_, q.imm sB fun _ => .int _⟩
          · rw [List.all_map, List.all_eq_true]; intro n _; rfl
          · rw [List.getElem?_map] at hz
            obtain ⟨n, hn1, rfl⟩ := Option.map_eq_some_iff.mp hz
            have := h3 m n hm hn1
            simp [eqV, this]
    · cases hg
  · cases hg

/-! ### methods that change a list in a slot -/
def putL (i : Nat) (f : List PyData → Option (List PyData)) : Dn Fl := fun e => match e[i]? with
  | some (.own (.l xs)) => match f xs with
    | some ys => .ok .nx (e.set i (.own (.l ys)))
    | none => .bad
  | _ => .bad
def dAppend1 (i : Nat) (d : Dn Rv) : Dn Fl := bnd d fun r => bnd (cmt r) fun x => putL i fun xs => if xs.length < 100000 then some (xs ++ [x]) else none
/-- a step upon an own list in slot i -/
def onL (i : Nat) (d : Dn Fl) : Dn Fl := fun e => match e[i]? with
  | some (.own (.l _)) => d e
  | _ => .bad
def dAppend (i : Nat) (d : Dn Rv) : Dn Fl := onL i (dAppend1 i d)
theorem Rel.write {B H : Hp} {env : List Sl} {σ : St} {i : Nat} {a : Addr} {xs ys : List PyData} {ws : List V} (R : Rel Z B env σ H) (he : env[i]? = some (.own (.l xs))) (hσ : σ[i]? = some (some (.ref a))) (hd : DaAll Z.K B ws ys) : Rel Z B (env.set i (.own (.l ys))) σ (upd H a (.lst ws)) := by
  obtain ⟨b, h1, h2, h3, vs, h4, h5⟩ := R.slot i _ he
  rw [hσ] at h1
  cases h1
  have hl : i < env.length := by
    obtain ⟨q, _⟩ := List.getElem?_eq_some_iff.mp he
    exact q
  refine ⟨fun c o e => ?_, fun c o e => ?_, R.b0, R.new, by rw [List.length_set]; exact R.len, R.arg, fun j s e => ?_, fun j k c1 cc cc' e1 e2 e3 e4 => ?_⟩
  · rw [upd_ne (fun z => by rw [z, h2] at e; cases e)]; exact R.bh _ _ e
  · rw [upd_ne (fun z => by rw [z, h3] at e; cases e)]; exact R.fh _ _ e
  · by_cases hj : i = j
    · subst hj
      rw [List.getElem?_set_self hl] at e
      cases e
      exact ⟨a, hσ, h2, h3, ws, upd_same, hd⟩
    · rw [List.getElem?_set_ne hj] at e
      have q := R.slot j s e
      cases s with
      | un => trivial
      | fz d => exact q
      | own cc =>
        obtain ⟨b, g1, g2, g3, g4⟩ := q
        have nb : b ≠ a := fun z => hj (R.sep i j a _ cc he e hσ (by rw [g1, z]))
        exact ⟨b, g1, g2, g3, g4.mono (.refl _) fun o e => by rw [upd_ne nb]; exact e⟩
  · have key : ∀ (m : Nat) (c0 : Cell), (env.set i (.own (.l ys)))[m]? = some (.own c0) → ∃ c1, env[m]? = some (.own c1) := fun m c0 e => by
      by_cases hm : i = m
      · subst hm; exact ⟨_, he⟩
      · rw [List.getElem?_set_ne hm] at e; exact ⟨_, e⟩
    obtain ⟨d1, f1⟩ := key j cc e1
    obtain ⟨d2, f2⟩ := key k cc' e2
    exact R.sep j k c1 d1 d2 f1 f2 e3 e4
theorem s_append {i : Nat} {x : Str} {e : Expr} {d : Dn Rv} {p apos cpos pos : Pos} (c : Cok Z X m k) (he : PE X e (tD Z d)) (hN : X.N[i]? = some x := by rfl) (hv : Vis X.env.scope x := by first | exact Or.inl rfl | exact Or.inr (Or.inl rfl) | exact Or.inr (Or.inr rfl))
    (hd : (x == ("__debug__" : Str)) = false := by decide) (hcd : (x == ("__classdict__" : Str)) = false := by decide)
    (hbase : attributeBase (.Name x p) "append" X.env (eval (.Name x p) X.env) = eval (.Name x p) X.env := by rfl)
    (hfew : ((backTo cpos (starEach [e] X.env)).all (fun x => !x.1) && (backToKw cpos (keywordEach [] X.env)).all (fun x => x.1.isSome)
      && decide ([e].length + ([] : List Keyword).length + (if ([] : List Keyword).isEmpty then 0 else 1) < 30)) = true := by rfl)
    (hline : (apos.endLine == cpos.line) = true := by rfl) (hs : starEach [e] X.env = (false, eval e X.env) :: starEach [] X.env := by rfl) (hpl : (backTo cpos (starEach [] X.env)).any (·.1) = false := by rfl)
    (hsw : swapsWith (.Call (.Attribute (.Name x p) "append" apos) [e] [] cpos) none pos.line X.env = pure false := by rfl) : PS X (.Expr (.Call (.Attribute (.Name x p) "append" apos) [e] [] cpos) pos) (tDS Z (dAppend i d)) := by
  refine PS_imp (ps_expr (pe_bm PySem.F.plainAttrs_list PySem.F.slot_list_append PySem.F.type_list_append mt_append (pe_var hN hv hd hcd) (pa_cons he pa_nil hs) hbase hfew hline hs hpl) hsw) fun D σ H ⟨B, env, R, h⟩ => ?_
  unfold dAppend onL at h
  split at h
  · next xs0 e0 =>
    obtain ⟨a, h1, h2, h3, vs, h4, h5⟩ := R.slot i _ e0
    refine ⟨.ref a, h1, .inl ⟨rfl, _, .inl (.inl h4)⟩, ?_⟩
    refine ⟨B, env, R, post.imp (postS.bndE (σ := σ) (Vl1 := fun B env H v r => Val Z B env σ H v r) h) fun v H1 ⟨B1, env1, r, s1, R1, q, p⟩ => ?_⟩
    unfold DL.bnd at p
    rcases cmt_cases r env1 with ⟨y, env2, e2⟩ | e2
    · rw [e2] at p
      dsimp only at p
      obtain ⟨B2, s2, R2, d2⟩ := cmt_ok R1 q e2
      unfold putL at p
      split at p
      · next xs e3 =>
        obtain ⟨b, g1, g2, g3, ws, g4, g5⟩ := R2.slot i _ e3
        rw [h1] at g1
        cases g1
        split at p
        · next ys hys =>
          dsimp only at hys
          split at hys
          · next hz =>
            cases hys
            have hl := g5.length
            refine ⟨a, ws, v, rfl, rfl, g4, Nat.lt_of_lt_of_le (by omega : ws.length < 100000) (by decide), p σ _ B2 s2 (R2.write e3 h1 (g5.append (.cons d2 .nil)))⟩
          · cases hys
        · exact p.elim
      · exact p.elim
    · rw [e2] at p
      exact p.elim
  · exact h.elim
/-- xs.extend(e), e a list -/
def dExtend (i : Nat) (d : Dn Rv) : Dn Fl := onL i (bnd d fun r => bnd (cmt r) fun x => putL i fun xs => match x with
  | .list ys => if xs.length + ys.length ≤ 100000 then some (xs ++ ys) else none
  | _ => none)
theorem list_extendW (l : Addr) (items : Array Value) (n : Nat) (b : Addr) (items2 : Array Value) (n2 : Nat) (dd2 : Option Addr) (sl2 : Array (Option Value)) (hc0 : ¬(!items.isEmpty && Builtin.List.listTooLong (items.size + items2.size)) = true) (hc1 : items.size ≤ sizeLine) (hs2 : items.size + items2.size ≤ sizeLine + 1) :
    Meets (Builtin.«list.extend» ⟨[.ref l, .ref b], []⟩) (fun _ R s => s.heap.get? l = some { cls := .type "list", dict := none, data := .seq items n, slots := #[] } ∧ s.heap.get? b = some { cls := .type "list", dict := dd2, data := .seq items2 n2, slots := sl2 } ∧ R (.ok (.ret Value.none)) { s with heap := s.heap.update l (Obj.mapSeq fun x => x ++ items2), toks := s.toks }) :=
  .of_wp fun prog w A R s h => by
    obtain ⟨hp, g, d, tk, os⟩ := s; obtain ⟨hl, hb, h⟩ := h; have f1 := AutoSeq1.idx_int; have f2 := AutoSeq1.sub_tuple_tuple; have f3 := AutoSeq1.sub_list_list; have f4 := AutoSeq1.sub_tuple_list; have f5 := AutoSeq1.sub_list_tuple
    have hz' : (items ++ items2).size ≤ sizeLine + 1 := by rw [Array.size_append]; exact hs2
    wp_walk using (wpAny_updateSeq hl rfl (hz := hc1) (_hz' := hz')), AutoSeq1.wpAny_loadPart' hl, AutoSeq1.wpAny_loadPart' hb; exact ⟨_, rfl, h⟩
theorem mt_extendR : MtM X "list.extend" (fun x vs H Q => ∃ l b xs zs, x = .ref l ∧ vs = [.ref b] ∧ H l = some (.lst xs) ∧ SqL X.K H b zs ∧ xs.length + zs.length ≤ sizeLine ∧ Q .non (upd H l (.lst (xs ++ zs)))) := by
  intro pins s σ H x vs v us Q I rx rv h
  obtain ⟨l, b, xs, zs, rfl, rfl, hH, hB, hz, q⟩ := h
  cases rx
  obtain ⟨u, rfl, ru⟩ := rv.one
  cases ru
  obtain ⟨z, its, n, r, hl, e⟩ := I.lstM hH
  obtain ⟨its2, r2, ⟨⟨cls2, dd2, data2, sl2⟩, n2, ho2, hc2, hdd2, hd2⟩, z2⟩ := I.list hB
  simp only at hc2 hd2
  subst hc2 hd2
  have hl2 := r2.length
  have hsz : its.toArray.size + its2.toArray.size ≤ sizeLine := by rw [List.size_toArray, List.size_toArray]; omega
  have hlong : ¬ (!its.toArray.isEmpty && Builtin.List.listTooLong (its.toArray.size + its2.toArray.size)) = true := by
    rw [notLongL hsz, Bool.and_false]
    exact Bool.false_ne_true
  refine call_meets F.slot_list_extend ⟨_, e, rfl⟩ F.entry_list_extend (F.args_list_extend_2 _ _)
    (list_extendW l its.toArray n b its2.toArray n2 dd2 sl2 hlong (by rw [List.size_toArray]; omega) (by omega)) ⟨e, ho2, ?_⟩
  refine ⟨.non, _, I.lset (its' := its ++ its2) hH e (by simp) (r.append r2) ?_, rfl, q⟩
  rw [List.length_append]
  omega
theorem s_extend {i : Nat} {x : Str} {e : Expr} {d : Dn Rv} {p apos cpos pos : Pos} (c : Cok Z X m k) (he : PE X e (tD Z d)) (hN : X.N[i]? = some x := by rfl) (hv : Vis X.env.scope x := by first | exact Or.inl rfl | exact Or.inr (Or.inl rfl) | exact Or.inr (Or.inr rfl))
    (hd : (x == ("__debug__" : Str)) = false := by decide) (hcd : (x == ("__classdict__" : Str)) = false := by decide)
    (hbase : attributeBase (.Name x p) "extend" X.env (eval (.Name x p) X.env) = eval (.Name x p) X.env := by rfl)
    (hfew : ((backTo cpos (starEach [e] X.env)).all (fun x => !x.1) && (backToKw cpos (keywordEach [] X.env)).all (fun x => x.1.isSome)
      && decide ([e].length + ([] : List Keyword).length + (if ([] : List Keyword).isEmpty then 0 else 1) < 30)) = true := by rfl)
    (hline : (apos.endLine == cpos.line) = true := by rfl) (hs : starEach [e] X.env = (false, eval e X.env) :: starEach [] X.env := by rfl) (hpl : (backTo cpos (starEach [] X.env)).any (·.1) = false := by rfl)
    (hsw : swapsWith (.Call (.Attribute (.Name x p) "extend" apos) [e] [] cpos) none pos.line X.env = pure false := by rfl) : PS X (.Expr (.Call (.Attribute (.Name x p) "extend" apos) [e] [] cpos) pos) (tDS Z (dExtend i d)) := by
  refine PS_imp (ps_expr (pe_bm PySem.F.plainAttrs_list PySem.F.slot_list_extend PySem.F.type_list_extend mt_extendR (pe_var hN hv hd hcd) (pa_cons he pa_nil hs) hbase hfew hline hs hpl) hsw) fun D σ H ⟨B, env, R, h⟩ => ?_
  unfold dExtend onL at h
  split at h
  · next xs0 e0 =>
    obtain ⟨a, h1, h2, h3, vs, h4, h5⟩ := R.slot i _ e0
    refine ⟨.ref a, h1, .inl ⟨rfl, _, .inl (.inl h4)⟩, ?_⟩
    refine ⟨B, env, R, post.imp (postS.bndE (σ := σ) (Vl1 := fun B env H v r => Val Z B env σ H v r) h) fun v H1 ⟨B1, env1, r, s1, R1, q, p⟩ => ?_⟩
    unfold DL.bnd at p
    rcases cmt_cases r env1 with ⟨y, env2, e2⟩ | e2
    · rw [e2] at p
      dsimp only at p
      obtain ⟨B2, s2, R2, d2⟩ := cmt_ok R1 q e2
      unfold putL at p
      split at p
      · next xs e3 =>
        obtain ⟨b, g1, g2, g3, ws, g4, g5⟩ := R2.slot i _ e3
        rw [h1] at g1
        cases g1
        split at p
        · next ys hys =>
          dsimp only at hys
          split at hys
          · next zs =>
            split at hys
            · next hz =>
              cases hys
              obtain ⟨b2, us, rfl, u1, u2⟩ := Da.lstI d2
              have hl := g5.length
              have hl2 := u2.length
              refine ⟨a, b2, ws, us, rfl, rfl, g4, by rw [c.hK]; exact R2.bh.seq u1, by rw [hl, hl2]; exact le_line hz, p σ _ B2 s2 (R2.write e3 h1 (g5.append u2))⟩
            · cases hys
          · cases hys
        · exact p.elim
      · exact p.elim
    · rw [e2] at p
      exact p.elim
  · exact h.elim
end
end DL

/-! D11: the forms that the printer writes. -/
namespace DL
open PySem PySem.Spec PyProof.Rows L2
section
variable {X : Cx} {Z : Fx} {m k : Nat} {a b c0 : Expr} {da db dc : Dn Rv} {pos : Pos} {g g' : List PyData → Option Out}
theorem e_op {op : Operator} (c : Cok Z X m k) (ho : OpR X (binaryOp op) (rD2 X.K g)) (ha : PE X a (tD Z da)) (hb : PE X b (tD Z db)) : PE X (.BinOp a op b pos) (tD Z (dB g [da, db])) := d_op (c.hK ▸ ho) ha hb
theorem e_un {op : UnaryOp} (c : Cok Z X m k) (ho : UnR X (unaryOp op) (rD1 X.K g)) (ha : PE X a (tD Z da)) : PE X (.UnaryOp op a pos) (tD Z (dB g [da])) := d_un (c.hK ▸ ho) ha
theorem e_cmp {op : CmpOp} (c : Cok Z X m k) (ho : OpR X (compareOp op) (rD2 X.K g)) (ha : PE X a (tD Z da)) (hb : PE X b (tD Z db)) (hm : behindInMarks op b = false) : PE X (.Compare a [op] [b] pos) (tD Z (dB g [da, db])) := d_cmp (c.hK ▸ ho) ha hb hm
theorem e_cmpT {op : CmpOp} (c : Cok Z X m k) (ho : OpR X (compareOp op) (rD2 X.K g)) (ha : PE X a (tD Z da)) (hb : PE X b (tD Z db)) (hm : behindInMarks op b = false) : PT X (.Compare a [op] [b] pos) (tT Z (dTruth (dB g [da, db]))) := d_testCmp (c.hK ▸ ho) ha hb hm
theorem e_chain {op op' : CmpOp} (c : Cok Z X m k) (ho : OpR X (compareOp op) (rD2 X.K g)) (ho' : OpR X (compareOp op') (rD2 X.K g')) (ha : PE X a (tD Z da)) (hb : PE X b (tD Z db)) (hc : PE X c0 (tD Z dc))
    (hm : lastMarks [op, op'] [b, c0] = false := by with_unfolding_all rfl) : PE X (.Compare a [op, op'] [b, c0] pos) (tD Z (dChain g g' da db dc)) := d_chain (c.hK ▸ ho) (c.hK ▸ ho') ha hb hc hm
theorem e_chainT {op op' : CmpOp} (c : Cok Z X m k) (ho : OpR X (compareOp op) (rD2 X.K g)) (ho' : OpR X (compareOp op') (rD2 X.K g')) (ha : PE X a (tD Z da)) (hb : PE X b (tD Z db)) (hc : PE X c0 (tD Z dc))
    (hm : lastMarks [op, op'] [b, c0] = false := by with_unfolding_all rfl) : PT X (.Compare a [op, op'] [b, c0] pos) (tT Z (dTruth (dChain g g' da db dc))) := d_chainT (c.hK ▸ ho) (c.hK ▸ ho') ha hb hc hm
theorem e_ix (c : Cok Z X m k) (ha : PE X a (tD Z da)) (hb : PE X b (tD Z db)) (hs : PlainIx b := by exact fun _ _ => rfl) : PE X (.Subscript a b pos) (tD Z (dB gIx [da, db])) := d_ix (c.hK ▸ x_ix) ha hb hs
theorem e_lo {p2 : Pos} (c : Cok Z X m k) (ha : PE X a (tD Z da)) (hb : PE X b (tD Z db)) : PE X (.Subscript a (.Slice (some b) none none p2) pos) (tD Z (dB (gLo gCut) [da, db])) := d_sliceLo (c.hK ▸ l_cut) ha hb
theorem e_hi {p2 : Pos} (c : Cok Z X m k) (ha : PE X a (tD Z da)) (hb : PE X b (tD Z db)) : PE X (.Subscript a (.Slice none (some b) none p2) pos) (tD Z (dB (gHi gCut) [da, db])) := d_sliceHi (c.hK ▸ l_cut) ha hb
theorem e_callB {x : Str} {p : Pos} {e : Expr} {es : List Expr} {das : List (Dn Rv)} {id : String} (c : Cok Z X m k) (hc : CallR X (.builtin id) (rD X.K g)) (hm : X.mg x = none) (hv : bootBuiltins x = some (.builtin id)) (ha : PA X (e :: es) (tA Z das))
    (hg : Gl X x := by rfl) (hn : x ≠ "__name__" := by decide) (hdb : (x == ("__debug__" : Str)) = false := by decide) (he : starEach (e :: es) X.env = (false, eval e X.env) :: starEach es X.env := by rfl) (hpl : (backTo pos (starEach es X.env)).any (·.1) = false := by rfl) :
    PE X (.Call (.Name x p) (e :: es) [] pos) (tD Z (dB g das)) := d_callB (c.hK ▸ hc) hm hv ha hg hn hdb he hpl
theorem e_callTy {x : Str} {p : Pos} {e : Expr} {es : List Expr} {das : List (Dn Rv)} {T : String} (c : Cok Z X m k) (hc : CallR X (.type T) (rD X.K g)) (hm : X.mg x = none) (hv : bootBuiltins x = some (.type T)) (ha : PA X (e :: es) (tA Z das))
    (hg : Gl X x := by rfl) (hn : x ≠ "__name__" := by decide) (hdb : (x == ("__debug__" : Str)) = false := by decide) (he : starEach (e :: es) X.env = (false, eval e X.env) :: starEach es X.env := by rfl) (hpl : (backTo pos (starEach es X.env)).any (·.1) = false := by rfl) :
    PE X (.Call (.Name x p) (e :: es) [] pos) (tD Z (dB g das)) := d_callTy (c.hK ▸ hc) hm hv ha hg hn hdb he hpl
theorem e_glob {x : Str} {d : PyData} (c : Cok Z X m k) (hm : ∃ v u, X.mg x = some u ∧ RelV v u ∧ ∀ B, Da X.K B v d) (hg : Gl X x := by rfl) (hd : (x == ("__debug__" : Str)) = false := by decide) : PE X (.Name x pos) (tD Z (dC d)) := d_glob (c.hK ▸ hm) hg hd
end
theorem bt_len : bootBuiltins "len" = some (.builtin "len") := by decide +kernel
theorem bt_sum : bootBuiltins "sum" = some (.builtin "sum") := by decide +kernel
theorem bt_max : bootBuiltins "max" = some (.builtin "max") := by decide +kernel
theorem bt_min : bootBuiltins "min" = some (.builtin "min") := by decide +kernel
theorem bt_all : bootBuiltins "all" = some (.builtin "all") := by decide +kernel
theorem bt_sorted : bootBuiltins "sorted" = some (.builtin "sorted") := by decide +kernel
theorem bt_isinstance : bootBuiltins "isinstance" = some (.builtin "isinstance") := by decide +kernel
theorem bt_tuple : bootBuiltins "tuple" = some (.type "tuple") := by decide +kernel
theorem bt_list : bootBuiltins "list" = some (.type "list") := by decide +kernel
theorem bt_int : bootBuiltins "int" = some (.type "int") := by decide +kernel
theorem bt_bool : bootBuiltins "bool" = some (.type "bool") := by decide +kernel
theorem bt_str : bootBuiltins "str" = some (.type "str") := by decide +kernel

/-! ### a, b = x, y: the first value committed, the second one kept or committed -/
def put2 (i j : Nat) (x : PyData) : Rv → Dn Fl
  | .fz y, e => .ok .nx ((e.set i (.fz x)).set j (.fz y))
  | .nw c, e => .ok .nx ((e.set i (.fz x)).set j (.own c))
  | .bor _, _ => .bad
def dPar (i j : Nat) (da db : Dn Rv) : Dn Fl := bnd da fun r => bnd (cmt r) fun x => bnd db fun q => put2 i j x q
def dParF (i j : Nat) (da db : Dn Rv) : Dn Fl := bnd da fun r => bnd (cmt r) fun x => bnd db fun q => bnd (cmt q) fun y => put2 i j x (.fz y)
theorem Rel.par {Z : Fx} {B H : Hp} {env : List Sl} {σ : St} {i j : Nat} {v w : V} {x : PyData} {s : Sl} (R : Rel Z B env σ H) (hi : Z.vs0.length ≤ i) (hj : Z.vs0.length ≤ j) (hv : Da Z.K B v x) (hw : NewOk Z B env σ H w s) :
    Rel Z B ((env.set i (.fz x)).set j s) ((σ.set i (some v)).set j (some w)) H := by
  refine (R.store hi (s := .fz x) hv).store hj ?_
  cases s with
  | un => trivial
  | fz d => exact hw
  | own c =>
    obtain ⟨a, rfl, h1, h2, h3, h4⟩ := hw
    refine ⟨a, rfl, h1, h2, h3, fun n c' e1 e2 => ?_⟩
    by_cases hn : i = n
    · subst hn
      have hl : i < env.length := by
        obtain ⟨z, _⟩ := List.getElem?_eq_some_iff.mp e1
        simpa using z
      rw [List.getElem?_set_self hl] at e1
      cases e1
    · rw [List.getElem?_set_ne hn] at e1 e2
      exact h4 n c' e1 e2
section
variable {X : Cx} {Z : Fx} {m k : Nat} {a b : Expr} {da db : Dn Rv} {pos : Pos}
/-- both ways of storing -/
theorem par_of {i j : Nat} {D : Ends} {σ : St} {H : Hp} (hi : Z.vs0.length ≤ i) (hj : Z.vs0.length ≤ j) (h : tDS Z (dPar i j da db) D σ H) :
    tD Z da σ H fun v H1 => tD Z db σ H1 fun w H2 => (∀ p, H2 p = none → D.nx ((σ.set i (some v)).set j (some w)) (upd H2 p (.tup [v, w]))) ∧ D.nx ((σ.set i (some v)).set j (some w)) H2 := by
  obtain ⟨B, env, R, h⟩ := h
  refine ⟨B, env, R, post.imp (postS.bndE (σ := σ) (Vl1 := fun B env H v r => Val Z B env σ H v r) h) fun v H1 ⟨B1, env1, r, s1, R1, q1, p1⟩ => ?_⟩
  unfold DL.bnd at p1
  rcases cmt_cases r env1 with ⟨x, env2, e2⟩ | e2
  · rw [e2] at p1
    dsimp only at p1
    obtain ⟨B2, s2, R2, d2⟩ := cmt_ok R1 q1 e2
    refine ⟨B2, env2, R2, post.imp (postS.bndE (σ := σ) (m := db) (f := fun q => put2 i j x q) (Vl1 := fun B env H v r => Val Z B env σ H v r) (postS.weak s2 p1)) fun w H3 ⟨B3, env3, q, s3, R3, q3, p3⟩ => ?_⟩
    have d3 := Da.mono s3 _ d2
    cases q with
    | fz y =>
      refine ⟨fun p hp => ?_, p3 _ H3 B3 (.refl _) (R3.par hi hj d3 (s := .fz y) q3)⟩
      exact p3 _ _ B3 (.refl _) ((R3.par hi hj d3 (s := .fz y) q3).ext (Ext.heap _ R3.bh hp))
    | nw c =>
      refine ⟨fun p hp => ?_, p3 _ H3 B3 (.refl _) (R3.par hi hj d3 (s := .own c) q3)⟩
      exact p3 _ _ B3 (.refl _) ((R3.par hi hj d3 (s := .own c) q3).ext (Ext.heap _ R3.bh hp))
    | bor l => exact p3.elim
  · rw [e2] at p1
    exact p1.elim
theorem parF_of {i j : Nat} {D : Ends} {σ : St} {H : Hp} (hi : Z.vs0.length ≤ i) (hj : Z.vs0.length ≤ j) (h : tDS Z (dParF i j da db) D σ H) :
    tD Z da σ H fun v H1 => tD Z db σ H1 fun w H2 => (∀ p, H2 p = none → D.nx ((σ.set i (some v)).set j (some w)) (upd H2 p (.tup [v, w]))) ∧ D.nx ((σ.set i (some v)).set j (some w)) H2 := by
  obtain ⟨B, env, R, h⟩ := h
  refine ⟨B, env, R, post.imp (postS.bndE (σ := σ) (Vl1 := fun B env H v r => Val Z B env σ H v r) h) fun v H1 ⟨B1, env1, r, s1, R1, q1, p1⟩ => ?_⟩
  unfold DL.bnd at p1
  rcases cmt_cases r env1 with ⟨x, env2, e2⟩ | e2
  · rw [e2] at p1
    dsimp only at p1
    obtain ⟨B2, s2, R2, d2⟩ := cmt_ok R1 q1 e2
    refine ⟨B2, env2, R2, post.imp (postS.bndE (σ := σ) (m := db) (f := fun q => bnd (cmt q) fun y => put2 i j x (.fz y)) (Vl1 := fun B env H v r => Val Z B env σ H v r) (postS.weak s2 p1)) fun w H3 ⟨B3, env3, q, s3, R3, q3, p3⟩ => ?_⟩
    unfold DL.bnd at p3
    rcases cmt_cases q env3 with ⟨y, env4, e4⟩ | e4
    · rw [e4] at p3
      obtain ⟨B4, s4, R4, d4⟩ := cmt_ok R3 q3 e4
      have d3 := Da.mono s4 _ (Da.mono s3 _ d2)
      have RR := R4.par hi hj d3 (s := .fz y) d4
      exact ⟨fun p hp => p3 _ _ B4 s4 (RR.ext (Ext.heap _ R4.bh hp)), p3 _ H3 B4 s4 RR⟩
    · rw [e4] at p3
      exact p3.elim
  · rw [e2] at p1
    exact p1.elim
/-- local names: no tuple is made -/
theorem par_loc {i j : Nat} {d : Dn Fl} {x y : Str} {px py pt : Pos} {kt k2 pt2} (c : Cok Z X m k)
    (H0 : ∀ {D : Ends} {σ : St} {H : Hp}, tDS Z d D σ H → tD Z da σ H fun v H1 => tD Z db σ H1 fun w H2 => (∀ p, H2 p = none → D.nx ((σ.set i (some v)).set j (some w)) (upd H2 p (.tup [v, w]))) ∧ D.nx ((σ.set i (some v)).set j (some w)) H2)
    (ha : PE X a (tD Z da)) (hb : PE X b (tD Z db)) (hij : i ≠ j) (hi : X.N[i]? = some x) (hj : X.N[j]? = some y) (hx : X.env.scope.names.lookup x = some .local) (hy : X.env.scope.names.lookup y = some .local)
    (hw : swappedStores [.Tuple [.Name x px, .Name y py] kt pt] (.Tuple [a, b] k2 pt2) X.env = pure (some [x, y])) (hs : swapsWithSole [.Tuple [.Name x px, .Name y py] kt pt] (.Tuple [a, b] k2 pt2) pos.line X.env = pure false)
    (h1 : starEach [a, b] X.env = (false, eval a X.env) :: starEach [b] X.env) (h2 : starEach [b] X.env = (false, eval b X.env) :: starEach [] X.env) :
    PS X (.Assign [.Tuple [.Name x px, .Name y py] kt pt] (.Tuple [a, b] k2 pt2) pos) (tDS Z d) := by
  refine PS_imp (ps_par c.calm c.nd hi hj hij hx hy (pa_cons ha (pa_cons hb pa_nil h2) h1) hw hs) fun D σ H h => ?_
  obtain ⟨B, env, R, h⟩ := H0 h
  refine ⟨B, env, R, post.imp h fun v H1 ⟨B1, env1, R1, h1⟩ => ⟨B1, env1, R1, post.imp h1 fun w H2 h2 => ⟨v, w, rfl, h2.2⟩⟩⟩
/-- a tuple is made and unpacked -/
theorem par_tup {i j : Nat} {d : Dn Fl} {x y : Str} {px py pt : Pos} {kt k2 pt2} (c : Cok Z X m k)
    (H0 : ∀ {D : Ends} {σ : St} {H : Hp}, tDS Z d D σ H → tD Z da σ H fun v H1 => tD Z db σ H1 fun w H2 => (∀ p, H2 p = none → D.nx ((σ.set i (some v)).set j (some w)) (upd H2 p (.tup [v, w]))) ∧ D.nx ((σ.set i (some v)).set j (some w)) H2)
    (ha : PE X a (tD Z da)) (hb : PE X b (tD Z db)) (hg : PGs X [.Name x px, .Name y py] (gsN [i, j]))
    (hs : swapsWithSole [.Tuple [.Name x px, .Name y py] kt pt] (.Tuple [a, b] k2 pt2) pos.line X.env = pure false) (hw : swappedStores [.Tuple [.Name x px, .Name y py] kt pt] (.Tuple [a, b] k2 pt2) X.env = pure none)
    (h1 : starEach [a, b] X.env = (false, eval a X.env) :: starEach [b] X.env) (h2 : starEach [b] X.env = (false, eval b X.env) :: starEach [] X.env)
    (h3 : (assignEach [.Tuple [.Name x px, .Name y py] kt pt] X.env).map (·.2) = [assign (.Tuple [.Name x px, .Name y py] kt pt) X.env])
    (hn : (assignEach [.Name x px, .Name y py] X.env).length = 2) (hst : (assignEach [.Name x px, .Name y py] X.env).findIdx? (·.1) = none) :
    PS X (.Assign [.Tuple [.Name x px, .Name y py] kt pt] (.Tuple [a, b] k2 pt2) pos) (tDS Z d) := by
  refine PS_imp (ps_asg (pe_tup (pa_cons ha (pa_cons hb pa_nil h2) h1)) (pg_tup c.calm hg hn hst) hs hw h3) fun D σ H h => ?_
  obtain ⟨B, env, R, h⟩ := H0 h
  refine ⟨B, env, R, post.imp h fun v H1 ⟨B1, env1, R1, h1⟩ => ⟨B1, env1, R1, post.imp h1 fun w H2 h2 => ⟨by show 2 ≤ sizeLine; decide, fun p hp => ?_⟩⟩⟩
  exact ⟨p, [v, w], rfl, .inl (.inl upd_same), rfl, rfl, h2.1 p hp⟩
theorem s_parF {i j : Nat} {x y : Str} {px py pt : Pos} {kt k2 pt2} (c : Cok Z X m k) (ha : PE X a (tD Z da)) (hb : PE X b (tD Z db)) (hmi : m ≤ i := by decide) (hmj : m ≤ j := by decide) (hij : i ≠ j := by decide) (hi : X.N[i]? = some x := by rfl) (hj : X.N[j]? = some y := by rfl) (hx : X.env.scope.names.lookup x = some .local := by rfl) (hy : X.env.scope.names.lookup y = some .local := by rfl)
    (hw : swappedStores [.Tuple [.Name x px, .Name y py] kt pt] (.Tuple [a, b] k2 pt2) X.env = pure (some [x, y]) := by rfl) (hs : swapsWithSole [.Tuple [.Name x px, .Name y py] kt pt] (.Tuple [a, b] k2 pt2) pos.line X.env = pure false := by rfl)
    (h1 : starEach [a, b] X.env = (false, eval a X.env) :: starEach [b] X.env := by rfl) (h2 : starEach [b] X.env = (false, eval b X.env) :: starEach [] X.env := by rfl) :
    PS X (.Assign [.Tuple [.Name x px, .Name y py] kt pt] (.Tuple [a, b] k2 pt2) pos) (tDS Z (dParF i j da db)) := par_loc c (fun h => parF_of (Nat.le_trans c.n0 hmi) (Nat.le_trans c.n0 hmj) h) ha hb hij hi hj hx hy hw hs h1 h2
theorem s_par {i j : Nat} {x y : Str} {px py pt : Pos} {kt k2 pt2} (c : Cok Z X m k) (ha : PE X a (tD Z da)) (hb : PE X b (tD Z db)) (hmi : m ≤ i := by decide) (hmj : m ≤ j := by decide) (hij : i ≠ j := by decide) (hi : X.N[i]? = some x := by rfl) (hj : X.N[j]? = some y := by rfl) (hx : X.env.scope.names.lookup x = some .local := by rfl) (hy : X.env.scope.names.lookup y = some .local := by rfl)
    (hw : swappedStores [.Tuple [.Name x px, .Name y py] kt pt] (.Tuple [a, b] k2 pt2) X.env = pure (some [x, y]) := by rfl) (hs : swapsWithSole [.Tuple [.Name x px, .Name y py] kt pt] (.Tuple [a, b] k2 pt2) pos.line X.env = pure false := by rfl)
    (h1 : starEach [a, b] X.env = (false, eval a X.env) :: starEach [b] X.env := by rfl) (h2 : starEach [b] X.env = (false, eval b X.env) :: starEach [] X.env := by rfl) :
    PS X (.Assign [.Tuple [.Name x px, .Name y py] kt pt] (.Tuple [a, b] k2 pt2) pos) (tDS Z (dPar i j da db)) := par_loc c (fun h => par_of (Nat.le_trans c.n0 hmi) (Nat.le_trans c.n0 hmj) h) ha hb hij hi hj hx hy hw hs h1 h2
theorem s_parTF {i j : Nat} {x y : Str} {px py pt : Pos} {kt k2 pt2} (c : Cok Z X m k) (ha : PE X a (tD Z da)) (hb : PE X b (tD Z db)) (hg : PGs X [.Name x px, .Name y py] (gsN [i, j])) (hmi : m ≤ i := by decide) (hmj : m ≤ j := by decide)
    (hw : swappedStores [.Tuple [.Name x px, .Name y py] kt pt] (.Tuple [a, b] k2 pt2) X.env = pure none := by rfl) (hs : swapsWithSole [.Tuple [.Name x px, .Name y py] kt pt] (.Tuple [a, b] k2 pt2) pos.line X.env = pure false := by rfl)
    (h1 : starEach [a, b] X.env = (false, eval a X.env) :: starEach [b] X.env := by rfl) (h2 : starEach [b] X.env = (false, eval b X.env) :: starEach [] X.env := by rfl)
    (h3 : (assignEach [.Tuple [.Name x px, .Name y py] kt pt] X.env).map (·.2) = [assign (.Tuple [.Name x px, .Name y py] kt pt) X.env] := by rfl)
    (hn : (assignEach [.Name x px, .Name y py] X.env).length = 2 := by rfl) (hst : (assignEach [.Name x px, .Name y py] X.env).findIdx? (·.1) = none := by rfl) :
    PS X (.Assign [.Tuple [.Name x px, .Name y py] kt pt] (.Tuple [a, b] k2 pt2) pos) (tDS Z (dParF i j da db)) := par_tup c (fun h => parF_of (Nat.le_trans c.n0 hmi) (Nat.le_trans c.n0 hmj) h) ha hb hg hs hw h1 h2 h3 hn hst
theorem s_parT {i j : Nat} {x y : Str} {px py pt : Pos} {kt k2 pt2} (c : Cok Z X m k) (ha : PE X a (tD Z da)) (hb : PE X b (tD Z db)) (hg : PGs X [.Name x px, .Name y py] (gsN [i, j])) (hmi : m ≤ i := by decide) (hmj : m ≤ j := by decide)
    (hw : swappedStores [.Tuple [.Name x px, .Name y py] kt pt] (.Tuple [a, b] k2 pt2) X.env = pure none := by rfl) (hs : swapsWithSole [.Tuple [.Name x px, .Name y py] kt pt] (.Tuple [a, b] k2 pt2) pos.line X.env = pure false := by rfl)
    (h1 : starEach [a, b] X.env = (false, eval a X.env) :: starEach [b] X.env := by rfl) (h2 : starEach [b] X.env = (false, eval b X.env) :: starEach [] X.env := by rfl)
    (h3 : (assignEach [.Tuple [.Name x px, .Name y py] kt pt] X.env).map (·.2) = [assign (.Tuple [.Name x px, .Name y py] kt pt) X.env] := by rfl)
    (hn : (assignEach [.Name x px, .Name y py] X.env).length = 2 := by rfl) (hst : (assignEach [.Name x px, .Name y py] X.env).findIdx? (·.1) = none := by rfl) :
    PS X (.Assign [.Tuple [.Name x px, .Name y py] kt pt] (.Tuple [a, b] k2 pt2) pos) (tDS Z (dPar i j da db)) := par_tup c (fun h => par_of (Nat.le_trans c.n0 hmi) (Nat.le_trans c.n0 hmj) h) ha hb hg hs hw h1 h2 h3 hn hst
end
/-- a def of the text, as the top leaves it -/
structure DefAt (K : PySem.W.Frag) (mg : Str → Option Value) (x : Str) (st : Stmt) : Prop where
  ex : ∃ f fd, Fun K x x st f fd ∧ mg x = some (.ref f)
theorem cal_mk {P : Program} {w : World} {K : PySem.W.Frag} {mg : Str → Option Value} {base : Heap} {x : Str} {st : Stmt} {N ps : List Str} {np nl k : Nat} {d : Dn Fl} (F : DefAt K mg x st) (S : FnScope N ps (defScope st))
    (hb : ∀ (kV doc pm : Value) (an : Option Addr) (cdv ct : Value) (us : List Value), us.length = ps.length → bindArgs (PySem.W.fnOf x x (defArgs st) (defBody st) (defScope st) .none kV doc pm an cdv ct) ⟨us, []⟩ = pure (ps.zip us))
    (body : ∀ (f : Addr) (cdv : Value) (A : Around) (outer : List Env) (s : Shared) (H : Hp) (E : XK) (Z : Fx), Cok Z (cxOf (L2.CX P w) P w K mg base N x (defScope st) f cdv A outer s H E) np k →
      PSs (cxOf (L2.CX P w) P w K mg base N x (defScope st) f cdv A outer s H E) (defBody st) (tDS Z d)) (hps : ps.length = np := by rfl) (hN : N.length = np + nl := by rfl) : Cal P w K mg base x np (k + 1) (fnD np nl d) := by
  obtain ⟨f, fd, F, gm⟩ := F.ex
  refine ⟨f, fd, ps, ?_, gm, F.kp, F.binds hb⟩
  exact fn_ok F S (fun cdv A outer s H E Z c => body f cdv A outer s H E Z c) hps hN
end DL

/-! D12: the end. -/
namespace DL
open PySem PySem.Spec PyProof.Rows L2
def spLaw (K : PySem.W.Frag) : Sp := fun vs H Q _ => ∃ (a : Addr) (ns : List Int), vs = [.ref a] ∧ SqL K H a (ns.map V.int) ∧ ns.length ≤ 63 ∧ ∀ H', Q (.bl true) H'
theorem sp_law {K : PySem.W.Frag} {mg : Str → Option Value} {F : Dn Rv} (hF : ∀ ns : List Int, ns.length ≤ 63 → ∃ e, F [.fz (.list (ns.map .int))] = .ok (.fz (.bool true)) e) : ∀ vs H Q E, spLaw K vs H Q E → spOf K mg 1 F vs H Q E := by
  intro vs H Q E h
  obtain ⟨a, ns, rfl, hs, hl, q⟩ := h
  obtain ⟨e, he⟩ := hF ns hl
  have hd : Da K H (.ref a) (.list (ns.map .int)) := .lst hs (DaAll.of_ints ns)
  refine ⟨rfl, H, H, [.fz (.list (ns.map .int))], ⟨.refl _, .refl _, .refl _, fun b o h => .inl h, rfl, fun i v h => ?_, fun i s h => ?_, fun i j b c c' h1 h2 h3 h4 => ?_⟩, ?_⟩
  · have h : [V.ref a][i]? = some v := h
    rw [List.getElem?_map, h]; rfl
  · cases i with
    | zero =>
      cases Option.some.inj h
      exact ⟨.ref a, rfl, hd⟩
    | succ i => simp at h
  · cases i with
    | zero => cases Option.some.inj h1
    | succ i => simp at h1
  · rw [he]
    intro v H' B' R' hv
    have hv : Da K B' v (.bool true) := hv
    cases hv
    exact q H'
/-- what the top has left of a def -/
theorem def_mk {K : PySem.W.Frag} {h : Heap} {mg : Str → Option Value} {x : Str} {st : Stmt} {f : Addr} {oc : Value} {od an : Option Addr} {sl : Array (Option Value)} {kV dc pm cd ct : Value} (X : K.In h) (G : h.Ns mainGlobals mg)
    (a : PySem.W.nsIn K mainGlobals x = some (some (.ref f))) (l : K.lookup f = some ⟨oc, od, .func (PySem.W.fnOf x x (defArgs st) (defBody st) (defScope st) .none kV dc pm an cd ct), sl⟩) (c : PySem.W.codeIn K cd x = true) (k : PySem.W.keepIn K (.ref f) = true) : DefAt K mg x st :=
  ⟨f, _, fun_mk l c k, PySem.W.mg_of X G a⟩
theorem exc_mk {K : PySem.W.Frag} {h : Heap} {mg : Str → Option Value} {x : Str} {C : Addr} (X : K.In h) (G : h.Ns mainGlobals mg) (a : PySem.W.nsIn K mainGlobals x = some (some (.ref C)))
    (e : PySem.W.excIn K C [.type "ValueError", .type "Exception", .type "BaseException", .type "object"] "ValueError.__new__" = true) (k : PySem.W.keepIn K (.ref C) = true) (b : PySem.W.subIn K (.ref C) (.type "BaseException") = some true) (t : PySem.W.typeIn K (.ref C) = some (.type "type")) : ExcF K mg x :=
  ⟨C, PySem.W.mg_of X G a, e, k, b, t⟩
theorem sizes_mk {K : PySem.W.Frag} {h : Heap} {mg : Str → Option Value} {x : Str} {a : Addr} {n1 n2 n3 : Int} {t1 t2 t3 : Tok} {n : Nat} {sl : Array (Option Value)} (X : K.In h) (G : h.Ns mainGlobals mg) (e : PySem.W.nsIn K mainGlobals x = some (some (.ref a)))
    (l : K.lookup a = some ⟨.type "tuple", none, .seq #[.int n1 t1, .int n2 t2, .int n3 t3] n, sl⟩) : ∃ v u, mg x = some u ∧ RelV v u ∧ ∀ B, Da K B v (.tuple [.int n1, .int n2, .int n3]) :=
  ⟨.ref a, .ref a, PySem.W.mg_of X G e, rfl, fun B => .tup (xs := [.int n1, .int n2, .int n3]) (.inr ⟨_, _, _, l, ⟨rfl, rfl⟩, rfl, by show 3 ≤ sizeLine; decide, .cons ⟨_, rfl⟩ (.cons ⟨_, rfl⟩ (.cons ⟨_, rfl⟩ .nil))⟩) (.cons (.int _) (.cons (.int _) (.cons (.int _) .nil)))⟩
theorem int_mk {K : PySem.W.Frag} {h : Heap} {mg : Str → Option Value} {x : Str} {n : Int} {t : Tok} (X : K.In h) (G : h.Ns mainGlobals mg) (e : PySem.W.nsIn K mainGlobals x = some (some (.int n t))) : ∃ v u, mg x = some u ∧ RelV v u ∧ ∀ B, Da K B v (.int n) :=
  ⟨.int n, _, PySem.W.mg_of X G e, ⟨_, rfl⟩, fun B => .int n⟩
theorem str_mk {K : PySem.W.Frag} {h : Heap} {mg : Str → Option Value} {x : Str} {n : Str} {t : Tok} (X : K.In h) (G : h.Ns mainGlobals mg) (e : PySem.W.nsIn K mainGlobals x = some (some (.str n t))) : ∃ v u, mg x = some u ∧ RelV v u ∧ ∀ B, Da K B v (.str n) :=
  ⟨.str n, _, PySem.W.mg_of X G e, ⟨_, rfl⟩, fun B => .str n⟩
/-- the law's def, over every base -/
theorem law_mk {P : Program} {w : World} {K : PySem.W.Frag} {mg : Str → Option Value} {x : Str} {st : Stmt} {fa : Addr} {lev : Nat} {F : Dn Rv} (D : DefAt K mg x st) (hfa : mg x = some (.ref fa)) (hb : ∀ (kV dc pm : Value) (an : Option Addr) (cd ct u : Value), bindArgs (PySem.W.fnOf x x (defArgs st) (defBody st) (defScope st) .none kV dc pm an cd ct) ⟨[u], []⟩ = pure [(("script" : Str), u)])
    (hF : ∀ ns : List Int, ns.length ≤ 63 → ∃ e, F [.fz (.list (ns.map .int))] = .ok (.fz (.bool true)) e)
    (ok : ∀ (f : Addr) (fd : FuncData) (base : Heap), Fun K x x st f fd → FnOk P w K mg base (L2.CX P w) lev f fd ["script"] (spOf K mg 1 F)) :
    ∃ fd : FuncData, (∀ (s : Shared) (u : Value), BindsTo s fd ⟨[u], []⟩ [("script", u)]) ∧ ∀ base : Heap, K.In base → base.Ns mainGlobals mg → FnOk P w K mg base (L2.CX P w) lev fa fd ["script"] (spLaw K) := by
  obtain ⟨f, fd, F1, gm⟩ := D.ex
  rw [hfa] at gm
  cases gm
  refine ⟨fd, ?_, fun base _ _ => (ok fa fd base F1).imp (sp_law hF)⟩
  obtain ⟨oc, od, kV, doc, pm, an, cdv, ct, osl, rfl, lk, hcd⟩ := F1.ex
  exact fun s u => .of_eq (hb kV doc pm an cdv ct u)
theorem cx_false {P : Program} {w : World} {H : Hp} {s : Shared} {e : Value} {s' : Shared} (h : L2.CX P w [] H s (fun _ _ _ => False) e s') : False := by
  obtain ⟨_, _, _, _, _, _, _, _, _, _, _, _, z⟩ := h
  exact z
end DL

/-! D13: further things: len(set(ints)), a list or a tuple turned round. -/
namespace DL
open PySem PySem.Spec PyProof.Rows L2
def fmet (ns : List Int) : List Int := firstMet (fun i => ns.getD i 0) ns.length
def gLenSet : List PyData → Option Out
  | [.list xs] => match intsOf xs with
    | some ns => if ns.length ≤ 4000 then some (.fz (.int ((fmet ns).length : Nat))) else none
    | none => none
  | _ => none
def tLenSetG (K : PySem.W.Frag) (ta : TE) : TE := fun σ H Q => ta σ H fun x H1 => ∃ (l : Addr) (ns : List Int), x = .ref l ∧ SqL K H1 l (ns.map V.int) ∧ ns.length ≤ 4000 ∧ Q (.int ((fmet ns).length : Nat)) H1
theorem pe_lenSetG {X : Cx} {a : Expr} {ta : TE} {p p2 q pos : Pos} (hg : Gl X "len") (hm : X.mg "len" = none) (hg2 : Gl X "set") (hm2 : X.mg "set" = none) (ha : PE X a ta) (hc : X.calm = true)
    (na : starEach [a] X.env = (false, eval a X.env) :: starEach [] X.env := by rfl) : PE X (.Call (.Name "len" p) [.Call (.Name "set" p2) [a] [] q] [] pos) (tLenSetG X.K ta) := by
  refine ⟨fun pins s σ H Q I h => ?_⟩
  refine Call_ (ld_blt I hg hm boot_len ?_)
  refine callWith_builtin1 (args_cons ?_ rfl) rfl rfl
  refine Call_ (ld_blt I hg2 hm2 boot_set ?_)
  refine callWith_type1 (args_cons (thn (ha.run pins s σ H _ I h) fun v s1 ⟨x, H1, I1, r1, q1⟩ => args_nil ?_) na) na rfl
  obtain ⟨l, ns, rfl, hq, hl, q1⟩ := q1
  cases r1
  obtain ⟨its, r, pl, hz⟩ := I1.list hq
  have hlen : its.toArray.size = ns.length := by rw [List.size_toArray, ← r.length, List.length_map]
  refine call_set_list (I1.ok.hd hc) pl.isList (by simpa using RZ.intsAre_vals r) (by rw [hlen]; unfold scanBound; omega) fun h' tk hS hk => ?_
  refine args_nil ?_
  rw [hlen] at hS
  have hfl : (fmet ns).length ≤ ns.length := firstMet_length_le _ _
  obtain ⟨o, es, ep, t, ho, hex, hd, _, _, _, hf, hn⟩ := hS
  have I2 : Inv X pins σ H1 { s1 with heap := h', toks := tk } := I1.kept fun b o e => hk b o (Heap.lt_size e) e
  have hn' : _ = (fmet ns).length := hn
  exact call_len_set ho hex hd hf (by rw [hn'] <;> omega) ⟨.int ((fmet ns).length : Nat), H1, I2.tok _, ⟨_, by rw [hn']⟩, q1⟩
section
variable {X : Cx} {Z : Fx} {m k : Nat}
theorem e_lenSet {a : Expr} {da : Dn Rv} {p p2 q pos : Pos} (c : Cok Z X m k) (ha : PE X a (tD Z da)) (hm : X.mg "len" = none) (hm2 : X.mg "set" = none) (hg : Gl X "len" := by rfl) (hg2 : Gl X "set" := by rfl)
    (na : starEach [a] X.env = (false, eval a X.env) :: starEach [] X.env := by rfl) : PE X (.Call (.Name "len" p) [.Call (.Name "set" p2) [a] [] q] [] pos) (tD Z (dB gLenSet [da])) := by
  refine PE_imp (pe_lenSetG hg hm hg2 hm2 ha c.calm na) fun σ H Q h => ?_
  obtain ⟨B, env, R, h⟩ := tD1_rD h
  refine ⟨B, env, R, post.imp h fun x H1 h => ?_⟩
  obtain ⟨B1, d, out, sB, a1, hg, q⟩ := rD1_of rfl h
  unfold gLenSet at hg
  split at hg
  · next xs e1 =>
    cases e1
    split at hg
    · next ns hn =>
      split at hg
      · next hz =>
        cases hg
        rw [intsOf_eq hn] at a1
        obtain ⟨p1, ws, rfl, s1, d1⟩ := a1.lst sB
        rw [DaAll.ints d1] at s1
        exact ⟨p1, ns, rfl, c.hK ▸ s1, hz, q.imm sB fun _ => .int _⟩
      · cases hg
    · cases hg
  · cases hg
/-- xs[::-1] of a list -/
def gRev : List PyData → Option Out
  | [.list xs] => some (.nl xs.reverse)
  | _ => none
theorem DaAll.rev {K : PySem.W.Frag} {B : Hp} : ∀ {vs : List V} {ds : List PyData}, DaAll K B vs ds → DaAll K B vs.reverse ds.reverse := by
  intro vs ds h
  induction vs generalizing ds with
  | nil => cases h; exact .nil
  | cons v vs ih =>
    cases h with
    | cons h t =>
      rw [List.reverse_cons, List.reverse_cons]
      exact (ih t).append (.cons h .nil)
theorem e_rev {a : Expr} {da : Dn Rv} {j : Nat} {p1 p2 p3 pos : Pos} (c : Cok Z X m k) (ha : PE X a (tD Z da)) : PE X (.Subscript a (.Slice none none (some (.UnaryOp .USub (.Constant (.int 1) j p1) p2)) p3) pos) (tD Z (dB gRev [da])) := by
  refine PE_imp (pe_revL ha) fun σ H Q h => ?_
  obtain ⟨B, env, R, h⟩ := tD1_rD h
  refine ⟨B, env, R, post.imp h fun x H1 h => ?_⟩
  obtain ⟨B1, d, out, sB, a1, hg, q⟩ := rD1_of rfl h
  unfold gRev at hg
  split at hg
  · next xs e1 =>
    cases e1
    cases hg
    obtain ⟨p1, ws, rfl, s1, d1⟩ := a1.lst sB
    exact ⟨p1, ws, rfl, c.hK ▸ s1, fun p hp => q p _ hp (DaAll.rev d1)⟩
  · cases hg
end
end DL

/-! D14: sorted(set(tuple of ints)). -/
namespace DL
open PySem PySem.Spec PyProof.Rows L2
/-- put into a rising list -/
def insS (k : Int) : List Int → List Int
  | [] => [k]
  | n :: ns => if k < n then k :: n :: ns else if k = n then n :: ns else n :: insS k ns
def srtS : List Int → List Int
  | [] => []
  | n :: ns => insS n (srtS ns)
theorem mem_insS (k j : Int) : ∀ ns : List Int, j ∈ insS k ns ↔ j = k ∨ j ∈ ns
  | [] => by simp [insS]
  | n :: ns => by
    unfold insS
    split
    · simp
    · split
      · next e => subst e; simp
      · simp [mem_insS k j ns]; grind
theorem insS_up (k : Int) : ∀ ns : List Int, ns.Pairwise (· < ·) → (insS k ns).Pairwise (· < ·)
  | [], _ => by simp [insS]
  | n :: ns, h => by
    obtain ⟨h1, h2⟩ := List.pairwise_cons.mp h
    unfold insS
    split
    · next c => exact List.pairwise_cons.mpr ⟨fun y hy => by rcases List.mem_cons.mp hy with rfl | hy; exact c; have := h1 y hy; omega, h⟩
    · split
      · exact h
      · next c1 c2 => exact List.pairwise_cons.mpr ⟨fun y hy => by rcases (mem_insS k y ns).mp hy with rfl | hy; omega; exact h1 y hy, insS_up k ns h2⟩
theorem mem_srtS (j : Int) : ∀ ns : List Int, j ∈ srtS ns ↔ j ∈ ns
  | [] => by simp [srtS]
  | n :: ns => by rw [srtS, mem_insS, mem_srtS j ns]; simp
theorem srtS_up : ∀ ns : List Int, (srtS ns).Pairwise (· < ·)
  | [] => by simp [srtS]
  | n :: ns => insS_up n _ (srtS_up ns)
theorem up_unique : ∀ {as bs : List Int}, as.Pairwise (· < ·) → bs.Pairwise (· < ·) → (∀ k, k ∈ as ↔ k ∈ bs) → as = bs
  | [], [], _, _, _ => rfl
  | [], b :: bs, _, _, h => by have := (h b).mpr (by simp); simp at this
  | a :: as, [], _, _, h => by have := (h a).mp (by simp); simp at this
  | a :: as, b :: bs, h1, h2, h => by
    obtain ⟨p1, p2⟩ := List.pairwise_cons.mp h1
    obtain ⟨q1, q2⟩ := List.pairwise_cons.mp h2
    have e : a = b := by
      rcases List.mem_cons.mp ((h a).mp (by simp)) with e | e
      · exact e
      · rcases List.mem_cons.mp ((h b).mpr (by simp)) with e2 | e2
        · exact e2.symm
        · have := q1 a e; have := p1 b e2; omega
    subst e
    rw [up_unique p2 q2 fun k => ⟨fun hk => ?_, fun hk => ?_⟩]
    · rcases List.mem_cons.mp ((h k).mp (by simp [hk])) with e | e
      · have := p1 k hk; omega
      · exact e
    · rcases List.mem_cons.mp ((h k).mpr (by simp [hk])) with e | e
      · have := q1 k hk; omega
      · exact e
def gSortSet : List PyData → Option Out
  | [.tuple xs] => match intsOf xs with
    | some ns => if ns.length < 60 then some (.nl ((srtS ns).map .int)) else none
    | none => none
  | _ => none
def tSortSet (K : PySem.W.Frag) (ta : TE) : TE := fun σ H Q => ta σ H fun x H1 => ∃ (l : Addr) (ns : List Int), x = .ref l ∧ SqT K H1 l (ns.map V.int) ∧ ns.length < 60 ∧ ∀ p, H1 p = none → Q (.ref p) (upd H1 p (.lst ((srtS ns).map V.int)))
theorem pe_sortSet {X : Cx} {a : Expr} {ta : TE} {p p2 q pos : Pos} (hg : Gl X "sorted") (hm : X.mg "sorted" = none) (hb : bootBuiltins "sorted" = some (.builtin "sorted")) (hg2 : Gl X "set") (hm2 : X.mg "set" = none) (ha : PE X a ta) (hc : X.calm = true)
    (na : starEach [a] X.env = (false, eval a X.env) :: starEach [] X.env := by rfl) : PE X (.Call (.Name "sorted" p) [.Call (.Name "set" p2) [a] [] q] [] pos) (tSortSet X.K ta) := by
  refine ⟨fun pins s σ H Q I h => ?_⟩
  refine Call_ (ld_blt I hg hm hb ?_)
  refine callWith_builtin1 (args_cons ?_ rfl) rfl rfl
  refine Call_ (ld_blt I hg2 hm2 boot_set ?_)
  refine callWith_type1 (args_cons (thn (ha.run pins s σ H _ I h) fun v s1 ⟨x, H1, I1, r1, q1⟩ => args_nil ?_) na) na rfl
  obtain ⟨l, ns, rfl, hq, hl, q1⟩ := q1
  cases r1
  obtain ⟨its, r, pt, hz⟩ := I1.tuple hq
  refine call_set_tupI ns (I1.ok.hd hc) (show s1.heap.IsTuple l its.toArray from pt) (by simpa using ints_of_vals r) (by unfold scanBound; omega) fun h' tk c R1 hcn k => ?_
  refine args_nil ?_
  have I2 : Inv X pins σ H1 { s1 with heap := h', toks := tk } := I1.kept fun b o e => k b o e
  refine sorted_set R1 (I2.ok.hd hc) (by omega) fun s' p out c ms k2 g o hp hgt hi hs hm3 hl3 => ?_
  have em : ms = srtS ns := up_unique hs (srtS_up ns) fun j => by rw [hm3, mem_srtS]; simp
  have hlen : (ms.map V.int).length ≤ sizeLine := by rw [List.length_map, hl3, sizeLine_eq]; omega
  have hn : H1 p = none := I2.hok.fresh hp
  have J : Inv X pins σ (upd H1 p (.lst (ms.map V.int))) { ({ s1 with heap := h', toks := tk } : Shared) with heap := s'.heap, gens := s'.gens, drawn := s'.drawn, toks := s'.toks } :=
    I2.call (ch := []) (Un.laid k2 hp hn) (I2.hok.laid k2 hp ⟨hlen, out.toList, _, vals_of_ints hi, hgt⟩) (by rw [g]; exact I2.bare) (fun _ z => nomatch z)
  have e : s' = { ({ s1 with heap := h', toks := tk } : Shared) with heap := s'.heap, gens := s'.gens, drawn := s'.drawn, toks := s'.toks } := by
    cases s'
    cases s1
    cases o
    rfl
  rw [e]
  subst em
  exact ⟨.ref p, _, J, rfl, q1 p hn⟩
section
variable {X : Cx} {Z : Fx} {m k : Nat}
theorem e_sortSet {a : Expr} {da : Dn Rv} {p p2 q pos : Pos} (c : Cok Z X m k) (ha : PE X a (tD Z da)) (hm : X.mg "sorted" = none) (hm2 : X.mg "set" = none) (hb : bootBuiltins "sorted" = some (.builtin "sorted")) (hg : Gl X "sorted" := by rfl) (hg2 : Gl X "set" := by rfl)
    (na : starEach [a] X.env = (false, eval a X.env) :: starEach [] X.env := by rfl) : PE X (.Call (.Name "sorted" p) [.Call (.Name "set" p2) [a] [] q] [] pos) (tD Z (dB gSortSet [da])) := by
  refine PE_imp (pe_sortSet hg hm hb hg2 hm2 ha c.calm na) fun σ H Q h => ?_
  obtain ⟨B, env, R, h⟩ := tD1_rD h
  refine ⟨B, env, R, post.imp h fun x H1 h => ?_⟩
  obtain ⟨B1, d, out, sB, a1, hg, q⟩ := rD1_of rfl h
  unfold gSortSet at hg
  split at hg
  · next xs e1 =>
    cases e1
    split at hg
    · next ns hn =>
      split at hg
      · next hz =>
        cases hg
        rw [intsOf_eq hn] at a1
        obtain ⟨p1, ws, rfl, s1, d1⟩ := a1.tup
        rw [DaAll.ints d1] at s1
        exact ⟨p1, ns, rfl, c.hK ▸ SqN.up sB s1, hz, fun p hp => q p _ hp (DaAll.of_ints _)⟩
      · cases hg
    · cases hg
  · cases hg
end
end DL

/-! D15: max of a tuple of ints. -/
namespace DL
open PySem PySem.Spec PyProof.Rows L2
theorem max_rawT {prog : Program} {w : World} {A : Around} {E : Value → Shared → Prop} {s : Shared} {l : Addr} {its : List Value} {ns : List Int} {Q : Value → Shared → Prop} (hh : A.handled = none) (hl : s.heap.IsTuple l its.toArray) (hi : IntsAre its ns) (hne : 0 < ns.length)
    (h : ∀ h' tk M t', (∀ b o, s.heap.get? b = some o → h'.get? b = some o) → M ∈ ns → (∀ a, a ∈ ns → a ≤ M) → Q (.int M t') { s with heap := h', toks := tk }) : wpAny (model prog w) A (call (.builtin "max") [.ref l]) Q E s := by
  obtain ⟨xs, e⟩ := hi.allInts.items
  have hn : numsOf (intItems xs).toList = ns := by rw [← e]; exact hi.numsOf
  rw [nums_intItems] at hn
  subst hn
  rw [e] at hl
  have hsz : 0 < xs.size := by simpa using hne
  have hlt : l < s.heap.objs.size := by obtain ⟨_, e, _⟩ := hl; exact Heap.lt_size e
  refine call_max_walk (iter_tup hl fun s₂ e2 st hnl => ?_)
  subst e2
  refine ⟨_, _, _, _, _, _, _, rfl, Walks.tuple (A := A.in1) hh _ l hnl (intItems xs), st, fun b hb => ?_, by simpa [intItems] using hsz, CmpOf.ints_gt (numAt xs) (fun _ _ => intItems_at), fun v h' tk hP hk => ?_⟩
  · have e' : b = s.heap.objs.size ∨ b = l := by simpa using hb
    show b < (s.heap.push _).objs.size
    rw [Heap.size_push]
    rcases e' with z | z
    · rw [z]; exact Nat.lt_succ_self _
    · rw [z]; exact Nat.lt_succ_of_lt hlt
  · have hv : (intItems xs)[argBest (fun i j => decide (numAt xs i > numAt xs j)) (xs.size - 1)]? = some v := by simpa [intItems] using hP
    obtain ⟨t, rfl⟩ := intItems_at hv
    obtain ⟨h1, h2⟩ := argBest_gt (numAt xs) (xs.size - 1)
    refine h h' tk _ t (fun b o eo => hk b o (fun hmem => by
      have e1 : b = s.heap.objs.size := by simpa using hmem
      exact absurd (e1 ▸ Heap.lt_size eo) (Nat.lt_irrefl _)) (Heap.get?_push_of_some _ eo)) ?_ fun a ha => ?_
    · rw [numAt_eq]; exact PySem.getD_mem (by rw [List.length_map, Array.length_toList]; omega)
    · obtain ⟨j, hj, rfl⟩ := mem_getD ha
      rw [List.length_map, Array.length_toList] at hj
      rw [← numAt_eq]; exact h2 j (by omega)
def gMaxT : List PyData → Option Out
  | [.tuple xs] => match intsOf xs with
    | some (n :: ns) => some (.fz (.int (maxL (n :: ns))))
    | _ => none
  | _ => none
section
variable {X : Cx}
theorem c_maxT (hc : X.calm = true) : CallR X (.builtin "max") (rD X.K gMaxT) := by
  intro pins s σ H vs us Q I rv h
  obtain ⟨x, rfl, B, d, out, sB, a1, hg, q⟩ := one_arg (fun ds out hg => by unfold gMaxT at hg; split at hg <;> first | exact ⟨_, rfl⟩ | cases hg) h
  unfold gMaxT at hg
  split at hg
  · next xs e1 =>
    cases e1
    split at hg
    · next n ns hn =>
      cases hg
      rw [intsOf_eq hn] at a1
      obtain ⟨p1, ws, rfl, s1, d1⟩ := a1.tup
      rw [DaAll.ints d1] at s1
      obtain ⟨its, rvv, p, hz⟩ := I.tuple (SqN.up sB s1)
      rw [Vals.ref1 rv]
      refine max_rawT (I.ok.hd hc) p rvv.ints (by simp) fun h' tk M t' hk hm hle => ?_
      obtain ⟨m1, m2⟩ := maxL_mem (ns := n :: ns) (by simp)
      have : M = maxL (n :: ns) := Int.le_antisymm (m2 M hm) (hle _ m1)
      subst this
      exact ⟨.int _, H, I.kept hk, ⟨_, rfl⟩, q.imm sB fun _ => .int _⟩
    · cases hg
  · cases hg
end
end DL

/-! D16: try .. except BidError as e: return _law_which(e). -/
namespace DL
open PySem PySem.Spec PyProof.Rows L2

/-! ### the classes, and what must be known of them -/
def excL : List Str := ["InvalidBid", "InvalidRoom", "InvalidNumber", "InvalidBidder", "InvalidGroup", "InvalidPrices", "NoPrices", "TooMany", "NothingToUndo", "ParseError"]
/-- one class's facts, as a check -/
def chkC (K : PySem.W.Frag) (bid : Addr) (Cs : List Addr) (j : Nat) (C : Addr) : Bool :=
  (PySem.W.findIn K (.ref C) "__getattribute__" == some (some (.builtin "BaseException.__getattribute__"))) &&
  ((PySem.W.findIn K (.ref C) "__getattr__" == some none) &&
  ((PySem.W.subIn K (.ref C) (.type "BaseException") == some true) &&
  (PySem.W.hasDictIn K C &&
  ((PySem.W.findIn K (.ref C) "__class__" == some (some (.builtin "object.__class__"))) &&
  ((PySem.W.mroIn K C (.type "object") == some true) &&
  ((PySem.W.exmOne K (.ref C) (.ref bid) == some true) &&
  ((PySem.W.kitOne K (.ref C) (.type "ValueError") == some true) &&
  Cs.zipIdx.all fun q => PySem.W.kitOne K (.ref C) (.ref q.1) == some (q.2 == j))))))))
def chkG (K : PySem.W.Frag) (bid : Addr) (Cs : List Addr) : Bool :=
  (PySem.W.specialIn K (.builtin "object.__class__") "__get__" == some (some (.builtin "getset_descriptor.__get__"))) &&
  ((PySem.W.takesIn K (.builtin "object.__class__") == some true) && Cs.zipIdx.all fun q => chkC K bid Cs q.2 q.1)
structure WhG (K : PySem.W.Frag) (mg : Str → Option Value) : Prop where
  ex : ∃ (bid : Addr) (Cs : List Addr), mg "BidError" = some (.ref bid) ∧ Paired (fun x C => mg x = some (.ref C)) excL Cs ∧ chkG K bid Cs = true ∧ mg "isinstance" = none ∧ mg "ValueError" = none
/-- an instance's class: C, the j-th -/
structure WhC (K : PySem.W.Frag) (bid : Addr) (Cs : List Addr) (C : Addr) (j : Nat) : Prop where
  ec : ExcC K C
  em : PySem.W.exmOne K (.ref C) (.ref bid) = some true
  kv : PySem.W.kitOne K (.ref C) (.type "ValueError") = some true
  ko : ∀ (i : Nat) (D : Addr), Cs[i]? = some D → PySem.W.kitOne K (.ref C) (.ref D) = some (i == j)
theorem all_zipIdx {α : Type} {p : α × Nat → Bool} {xs : List α} (h : xs.zipIdx.all p = true) {i : Nat} {x : α} (e : xs[i]? = some x) : p (x, i) = true := by
  refine List.all_eq_true.mp h (x, i) ?_
  rw [List.mem_iff_getElem?]
  exact ⟨i, by rw [List.getElem?_zipIdx, e]; simp⟩
theorem WhC.of {K : PySem.W.Frag} {bid : Addr} {Cs : List Addr} (h : chkG K bid Cs = true) {j : Nat} {C : Addr} (e : Cs[j]? = some C) : WhC K bid Cs C j := by
  unfold chkG at h
  simp only [Bool.and_eq_true, beq_iff_eq] at h
  obtain ⟨h1, h2, h3⟩ := h
  have h4 := all_zipIdx h3 e
  unfold chkC at h4
  simp only [Bool.and_eq_true, beq_iff_eq] at h4
  obtain ⟨a1, a2, a3, a4, a5, a6, a7, a8, a9⟩ := h4
  refine ⟨⟨a1, a2, a3, a4, a5, h1, h2, a6⟩, a7, a8, fun i D e2 => ?_⟩
  have := all_zipIdx a9 e2
  simpa using this

/-! ### list.count of flat values -/
theorem count_vals {y : V} : ∀ {ys : List V} {us : List Value}, Vals ys us → ys.all flatV = true → us.countP (eqU y) = ys.countP fun z => eqV z y
  | _, _, .nil, _ => rfl
  | z :: ys, u :: us, .cons r t, f => by
    rw [List.all_cons, Bool.and_eq_true] at f
    rw [List.countP_cons, List.countP_cons, count_vals t f.2, eqU_of r f.1]
theorem m_countF {X : Cx} : MtR X "list.count" (fun x xs H Q => ∃ (p : Addr) (ys : List V) (y : V), x = .ref p ∧ xs = [y] ∧ SqL X.K H p ys ∧ flatV y = true ∧ ys.all flatV = true ∧ Q (.int ((ys.countP fun z => eqV z y : Nat))) H) := by
  intro pins s σ H x xs v us Q I rx rxs h
  obtain ⟨p, ys, y, rfl, rfl, hs, fy, fys, q⟩ := h
  cases rx
  obtain ⟨u, rfl, ru⟩ := rxs.one
  obtain ⟨its, rv, ⟨⟨cls, dd, data, sl⟩, n, ho, hc, hdn, hd⟩, hlen⟩ := I.list hs
  simp only at hc hd
  subst hc hd
  refine call_meets PySem.F.slot_list_count ⟨_, ho, rfl⟩ PySem.F.entry_list_count (PySem.F.args_list_count_2 _ _)
    (SeqAt.list_countAt p its.toArray n dd sl u (eqU y)) ⟨ho, fun u' hu' => mem_eqAt ru fy rv fys u' (by simpa using hu'), ?_⟩
  have ec : its.toArray.toList.countP (eqU y) = ys.countP fun z => eqV z y := by simpa using count_vals (y := y) rv fys
  refine ⟨.int ((ys.countP fun z => eqV z y : Nat)), H, I.tok _, ⟨s.toks, ?_⟩, q⟩
  show Value.int ((its.toArray.toList.countP (eqU y) : Nat) : Int) s.toks = _
  rw [ec]

/-! ### isinstance(e, c), e the pinned exception -/
theorem call_isP {X : Cx} {D : Addr} {p : Addr × Obj} (hp : p ∈ X.pn) (C : ExcC X.K D) (hz : Zc (.ref D) none p.2) (hf : ∃ vs, p.2.data = .fields vs) : CallR X (.builtin "isinstance") (rIsE X.K D p.1) := by
  intro pins s σ H xs us Q I r h
  obtain ⟨c, cv, b, rfl, hcv, e, q⟩ := h
  obtain ⟨u1, u2, rfl, rx, rt⟩ := r.two
  cases rx
  have ec := hcv _ rt
  subst ec
  have hget := (I.pin p (List.mem_append_left _ hp)).1
  have J : PySem.W.InstAt s.heap p.1 p.2 D none := by
    obtain ⟨a, oc, od, oda, osl⟩ := p
    obtain ⟨vs, hv⟩ := hf
    obtain ⟨h1, h2⟩ := hz
    dsimp only at h1 h2 hv
    subst h1 h2 hv
    exact ⟨hget, rfl, rfl, trivial⟩
  exact PySem.W.kia_one (PySem.W.handS_kitx_exc C.hg C.hk C.hs C.hd C.ha C.hn C.ht C.hm) I.kIn J e (fun z => nomatch z) fun tk => ⟨.bl b, H, I.kept (t' := tk) fun _ _ z => z, rfl, q⟩
end DL

/-! D17: the def _law_which, called within an except suite. -/
namespace DL
open PySem PySem.Spec PyProof.Rows L2
/-- what it gives: a new tuple -/
def Made (H H2 : Hp) (v : V) (j : Nat) : Prop := Same H H2 ∧ ∃ t, v = .ref t ∧ H t = none ∧ H2 t = some (.tup [.str "raised", .int (j : Nat)])
def tIs (a : Addr) (b : Bool) : TE := fun σ H Q => σ[0]? = some (some (.ref a)) ∧ Q (.bl b) H
def tL (a : Addr) (bs : List Bool) : TE := fun σ H Q => σ[0]? = some (some (.ref a)) ∧ ∀ l, H l = none → Q (.ref l) (upd H l (.lst (bs.map V.bl)))
section
variable {X : Cx} {p : Addr × Obj} {C bid : Addr} {Cs : List Addr} {j : Nat}
/-- all that the walk needs of the exception -/
structure WhX (X : Cx) (p : Addr × Obj) (bid : Addr) (Cs : List Addr) (C : Addr) (j : Nat) : Prop where
  hp : p ∈ X.pn
  w : WhC X.K bid Cs C j
  hz : Zc (.ref C) none p.2
  hf : ∃ vs, p.2.data = .fields vs
  gm : Paired (fun x C => X.mg x = some (.ref C)) excL Cs
  mi : X.mg "isinstance" = none
  mv : X.mg "ValueError" = none
  hj : j < 10
theorem paired_get {α β : Type} {F : α → β → Prop} : ∀ {xs : List α} {ys : List β} {i : Nat} {x : α}, Paired F xs ys → xs[i]? = some x → ∃ y, ys[i]? = some y ∧ F x y
  | _, _, _, _, .nil, h => by simp at h
  | _, _, 0, _, .cons r _, h => by cases Option.some.inj h; exact ⟨_, rfl, r⟩
  | _, _, i + 1, _, .cons _ t, h => by
    rw [List.getElem?_cons_succ] at h
    obtain ⟨y, h1, h2⟩ := paired_get t h
    exact ⟨y, by rw [List.getElem?_cons_succ]; exact h1, h2⟩
theorem w_is {x : Str} {q1 q2 q3 pos : Pos} (i : Nat) (W : WhX X p bid Cs C j) (hi : excL[i]? = some x := by rfl) (hN : X.N[0]? = some ("e" : Str) := by rfl) (hv : Vis X.env.scope "e" := by first | exact Or.inl rfl | exact Or.inr (Or.inl rfl) | exact Or.inr (Or.inr rfl))
    (hg : Gl X "isinstance" := by rfl) (hgx : Gl X x := by rfl) (hdx : (x == ("__debug__" : Str)) = false := by decide) : PE X (.Call (.Name "isinstance" q1) [.Name "e" q2, .Name x q3] [] pos) (tIs p.1 (i == j)) := by
  obtain ⟨D, h1, h2⟩ := paired_get W.gm hi
  refine PE_imp (pe_callB (call_isP W.hp W.w.ec W.hz W.hf) hg W.mi bt_isinstance (pa_cons (pe_var hN hv) (pa_cons (pe_glob (v := .ref D) hgx h2 rfl hdx) pa_nil))) fun σ H Q ⟨h3, h4⟩ => ?_
  exact ⟨_, h3, .ref D, .ref D, _, rfl, fun u r => r, W.w.ko i D h1, h4⟩
theorem w_isV {q1 q2 q3 pos : Pos} (W : WhX X p bid Cs C j) (hN : X.N[0]? = some ("e" : Str) := by rfl) (hv : Vis X.env.scope "e" := by first | exact Or.inl rfl | exact Or.inr (Or.inl rfl) | exact Or.inr (Or.inr rfl))
    (hg : Gl X "isinstance" := by rfl) (hgx : Gl X "ValueError" := by rfl) : PE X (.Call (.Name "isinstance" q1) [.Name "e" q2, .Name "ValueError" q3] [] pos) (tIs p.1 true) := by
  refine PE_imp (pe_callB (call_isP W.hp W.w.ec W.hz W.hf) hg W.mi bt_isinstance (pa_cons (pe_var hN hv) (pa_cons (pe_bltn (v := .ty "ValueError") hgx W.mv (by decide +kernel) rfl) pa_nil))) fun σ H Q ⟨h3, h4⟩ => ?_
  exact ⟨_, h3, .ty "ValueError", .type "ValueError", _, rfl, fun u r => r, W.w.kv, h4⟩
theorem w_l3 {a : Addr} {b1 b2 b3 : Bool} {e1 e2 e3 : Expr} {pos : Pos} (h1 : PE X e1 (tIs a b1)) (h2 : PE X e2 (tIs a b2)) (h3 : PE X e3 (tIs a b3)) (s1 : starEach [e1, e2, e3] X.env = (false, eval e1 X.env) :: starEach [e2, e3] X.env := by rfl)
    (s2 : starEach [e2, e3] X.env = (false, eval e2 X.env) :: starEach [e3] X.env := by rfl) (s3 : starEach [e3] X.env = [(false, eval e3 X.env)] := by rfl) : PE X (.List [e1, e2, e3] pos) (tL a [b1, b2, b3]) :=
  PE_imp (pe_lst (pa_cons h1 (pa_cons h2 (pa_cons h3 pa_nil s3) s2) s1)) fun σ H Q ⟨g1, g2⟩ => ⟨g1, g1, g1, by show 3 ≤ sizeLine; decide, fun l hl => g2 l hl⟩
def tF : TS := fun _ _ _ => False
theorem pss_F {b : List Stmt} : PSs X b tF := ⟨fun _ _ _ _ _ _ h => h.elim⟩
def rCF (K : PySem.W.Frag) : V → List V → Hp → VK → Prop := fun x xs H Q => ∃ (p : Addr) (ys : List V) (y : V), x = .ref p ∧ xs = [y] ∧ SqL K H p ys ∧ flatV y = true ∧ ys.all flatV = true ∧ Q (.int ((ys.countP fun z => eqV z y : Nat))) H
theorem m_countX : MtR X "list.count" (rCF X.K) := m_countF
/-- the whole body's reading -/
def tWh (a : Addr) (j : Nat) : TS := fun D σ H => σ.length = 2 ∧ σ[0]? = some (some (.ref a)) ∧ ∀ v H2, Made H H2 v j → D.rt v H2
theorem all_flat (bs : List Bool) : (bs.map V.bl).all flatV = true := by
  rw [List.all_eq_true]
  intro v hv
  obtain ⟨b, _, rfl⟩ := List.mem_map.mp hv
  rfl
theorem wh_cnt : ∀ j, j < 10 → (((List.range 10).map (fun i => V.bl (i == j))).countP fun z => eqV z (.bl true)) = 1 := by decide +kernel
theorem wh_ix : ∀ j, j < 10 → ((List.range 10).map (fun i => V.bl (i == j)))[j]? = some (V.bl true) ∧ ∀ m, m < j → ((List.range 10).map (fun i => V.bl (i == j)))[m]? = some (V.bl false) := by decide +kernel
theorem wh_seq {a : Addr} {B1 B2 B3 : List Bool} {b4 : Bool} {s1 s2 s3 s4 s5 s6 : Stmt} {te5 : TS} (hj : j < 10) (hB : B1 ++ B2 ++ B3 ++ [b4] = (List.range 10).map fun i => i == j) (h1 : PS X s1 (tAsg (tL a B1) (gName 1)))
    (h2 : PS X s2 (tDrop (tBM X.K "list" rExtend (tVar 1) (tCons (tL a B2) tNil)))) (h3 : PS X s3 (tDrop (tBM X.K "list" rExtend (tVar 1) (tCons (tL a B3) tNil)))) (h4 : PS X s4 (tDrop (tBM X.K "list" rAppend (tVar 1) (tCons (tIs a b4) tNil))))
    (h5 : PS X s5 (tIfS (tOr (tTest (tOp rNe (tBM X.K "list" (rCF X.K) (tVar 1) (tCons (tC (.bl true)) tNil)) (tC (.int 1)))) (tNot (tB (tIs a true)))) tF te5)) (h5e : ∀ D σ H, D.nx σ H → te5 D σ H)
    (h6 : PS X s6 (tRet (tTup (tCons (tC (.str "raised")) (tCons (tBM X.K "list" (rIndex X.K) (tVar 1) (tCons (tC (.bl true)) tNil)) tNil))))) : PSs X [s1, s2, s3, s4, s5, s6] (tWh a j) := by
  refine PSs_imp (pss_cons h1 (pss_cons h2 (pss_cons h3 (pss_cons h4 (pss_cons h5 (pss_one h6)))))) fun D σ H ⟨hl, h0, q⟩ => ?_
  refine ⟨h0, fun l nl => ?_⟩
  have g0 : (σ.set 1 (some (V.ref l)))[0]? = some (some (.ref a)) := by rw [List.getElem?_set_ne (by decide)]; exact h0
  have g1 : (σ.set 1 (some (V.ref l)))[1]? = some (some (.ref l)) := List.getElem?_set_self (by omega)
  have len : ∀ bs : List Bool, bs.length ≤ 10 → (bs.map V.bl).length < sizeLine := fun bs h => by rw [List.length_map]; exact Nat.lt_of_le_of_lt h (by decide)
  have hlB := congrArg List.length hB
  simp only [List.length_append, List.length_map, List.length_range, List.length_singleton] at hlB
  have lst : ∀ (H : Hp) (xs : List V), SqL X.K (upd H l (.lst xs)) l xs := fun H xs => .inl (.inl upd_same)
  -- extend, extend, append
  refine ⟨_, g1, .inl ⟨rfl, _, lst _ _⟩, g0, fun l2 n2 => ?_⟩
  have ne2 : l2 ≠ l := fun e => by rw [e, upd_same] at n2; cases n2
  refine ⟨l, l2, B1.map V.bl, B2.map V.bl, rfl, rfl, by rw [upd_ne ne2.symm, upd_same], upd_same, Nat.le_of_lt (by rw [← List.length_append, ← List.map_append]; exact len _ (by rw [List.length_append]; omega)), ?_⟩
  refine ⟨_, g1, .inl ⟨rfl, _, lst _ _⟩, g0, fun l3 n3 => ?_⟩
  have ne3 : l3 ≠ l := fun e => by rw [e, upd_same] at n3; cases n3
  refine ⟨l, l3, B1.map V.bl ++ B2.map V.bl, B3.map V.bl, rfl, rfl, by rw [upd_ne ne3.symm, upd_same], upd_same, Nat.le_of_lt (by rw [← List.length_append, ← List.map_append, ← List.map_append]; exact len _ (by rw [List.length_append, List.length_append]; omega)), ?_⟩
  refine ⟨_, g1, .inl ⟨rfl, _, lst _ _⟩, g0, ?_⟩
  refine ⟨l, B1.map V.bl ++ B2.map V.bl ++ B3.map V.bl, .bl b4, rfl, rfl, upd_same, by rw [← List.map_append, ← List.map_append]; exact len _ (by rw [List.length_append, List.length_append]; omega), ?_⟩
  have eB : B1.map V.bl ++ B2.map V.bl ++ B3.map V.bl ++ [V.bl b4] = (List.range 10).map fun i => V.bl (i == j) := by
    rw [← List.map_append, ← List.map_append, ← List.map_singleton, ← List.map_append, hB, List.map_map]
    rfl
  rw [eB]
  have fl : ((List.range 10).map fun i => V.bl (i == j)).all flatV = true := by
    have := all_flat ((List.range 10).map fun i => i == j)
    rwa [List.map_map] at this
  have hc := wh_cnt j hj
  obtain ⟨x1, x2⟩ := wh_ix j hj
  -- the test
  refine ⟨_, g1, .inl ⟨rfl, _, lst _ _⟩, l, _, .bl true, rfl, rfl, lst _ _, rfl, fl, ?_⟩
  rw [hc]
  refine ⟨rfl, _, rfl, ?_⟩
  rw [show (!decide (V.int ((1 : Nat) : Int) = V.int 1)) = false by simp]
  refine ⟨g0, true, rfl, ?_⟩
  refine h5e _ _ _ ?_
  -- the answer
  refine ⟨_, g1, .inl ⟨rfl, _, lst _ _⟩, l, _, .bl true, j, .bl true, rfl, rfl, lst _ _, rfl, fl, x1, rfl, fun m z hm hz => ?_, by show 2 ≤ sizeLine; decide, fun t nt => q _ _ ?_⟩
  · rw [x2 m hm] at hz
    cases hz
    rfl
  · have s0 : Same H (upd H l (.lst (B1.map V.bl))) := same_upd nl
    have sw : ∀ (H1 : Hp) (xs : List V), Same H H1 → Same H (upd H1 l (.lst xs)) := fun H1 xs s b o e => by
      by_cases hb : b = l
      · subst hb; rw [nl] at e; cases e
      · rw [upd_ne hb]; exact s _ _ e
    have sT := (sw _ ((List.range 10).map fun i => V.bl (i == j)) (sw _ (B1.map V.bl ++ B2.map V.bl ++ B3.map V.bl) ((sw _ (B1.map V.bl ++ B2.map V.bl) (s0.trans (same_upd (o := .lst (B2.map V.bl)) n2))).trans (same_upd (o := .lst (B3.map V.bl)) n3))))
    exact ⟨sT.trans (same_upd nt), t, rfl, sT.free nt, upd_same⟩
end
end DL

/-! D18: try .. except BidError as e: return _law_which(e). -/
namespace DL
open PySem PySem.Spec PyProof.Rows L2
/-- all that is known of the exception at p -/
structure WhP (K : PySem.W.Frag) (mg : Str → Option Value) (bid : Addr) (Cs : List Addr) (p : Addr × Obj) (C : Addr) (j : Nat) : Prop where
  w : WhC K bid Cs C j
  hz : Zc (.ref C) none p.2
  hf : ∃ vs, p.2.data = .fields vs
  gm : Paired (fun x C => mg x = some (.ref C)) excL Cs
  mi : mg "isinstance" = none
  mv : mg "ValueError" = none
  hj : j < 10
structure WhOk (P : Program) (w : World) (K : PySem.W.Frag) (mg : Str → Option Value) (base : Heap) (lev : Nat) : Prop where
  ex : ∃ (f : Addr) (fd : FuncData), mg "_law_which" = some (.ref f) ∧ PySem.W.keepIn K (.ref f) = true ∧ Binds K fd ["e"] [] ∧
    ∀ (bid : Addr) (Cs : List Addr) (A : Around) (outer : List Env) (s : Shared) (H : Hp) (args : Args) (Q : VK) (E : XK) (p : Addr × Obj) (C : Addr) (j : Nat), L2H.RoomH lev A → L2H.PinOk outer H s p → WhP K mg bid Cs p C j → Env0 P w K mg base A outer s H →
      BindsTo s fd args ((["e"] : List Str).zip [Value.ref p.1]) → (∀ v H2, Made H H2 v j → Q v H2) → codeAny (model P w) A (.call (.ref f) args) (CR (L2.CX P w) outer P w H s Q E) s
section
variable {P : Program} {w : World} {K : PySem.W.Frag} {mg : Str → Option Value} {base : Heap}
theorem wh_ok {st : Stmt} (D : DefAt K mg "_law_which" st) (S : FnScope ["e", "own"] ["e"] (defScope st))
    (hb : ∀ (kV doc pm : Value) (an : Option Addr) (cdv ct : Value) (us : List Value), us.length = (["e"] : List Str).length → bindArgs (PySem.W.fnOf "_law_which" "_law_which" (defArgs st) (defBody st) (defScope st) .none kV doc pm an cdv ct) ⟨us, []⟩ = pure ((["e"] : List Str).zip us))
    (body : ∀ (bid : Addr) (Cs : List Addr) (f : Addr) (cdv : Value) (A : Around) (outer : List Env) (s : Shared) (H : Hp) (E : XK) (p : Addr × Obj) (C : Addr) (j : Nat), WhX (L2H.cxH (L2.CX P w) P w K mg base ["e", "own"] "_law_which" (defScope st) f cdv A outer s H E p) p bid Cs C j →
      PSs (L2H.cxH (L2.CX P w) P w K mg base ["e", "own"] "_law_which" (defScope st) f cdv A outer s H E p) (defBody st) (tWh p.1 j)) : WhOk P w K mg base 1 := by
  obtain ⟨f, fd, F, gm⟩ := D.ex
  have bi := F.binds hb
  have kp := F.kp
  obtain ⟨oc, od, kV, doc, pm, an, cdv, ct, osl, rfl, lk, hcd⟩ := F.ex
  refine ⟨f, _, gm, kp, bi, fun bid Cs A outer s H args Q E p C j room pin wp env binds q => ?_⟩
  have inK : K.In s.heap := env.mod.kin.keeps fun b o e => (env.bs b o e).1
  have noLim : s.heap.NoLimit := env.mod.nolimit.keeps fun b o e => (env.bs b o e).1
  refine codeAny_call_function room.depth (inK _ _ lk) rfl S.co S.gen rfl (PySem.W.codeRec_of inK hcd) (binds _ _ _ _ ?_)
  refine wpAny_newFunctionEnv_cells S.kind (fun ⟨n, u⟩ hy => ?_) fun env1 he s1 inC => ?_
  · have hn := (List.of_mem_zip hy).1
    rcases S.par n hn with z | z
    · exact Or.inl z
    · exact Or.inr ⟨z, PySem.W.cellsFrom_some _ _ _ (Or.inl z)⟩
  · subst he
    refine ⟨noLim.keeps inC.toInCall.keep, codeAny_func ?_⟩
    have I := L2H.inv_startH (CX := L2.CX P w) (E := E) S pin env (vs := [V.ref p.1]) rfl (.cons rfl .nil) inC
    have B := body bid Cs f cdv A outer s H E p C j ⟨List.mem_singleton.mpr rfl, wp.w, wp.hz, wp.hf, wp.gm, wp.mi, wp.mv, wp.hj⟩
    refine wpAny_mono (B.run [] s1 (L2.start ["e", "own"] [V.ref p.1]) H { nx := fun _ _ => False, rt := Q } I ⟨rfl, rfl, q⟩) (fun fl s2 z => ?_) fun _ _ z => z
    cases fl with
    | ret u =>
      obtain ⟨v, σ2, H2, J, rv, z⟩ := z
      exact ⟨v, H2, J.os, J.bare, J.base, J.hok, rv, z⟩
    | next => obtain ⟨_, _, _, z⟩ := z; exact z.elim
    | brk => obtain ⟨_, _, _, z⟩ := z; exact z.elim
    | cont => obtain ⟨_, _, _, z⟩ := z; exact z.elim
end
section
variable {X : Cx} {Z : Fx} {m k : Nat}
/-- the call, in the suite -/
theorem pe_wh {a C bid : Addr} {oe : Obj} {pn : List (Addr × Obj)} {Cs : List Addr} {i j lev : Nat} {q1 q2 pos : Pos} (F : WhOk X.prog X.w X.K X.mg X.base lev) (hr : L2H.RoomH lev X.A) (W : WhP X.K X.mg bid Cs (a, oe) C j) (hg : Gl X "_law_which") (hi : X.N[i]? = some ("e" : Str)) (hv : Vis X.env.scope "e") :
    PE (X.suite a ((a, oe) :: pn)) (.Call (.Name "_law_which" q1) [.Name "e" q2] [] pos) (fun σ H Q => σ[i]? = some (some (.ref a)) ∧ ∀ v H2, Made H H2 v j → Q v H2) := by
  obtain ⟨f, fd, gm, kp, bi, run⟩ := F.ex
  refine ⟨fun pins s σ H Q I ⟨h1, h2⟩ => ?_⟩
  refine wpAny_Call_Name_kw (ld_glob I hg gm ?_ (by decide))
  have hA := (pa_cons (X := X.suite a ((a, oe) :: pn)) (pe_var (pos := q2) hi hv) pa_nil).run pos pins s σ H (fun vs H1 => vs = [V.ref a] ∧ H1 = H) I ⟨_, h1, rfl, rfl⟩
  refine PySem.W.callWith_K (h₀ := X.base) I.ok.mod.kin kp (thn hA fun us s1 ⟨vs, H1, I1, r, e1, e2⟩ => ⟨I1.kIn, ?_⟩) rfl rfl
  subst e1 e2
  obtain ⟨u, rfl, ru⟩ := r.one
  cases ru
  have b := bi s1 [Value.ref a] I1.kIn rfl
  have P1 := I1.pin (a, oe) (List.mem_append_left _ List.mem_cons_self)
  refine wpAny_call (codeAny_mono (run bid Cs _ _ s1 H1 _ Q (fun _ _ _ => False) (a, oe) C j ⟨hr.dp, hr.un⟩ ⟨P1.1, P1.2.1, fun z => (List.mem_cons.mp (I1.stkSub a z)).elim P1.2.2.1 P1.2.2.2.1, P1.2.2.2.2⟩ W I1.env0 b h2) fun rs s2 z => ?_)
  cases rs with
  | error e => obtain ⟨_, _, _, _, _, _, _, _, _, _, _, _, z⟩ := z; exact z.elim
  | ok fl =>
    cases fl with
    | ret u => exact I1.after z
    | next => exact z.elim
    | brk => exact z.elim
    | cont => exact z.elim

def ixE (c : Str) : List Str → Nat → Option Nat
  | [], _ => none
  | x :: xs, n => if x = c then some n else ixE c xs (n + 1)
theorem ixE_ok {c : Str} : ∀ {xs : List Str} {n i : Nat}, ixE c xs n = some i → n ≤ i ∧ xs[i - n]? = some c
  | [], _, _, h => by cases h
  | x :: xs, n, i, h => by
    unfold ixE at h
    split at h
    · next e => cases h; subst e; simp
    · next e =>
      obtain ⟨h1, h2⟩ := ixE_ok h
      refine ⟨by omega, ?_⟩
      have : i - n = (i - (n + 1)) + 1 := by omega
      rw [this, List.getElem?_cons_succ]
      exact h2
def whichIx (c : Str) : Option Nat := ixE c excL 0
def raisedD (j : Nat) : PyData := .tuple [.str "raised", .int (j : Nat)]
def dTry (i : Nat) (d : Dn Fl) : Dn Fl := fun e => match d e with
  | .ok f e' => .ok f e'
  | .ex c e' => match whichIx c with
    | some j => if i < e'.length then .ok (.rt (.fz (raisedD j))) e' else .bad
    | none => .bad
  | .bad => .bad
/-- the same part with another wish for exceptions -/
def Fx.wish (Z : Fx) (E : St → Str → Hp → Prop) : Fx := ⟨Z.K, Z.mg, Z.F, Z.B0, Z.vs0, E⟩
theorem Rel.wish {E : St → Str → Hp → Prop} {B H : Hp} {env : List Sl} {σ : St} (R : Rel Z B env σ H) : Rel (Z.wish E) B env σ H := by
  refine ⟨R.bh, R.fh, R.b0, R.new, R.len, R.arg, fun i s h => ?_, R.sep⟩
  have q := R.slot i s h
  cases s with
  | un => trivial
  | fz d => exact q
  | own c => obtain ⟨a, h1, h2, h3, h4⟩ := q; exact ⟨a, h1, h2, h3, h4.of rfl rfl⟩
theorem Rel.unwish {E : St → Str → Hp → Prop} {B H : Hp} {env : List Sl} {σ : St} (R : Rel (Z.wish E) B env σ H) : Rel Z B env σ H := by
  refine ⟨R.bh, R.fh, R.b0, R.new, R.len, R.arg, fun i s h => ?_, R.sep⟩
  have q := R.slot i s h
  cases s with
  | un => trivial
  | fz d => exact q
  | own c => obtain ⟨a, h1, h2, h3, h4⟩ := q; exact ⟨a, h1, h2, h3, h4.of rfl rfl⟩
theorem Val.unwish {E : St → Str → Hp → Prop} {B H : Hp} {env : List Sl} {σ : St} {v : V} {r : Rv} (h : Val (Z.wish E) B env σ H v r) : Val Z B env σ H v r := by
  cases r with
  | fz d => exact h
  | bor i => exact h
  | nw c => obtain ⟨a, h1, h2, h3, h4, h5⟩ := h; exact ⟨a, h1, h2, h3, h4.of rfl rfl, h5⟩
end
/-- what the top has left of the classes -/
theorem wh_mk {K : PySem.W.Frag} {h : Heap} {mg : Str → Option Value} {bid c0 c1 c2 c3 c4 c5 c6 c7 c8 c9 : Addr} (X : K.In h) (G : h.Ns mainGlobals mg) (b : PySem.W.nsIn K mainGlobals "BidError" = some (some (.ref bid))) (h0 : PySem.W.nsIn K mainGlobals "InvalidBid" = some (some (.ref c0)))
    (h1 : PySem.W.nsIn K mainGlobals "InvalidRoom" = some (some (.ref c1))) (h2 : PySem.W.nsIn K mainGlobals "InvalidNumber" = some (some (.ref c2))) (h3 : PySem.W.nsIn K mainGlobals "InvalidBidder" = some (some (.ref c3))) (h4 : PySem.W.nsIn K mainGlobals "InvalidGroup" = some (some (.ref c4)))
    (h5 : PySem.W.nsIn K mainGlobals "InvalidPrices" = some (some (.ref c5))) (h6 : PySem.W.nsIn K mainGlobals "NoPrices" = some (some (.ref c6))) (h7 : PySem.W.nsIn K mainGlobals "TooMany" = some (some (.ref c7))) (h8 : PySem.W.nsIn K mainGlobals "NothingToUndo" = some (some (.ref c8)))
    (h9 : PySem.W.nsIn K mainGlobals "ParseError" = some (some (.ref c9))) (i : PySem.W.nsIn K mainGlobals "isinstance" = some none) (v : PySem.W.nsIn K mainGlobals "ValueError" = some none) (chk : chkG K bid [c0, c1, c2, c3, c4, c5, c6, c7, c8, c9] = true) : WhG K mg :=
  ⟨bid, _, PySem.W.mg_of X G b, .cons (PySem.W.mg_of X G h0) (.cons (PySem.W.mg_of X G h1) (.cons (PySem.W.mg_of X G h2) (.cons (PySem.W.mg_of X G h3) (.cons (PySem.W.mg_of X G h4) (.cons (PySem.W.mg_of X G h5) (.cons (PySem.W.mg_of X G h6) (.cons (PySem.W.mg_of X G h7) (.cons (PySem.W.mg_of X G h8) (.cons (PySem.W.mg_of X G h9) .nil))))))))),
    chk, PySem.W.mg_none_of X G i, PySem.W.mg_none_of X G v⟩
/-! ### what is not reached -/
def dBadV : Dn Rv := fun _ => .bad
def dBadB : Dn Bool := fun _ => .bad
def dBadS : Dn Fl := fun _ => .bad
theorem d_bad {X : Cx} {Z : Fx} {e : Expr} : PE X e (tD Z dBadV) := ⟨fun _ _ _ _ _ _ h => by obtain ⟨_, _, _, z⟩ := h; exact z.elim⟩
theorem s_bad {X : Cx} {Z : Fx} {e : Stmt} : PS X e (tDS Z dBadS) := ⟨fun _ _ _ _ _ _ h => by obtain ⟨_, _, _, z⟩ := h; exact z.elim⟩
end DL

namespace DL
open PySem PySem.Spec PyProof.Rows L2
def B_is_integer : Dn Fl := (dRet (dAnd (dB (gIsi "int") [(dVar 0)]) (dAnd (dNot (dB (gIsi "bool") [(dVar 0)])) (dChain gLe gLe (dVar 1) (dVar 0) (dVar 2)))))
def F_is_integer : Dn Rv := fnD 3 0 B_is_integer
def B_things_in : Dn Fl := (dRet (dComp (dIt gRng1 [(dC (.int 3))]) (.nm 1) (dTruth (dB gEq [(dB gMod [(dB gDiv [(dVar 0), (dB gDiv [(dB gIx [(dC (.tuple [(.int 2), (.int 4), (.int 8)])), (dVar 1)]), (dC (.int 2))])]), (dC (.int 2))]), (dC (.int 1))])) (dVar 1) [1]))
def F_things_in : Dn Rv := fnD 1 1 B_things_in
def B_rises : Dn Fl := (dSeq (dFor (dIt gRng1 [(dB gLen [(dVar 0)])]) (.nm 1) (dFor (dIt gRng1 [(dC (.int 3))]) (.nm 2) (dSeq (dSetF 3 (dB gDiv [(dB gIx [(dC (.tuple [(.int 2), (.int 4), (.int 8)])), (dVar 2)]), (dC (.int 2))]))
  (dIfS (dAndT (dTruth (dB gLt [(dVar 3), (dB gLen [(dVar 0)])])) (dAndT (dTruth (dB gNotIn [(dVar 2), (dCall F_things_in [(dVar 1)])])) (dTruth (dB gGt [(dB gIx [(dVar 0), (dVar 1)]), (dB gIx [(dVar 0), (dB gAdd [(dVar 1), (dVar 3)])])])))) (dRet (dC (.bool false))) dNext))))
  (dRet (dC (.bool true))))
def F_rises : Dn Rv := fnD 1 3 B_rises
def B_bids_for : Dn Fl := (dSeq (dIfS (dOrT (dNotT (dTruth (dB (gIsi "tuple") [(dVar 0)]))) (dOrT (dTruth (dB gNe [(dB gLen [(dVar 0)]), (dVar 1)])) (dNotT (dTruth (dB gAll [(dComp (dIt gSeq [(dVar 0)]) (.nm 2) dYes (dCall F_is_integer [(dVar 2), (dC (.int 0)), (dC (.int 9))]) [2])]))))) (dRet (dC (.bool false))) dNext)
  (dRet (dAnd (dB gEq [(dB gIx [(dVar 0), (dC (.int 0))]), (dC (.int 0))]) (dCall F_rises [(dVar 0)]))))
def F_bids_for : Dn Rv := fnD 2 1 B_bids_for
def B_check_things : Dn Fl := (dIfS (dNotT (dTruth (dCall F_is_integer [(dVar 0), (dC (.int 1)), (dC (.int 3))]))) (dRaise "InvalidNumber") dNext)
def F_check_things : Dn Rv := fnD 1 0 B_check_things
def B_is_bid : Dn Fl := (dSeq (dExpr (dCall F_check_things [(dVar 0)]))
  (dRet (dCall F_bids_for [(dVar 1), (dB gIx [(dC (.tuple [(.int 2), (.int 4), (.int 8)])), (dB gSub [(dVar 0), (dC (.int 1))])])])))
def F_is_bid : Dn Rv := fnD 2 0 B_is_bid
def B_is_room : Dn Fl := (dSeq (dIfS (dOrT (dNotT (dTruth (dB (gIsi "tuple") [(dVar 0)]))) (dNotT (dTruth (dChain gLe gLe (dC (.int 1)) (dB gLen [(dVar 0)]) (dC (.int 4)))))) (dRet (dC (.bool false))) dNext)
  (dSeq (dFor (dIt gSeq [(dC (.tuple [(.int 2), (.int 4), (.int 8)]))]) (.nm 1) (dIfS (dTruth (dB gAll [(dComp (dIt gSeq [(dVar 0)]) (.nm 2) dYes (dCall F_bids_for [(dVar 2), (dVar 1)]) [2])])) (dRet (dC (.bool true))) dNext))
  (dRet (dC (.bool false)))))
def F_is_room : Dn Rv := fnD 1 2 B_is_room
def B_check_worths : Dn Fl := (dSeq (dIfS (dOrT (dNotT (dTruth (dB (gIsi "tuple") [(dVar 0)]))) (dNotT (dTruth (dChain gLe gLe (dC (.int 1)) (dB gLen [(dVar 0)]) (dC (.int 3)))))) (dRaise "InvalidNumber") dNext)
  (dIfS (dNotT (dTruth (dB gAll [(dComp (dIt gSeq [(dVar 0)]) (.nm 2) dYes (dCall F_is_integer [(dVar 2), (dC (.int 0)), (dVar 1)]) [2])]))) (dRaise "InvalidNumber") dNext))
def F_check_worths : Dn Rv := fnD 2 1 B_check_worths
def B_sum_bid : Dn Fl := (dSeq (dExpr (dCall F_check_worths [(dVar 0), (dC (.int 3))]))
  (dSeq (dSetF 1 (dB gIx [(dC (.tuple [(.int 2), (.int 4), (.int 8)])), (dB gSub [(dB gLen [(dVar 0)]), (dC (.int 1))])]))
  (dRet (dB gTuple [(dComp (dIt gRng1 [(dVar 1)]) (.nm 2) dYes (dB gSum [(dComp (dIt gSeq [(dCall F_things_in [(dVar 2)])]) (.nm 3) dYes (dB gIx [(dVar 0), (dVar 3)]) [3])]) [2])]))))
def F_sum_bid : Dn Rv := fnD 1 3 B_sum_bid
def B_single_bid : Dn Fl := (dSeq (dExpr (dCall F_check_worths [(dVar 0), (dC (.int 9))]))
  (dSeq (dSetF 1 (dB gIx [(dC (.tuple [(.int 2), (.int 4), (.int 8)])), (dB gSub [(dB gLen [(dVar 0)]), (dC (.int 1))])]))
  (dRet (dB gTuple [(dComp (dIt gRng1 [(dVar 1)]) (.nm 2) dYes (dB gMax [(dB gAdd [(dComp (dIt gSeq [(dCall F_things_in [(dVar 2)])]) (.nm 3) dYes (dB gIx [(dVar 0), (dVar 3)]) [3]), (dLst [(dC (.int 0))])])]) [2])]))))
def F_single_bid : Dn Rv := fnD 1 3 B_single_bid
def B_holds : Dn Fl := (dRet (dB gAll [(dComp (dIt gSeq [(dCall F_things_in [(dVar 1)])]) (.nm 2) dYes (dB gIn [(dVar 2), (dCall F_things_in [(dVar 0)])]) [2])]))
def F_holds : Dn Rv := fnD 2 1 B_holds
def B_package_bid : Dn Fl := (dSeq (dExpr (dCall F_check_things [(dVar 0)]))
  (dSeq (dIfS (dOrT (dNotT (dTruth (dCall F_is_integer [(dVar 1), (dC (.int 1)), (dB gSub [(dB gIx [(dC (.tuple [(.int 2), (.int 4), (.int 8)])), (dB gSub [(dVar 0), (dC (.int 1))])]), (dC (.int 1))])]))) (dNotT (dTruth (dCall F_is_integer [(dVar 2), (dC (.int 0)), (dC (.int 9))])))) (dRaise "InvalidNumber") dNext)
  (dRet (dB gTuple [(dComp (dIt gRng1 [(dB gIx [(dC (.tuple [(.int 2), (.int 4), (.int 8)])), (dB gSub [(dVar 0), (dC (.int 1))])])]) (.nm 3) dYes (dIfE (dTruth (dCall F_holds [(dVar 3), (dVar 1)])) (dVar 2) (dC (.int 0))) [3])]))))
def F_package_bid : Dn Rv := fnD 3 1 B_package_bid
def B_law_cell_at : Dn Fl := (dSeq (dIfS (dTruth (dB gLt [(dVar 1), (dB gLen [(dVar 0)])])) (dRet (dB gIx [(dVar 0), (dVar 1)])) dNext)
  (dSeq (dIfS (dTruth (dB gEq [(dVar 0), (dLst [])])) (dRet (dC (.int 0))) dNext)
  (dSeq (dSetF 2 (dB gIx [(dVar 0), (dB gMod [(dVar 1), (dB gLen [(dVar 0)])])]))
  (dSeq (dFor (dIt gRng1 [(dB gMin [(dB gDiv [(dVar 1), (dB gLen [(dVar 0)])]), (dC (.int 60))])]) (.nm 3) (dSetF 2 (dB gDiv [(dVar 2), (dC (.int 1000003))])))
  (dRet (dB gAdd [(dB gAdd [(dB gMul [(dB gIx [(dVar 0), (dB gMod [(dVar 1), (dB gLen [(dVar 0)])])]), (dC (.int 31))]), (dVar 1)]), (dB gMul [(dVar 2), (dC (.int 101))])]))))))
def F_law_cell_at : Dn Rv := fnD 2 2 B_law_cell_at
def B_law_mixed : Dn Fl := (dSeq (dSetF 3 (dB gMod [(dB gAdd [(dB gAdd [(dB gMul [(dCall F_law_cell_at [(dVar 0), (dVar 1)]), (dC (.int 1103515245))]), (dB gMul [(dC (.int 7919)), (dVar 1)])]), (dC (.int 12345))]), (dC (.int 2147483647))]))
  (dRet (dB gMod [(dB gMod [(dB gMod [(dB gPow [(dVar 3), (dC (.int 5))]), (dC (.int 2147483647))]), (dC (.int 999983))]), (dVar 2)])))
def F_law_mixed : Dn Rv := fnD 3 1 B_law_mixed
def B_law_draw : Dn Fl := (dSeq (dAppend 1 (dC (.int 0)))
  (dRet (dCall F_law_mixed [(dVar 0), (dB gLen [(dVar 1)]), (dVar 2)])))
def F_law_draw : Dn Rv := fnD 3 0 B_law_draw
def B_law_same_truth : Dn Fl := (dRet (dAnd (dB (gIsi "bool") [(dVar 0)]) (dB gEq [(dVar 0), (dVar 1)])))
def F_law_same_truth : Dn Rv := fnD 2 0 B_law_same_truth
def B_law_inside : Dn Fl := (dRet (dComp (dIt gEnum [(dLst [(dC (.int 1)), (dC (.int 2)), (dC (.int 4))])]) (.tp [1, 2]) (dTruth (dB gEq [(dB gMod [(dB gDiv [(dVar 0), (dVar 2)]), (dC (.int 2))]), (dC (.int 1))])) (dVar 1) [1, 2]))
def F_law_inside : Dn Rv := fnD 1 2 B_law_inside
def B_law_some_bid : Dn Fl := (dSeq (dSetF 4 (dB gIx [(dLst [(dC (.int 2)), (dC (.int 4)), (dC (.int 8))]), (dB gSub [(dVar 2), (dC (.int 1))])]))
  (dSeq (dIfS (dTruth (dB gEq [(dVar 3), (dC (.int 1))])) (dSeq (dSetF 7 (dComp (dIt gRng1 [(dVar 2)]) (.nm 11) dYes (dCall F_law_draw [(dVar 0), (dVar 1), (dC (.int 4))]) [11]))
  (dRet (dB gTuple [(dComp (dIt gRng1 [(dVar 4)]) (.nm 6) dYes (dB gSum [(dComp (dIt gSeq [(dCall F_law_inside [(dVar 6)])]) (.nm 12) dYes (dB gIx [(dVar 7), (dVar 12)]) [12])]) [6])]))) dNext)
  (dSeq (dIfS (dTruth (dB gEq [(dVar 3), (dC (.int 2))])) (dSeq (dSetF 7 (dComp (dIt gRng1 [(dVar 2)]) (.nm 11) dYes (dCall F_law_draw [(dVar 0), (dVar 1), (dC (.int 10))]) [11]))
  (dRet (dB gTuple [(dComp (dIt gRng1 [(dVar 4)]) (.nm 6) dYes (dB gMax [(dB gAdd [(dLst [(dC (.int 0))]), (dComp (dIt gSeq [(dCall F_law_inside [(dVar 6)])]) (.nm 12) dYes (dB gIx [(dVar 7), (dVar 12)]) [12])])]) [6])]))) dNext)
  (dSeq (dIfS (dTruth (dB gEq [(dVar 3), (dC (.int 3))])) (dSeq (dParF 9 10 (dB gAdd [(dC (.int 1)), (dCall F_law_draw [(dVar 0), (dVar 1), (dB gSub [(dVar 4), (dC (.int 1))])])]) (dCall F_law_draw [(dVar 0), (dVar 1), (dC (.int 10))]))
  (dSeq (dSet 5 (dLst []))
  (dSeq (dFor (dIt gRng1 [(dVar 4)]) (.nm 6) (dAppend 5 (dIfE (dTruth (dB gEq [(dComp (dIt gSeq [(dCall F_law_inside [(dVar 9)])]) (.nm 12) (dTruth (dB gNotIn [(dVar 12), (dCall F_law_inside [(dVar 6)])])) (dC (.int 1)) [12]), (dLst [])])) (dVar 10) (dC (.int 0)))))
  (dRet (dB gTuple [(dVar 5)]))))) dNext)
  (dSeq (dSet 5 (dLst [(dC (.int 0))]))
  (dSeq (dFor (dIt gRng2 [(dC (.int 1)), (dVar 4)]) (.nm 6) (dSeq (dSetF 8 (dB gMax [(dComp (dIt gSeq [(dCall F_law_inside [(dVar 6)])]) (.nm 12) dYes (dB gIx [(dVar 5), (dB gSub [(dVar 6), (dB gIx [(dLst [(dC (.int 1)), (dC (.int 2)), (dC (.int 4))]), (dVar 12)])])]) [12])]))
  (dAppend 5 (dB gMin [(dC (.int 9)), (dB gAdd [(dVar 8), (dB gIx [(dLst [(dC (.int 0)), (dC (.int 0)), (dC (.int 1)), (dC (.int 2)), (dC (.int 5))]), (dCall F_law_draw [(dVar 0), (dVar 1), (dC (.int 5))])])])]))))
  (dRet (dB gTuple [(dVar 5)]))))))))
def F_law_some_bid : Dn Rv := fnD 4 9 B_law_some_bid
def B_law_some_room : Dn Fl := (dSeq (dPar 4 5 (dB gAdd [(dC (.int 1)), (dCall F_law_draw [(dVar 0), (dVar 1), (dC (.int 3))])]) (dLst []))
  (dSeq (dFor (dIt gRng1 [(dB gAdd [(dC (.int 1)), (dCall F_law_draw [(dVar 0), (dVar 1), (dVar 2)])])]) (.nm 3) (dAppend 5 (dCall F_law_some_bid [(dVar 0), (dVar 1), (dVar 4), (dCall F_law_draw [(dVar 0), (dVar 1), (dC (.int 4))])])))
  (dRet (dB gTuple [(dVar 5)]))))
def F_law_some_room : Dn Rv := fnD 3 3 B_law_some_room
def B_check_room : Dn Fl := (dIfS (dNotT (dTruth (dCall F_is_room [(dVar 0)]))) (dRaise "InvalidRoom") dNext)
def F_check_room : Dn Rv := fnD 1 0 B_check_room
def B_allotments : Dn Fl := (dSeq (dSetF 2 (dLst [(dB gMul [(dTup [(dC (.int 0))]), (dB gLen [(dVar 0)])])]))
  (dSeq (dSetF 3 (dC (.int 1)))
  (dSeq (whileL (dTruth (dB gLt [(dVar 3), (dB gLen [(dB gIx [(dVar 0), (dC (.int 0))])])])) (dSeq (dSet 4 (dB gList [(dVar 2)]))
  (dSeq (dFor (dIt gSeq [(dVar 2)]) (.nm 5) (dFor (dIt gSeq [(dVar 1)]) (.nm 6) (dAppend 4 (dB gAdd [(dB gAdd [(dB (gHi gCut) [(dVar 5), (dVar 6)]), (dTup [(dB gAdd [(dB gIx [(dVar 5), (dVar 6)]), (dVar 3)])])]), (dB (gLo gCut) [(dVar 5), (dB gAdd [(dVar 6), (dC (.int 1))])])]))))
  (dSeq (dSetF 2 (dVar 4))
  (dSetF 3 (dB gMul [(dC (.int 2)), (dVar 3)]))))) 8)
  (dRet (dB gSorted [(dVar 2)])))))
def F_allotments : Dn Rv := fnD 2 5 B_allotments
def B_total_of : Dn Fl := (dRet (dB gSum [(dComp (dIt gZip2 [(dVar 0), (dVar 1)]) (.tp [2, 3]) dYes (dB gIx [(dVar 2), (dVar 3)]) [2, 3])]))
def F_total_of : Dn Rv := fnD 2 2 B_total_of
def B_best_for : Dn Fl := (dSeq (dSetF 2 (dC .none))
  (dSeq (dFor (dIt gSeq [(dCall F_allotments [(dVar 0), (dVar 1)])]) (.nm 3) (dSeq (dSetF 4 (dCall F_total_of [(dVar 0), (dVar 3)]))
  (dIfS (dOrT (dTruth (dB gIs [(dVar 2), (dC .none)])) (dTruth (dB gGt [(dVar 4), (dB gIx [(dVar 2), (dC (.int 0))])]))) (dSetF 2 (dTup [(dVar 4), (dVar 3)])) dNext)))
  (dRet (dVar 2))))
def F_best_for : Dn Rv := fnD 2 3 B_best_for
def B_everyone : Dn Fl := (dRet (dB gRgL [(dB gLen [(dVar 0)])]))
def F_everyone : Dn Rv := fnD 1 0 B_everyone
def B_best_allotment : Dn Fl := (dSeq (dExpr (dCall F_check_room [(dVar 0)]))
  (dRet (dB gIx [(dCall F_best_for [(dVar 0), (dCall F_everyone [(dVar 0)])]), (dC (.int 1))])))
def F_best_allotment : Dn Rv := fnD 1 0 B_best_allotment
def B_check_group : Dn Fl := (dSeq (dIfS (dOrT (dNotT (dTruth (dB (gIsi "tuple") [(dVar 1)]))) (dNotT (dTruth (dB gAll [(dComp (dIt gSeq [(dVar 1)]) (.nm 2) dYes (dCall F_is_integer [(dVar 2), (dC (.int 0)), (dB gSub [(dB gLen [(dVar 0)]), (dC (.int 1))])]) [2])])))) (dRaise "InvalidGroup") dNext)
  (dIfS (dNotT (dTruth (dB gAll [(dComp (dIt gZip2 [(dVar 1), (dB (gLo gCut) [(dVar 1), (dC (.int 1))])]) (.tp [2, 3]) dYes (dB gLt [(dVar 2), (dVar 3)]) [2, 3])]))) (dRaise "InvalidGroup") dNext))
def F_check_group : Dn Rv := fnD 2 2 B_check_group
def B_best_total : Dn Fl := (dSeq (dExpr (dCall F_check_room [(dVar 0)]))
  (dSeq (dExpr (dCall F_check_group [(dVar 0), (dVar 1)]))
  (dRet (dB gIx [(dCall F_best_for [(dVar 0), (dB gList [(dVar 1)])]), (dC (.int 0))]))))
def F_best_total : Dn Rv := fnD 2 0 B_best_total
def B_total : Dn Fl := (dSeq (dExpr (dCall F_check_room [(dVar 0)]))
  (dSeq (dIfS (dOrT (dNotT (dTruth (dB (gIsi "tuple") [(dVar 1)]))) (dTruth (dB gNe [(dB gLen [(dVar 1)]), (dB gLen [(dVar 0)])]))) (dRet (dC .none)) dNext)
  (dSeq (dIfS (dNotT (dTruth (dB gAll [(dComp (dIt gSeq [(dVar 1)]) (.nm 3) dYes (dCall F_is_integer [(dVar 3), (dC (.int 0)), (dB gSub [(dB gLen [(dB gIx [(dVar 0), (dC (.int 0))])]), (dC (.int 1))])]) [3])]))) (dRet (dC .none)) dNext)
  (dSeq (dSet 2 (dLst []))
  (dSeq (dFor (dIt gSeq [(dVar 1)]) (.nm 3) (dExtend 2 (dCall F_things_in [(dVar 3)])))
  (dRet (dIfE (dTruth (dB gEq [(dB gLenSet [(dVar 2)]), (dB gLen [(dVar 2)])])) (dCall F_total_of [(dVar 0), (dVar 1)]) (dC .none))))))))
def F_total : Dn Rv := fnD 2 2 B_total
def B_law_pick : Dn Fl := (dRet (dB gIx [(dVar 2), (dCall F_law_draw [(dVar 0), (dVar 1), (dB gLen [(dVar 2)])])]))
def F_law_pick : Dn Rv := fnD 3 0 B_law_pick
def B_law_same_number : Dn Fl := (dRet (dAnd (dB (gIsi "int") [(dVar 0)]) (dAnd (dNot (dB (gIsi "bool") [(dVar 0)])) (dB gEq [(dVar 0), (dVar 1)]))))
def F_law_same_number : Dn Rv := fnD 2 0 B_law_same_number
def B_law_shares : Dn Fl := (dSeq (dSetF 1 (dLst [(dTup [])]))
  (dSeq (dFor (dIt gSeq [(dVar 0)]) (.nm 2) (dSeq (dSet 3 (dLst []))
  (dSeq (dFor (dIt gSeq [(dVar 1)]) (.nm 4) (dSeq (dSetF 5 (dB gSum [(dVar 4)]))
  (dFor (dIt gRng1 [(dB gLen [(dVar 2)])]) (.nm 6) (dIfS (dTruth (dB gEq [(dComp (dIt gSeq [(dCall F_law_inside [(dVar 6)])]) (.nm 7) (dTruth (dB gIn [(dVar 7), (dCall F_law_inside [(dVar 5)])])) (dC (.int 1)) [7]), (dLst [])])) (dAppend 3 (dB gAdd [(dVar 4), (dTup [(dVar 6)])])) dNext))))
  (dSetF 1 (dVar 3)))))
  (dRet (dVar 1))))
def F_law_shares : Dn Rv := fnD 1 7 B_law_shares
def B_law_worth_of : Dn Fl := (dRet (dB gSum [(dComp (dIt gZip2 [(dVar 0), (dVar 1)]) (.tp [2, 3]) dYes (dB gIx [(dVar 2), (dVar 3)]) [2, 3])]))
def F_law_worth_of : Dn Rv := fnD 2 2 B_law_worth_of
def B_law_most_for : Dn Fl := (dSeq (dSetF 2 (dC (.int 0)))
  (dSeq (dFor (dIt gSeq [(dCall F_law_shares [(dVar 0)])]) (.nm 3) (dIfS (dTruth (dB gEq [(dComp (dIt gEnum [(dVar 3)]) (.tp [4, 5]) (dAndT (dTruth (dB gGt [(dVar 5), (dC (.int 0))])) (dTruth (dB gNotIn [(dVar 4), (dVar 1)]))) (dC (.int 1)) [4, 5]), (dLst [])])) (dSetF 2 (dB gMax [(dVar 2), (dCall F_law_worth_of [(dVar 0), (dVar 3)])])) dNext))
  (dRet (dVar 2))))
def F_law_most_for : Dn Rv := fnD 2 4 B_law_most_for
def B_law_first_best : Dn Fl := (dSeq (dSetF 1 (dC .none))
  (dSeq (dFor (dIt gSeq [(dCall F_law_shares [(dVar 0)])]) (.nm 2) (dIfS (dOrT (dTruth (dB gIs [(dVar 1), (dC .none)])) (dTruth (dB gGt [(dCall F_law_worth_of [(dVar 0), (dVar 2)]), (dCall F_law_worth_of [(dVar 0), (dVar 1)])]))) (dSetF 1 (dVar 2)) dNext))
  (dRet (dVar 1))))
def F_law_first_best : Dn Rv := fnD 1 2 B_law_first_best
def B_outcome : Dn Fl := (dSeq (dSetT (.tp [2, 3]) (dCall F_best_for [(dVar 0), (dCall F_everyone [(dVar 0)])]))
  (dSeq (dSet 1 (dLst []))
  (dSeq (dFor (dIt gEnum [(dVar 3)]) (.tp [4, 5]) (dSeq (dSetF 6 (dComp (dIt gSeq [(dCall F_everyone [(dVar 0)])]) (.nm 7) (dTruth (dB gNe [(dVar 7), (dVar 4)])) (dVar 7) [7]))
  (dAppend 1 (dB gSub [(dB gIx [(dCall F_best_for [(dVar 0), (dVar 6)]), (dC (.int 0))]), (dB gSub [(dVar 2), (dB gIx [(dB gIx [(dVar 0), (dVar 4)]), (dVar 5)])])]))))
  (dRet (dTup [(dVar 3), (dVar 1)])))))
def F_outcome : Dn Rv := fnD 1 7 B_outcome
def B_payments : Dn Fl := (dSeq (dExpr (dCall F_check_room [(dVar 0)]))
  (dRet (dB gIx [(dCall F_outcome [(dVar 0)]), (dC (.int 1))])))
def F_payments : Dn Rv := fnD 1 0 B_payments
def B_kept_list : Dn Fl := (dSeq (dSetT (.tp [1, 2]) (dCall F_outcome [(dVar 0)]))
  (dRet (dComp (dIt gZip3 [(dVar 0), (dVar 1), (dVar 2)]) (.tp [3, 4, 5]) dYes (dB gSub [(dB gIx [(dVar 3), (dVar 4)]), (dVar 5)]) [3, 4, 5])))
def F_kept_list : Dn Rv := fnD 1 5 B_kept_list
def B_kept : Dn Fl := (dSeq (dExpr (dCall F_check_room [(dVar 0)]))
  (dRet (dCall F_kept_list [(dVar 0)])))
def F_kept : Dn Rv := fnD 1 0 B_kept
def B_law_pays : Dn Fl := (dSeq (dPar 2 3 (dCall F_law_first_best [(dVar 0)]) (dLst []))
  (dSeq (dFor (dIt gRng1 [(dB gLen [(dVar 0)])]) (.nm 1) (dSeq (dSetF 4 (dComp (dIt gRng1 [(dB gLen [(dVar 0)])]) (.nm 5) (dTruth (dB gNe [(dVar 5), (dVar 1)])) (dVar 5) [5]))
  (dAppend 3 (dB gSub [(dCall F_law_most_for [(dVar 0), (dVar 4)]), (dB gSum [(dComp (dIt gSeq [(dVar 4)]) (.nm 5) dYes (dB gIx [(dB gIx [(dVar 0), (dVar 5)]), (dB gIx [(dVar 2), (dVar 5)])]) [5])])]))))
  (dRet (dVar 3))))
def F_law_pays : Dn Rv := fnD 1 5 B_law_pays
def B_kept_by : Dn Fl := (dSeq (dExpr (dCall F_check_room [(dVar 0)]))
  (dSeq (dIfS (dNotT (dTruth (dCall F_is_integer [(dVar 1), (dC (.int 0)), (dB gSub [(dB gLen [(dVar 0)]), (dC (.int 1))])]))) (dRaise "InvalidBidder") dNext)
  (dSeq (dIfS (dNotT (dTruth (dCall F_bids_for [(dVar 2), (dB gLen [(dB gIx [(dVar 0), (dC (.int 0))])])]))) (dRaise "InvalidBid") dNext)
  (dSeq (dSetT (.tp [3, 4]) (dCall F_outcome [(dB gAdd [(dB gAdd [(dB (gHi gCut) [(dVar 0), (dVar 1)]), (dTup [(dVar 2)])]), (dB (gLo gCut) [(dVar 0), (dB gAdd [(dVar 1), (dC (.int 1))])])])]))
  (dRet (dB gSub [(dB gIx [(dB gIx [(dVar 0), (dVar 1)]), (dB gIx [(dVar 3), (dVar 1)])]), (dB gIx [(dVar 4), (dVar 1)])]))))))
def F_kept_by : Dn Rv := fnD 3 2 B_kept_by
def B_gains : Dn Fl := (dSeq (dSetF 2 (dCall F_kept_list [(dVar 0)]))
  (dRet (dB gGt [(dB gIx [(dCall F_best_for [(dVar 0), (dB gList [(dVar 1)])]), (dC (.int 0))]), (dB gAdd [(dB gSum [(dB gIx [(dCall F_outcome [(dVar 0)]), (dC (.int 1))])]), (dB gSum [(dComp (dIt gSeq [(dVar 1)]) (.nm 3) dYes (dB gIx [(dVar 2), (dVar 3)]) [3])])])])))
def F_gains : Dn Rv := fnD 2 2 B_gains
def B_objects : Dn Fl := (dSeq (dExpr (dCall F_check_room [(dVar 0)]))
  (dSeq (dExpr (dCall F_check_group [(dVar 0), (dVar 1)]))
  (dRet (dCall F_gains [(dVar 0), (dVar 1)]))))
def F_objects : Dn Rv := fnD 2 0 B_objects
def B_group_list : Dn Fl := (dSeq (dSetF 1 (dLst [(dTup [])]))
  (dSeq (dFor (dIt gSeq [(dCall F_everyone [(dVar 0)])]) (.nm 2) (dSetF 1 (dB gAdd [(dVar 1), (dComp (dIt gSeq [(dVar 1)]) (.nm 3) dYes (dB gAdd [(dVar 3), (dTup [(dVar 2)])]) [3])])))
  (dRet (dB gSorted [(dComp (dIt gSeq [(dVar 1)]) (.nm 3) (dTruth (dCall F_gains [(dVar 0), (dVar 3)])) (dVar 3) [3])]))))
def F_group_list : Dn Rv := fnD 1 3 B_group_list
def B_objecting : Dn Fl := (dSeq (dExpr (dCall F_check_room [(dVar 0)]))
  (dRet (dCall F_group_list [(dVar 0)])))
def F_objecting : Dn Rv := fnD 1 0 B_objecting
def B_is_calm : Dn Fl := (dSeq (dExpr (dCall F_check_room [(dVar 0)]))
  (dRet (dB gEq [(dCall F_group_list [(dVar 0)]), (dLst [])])))
def F_is_calm : Dn Rv := fnD 1 0 B_is_calm
def B_law_plain_room : Dn Fl := (dSeq (dPar 5 6 (dB gAdd [(dC (.int 1)), (dCall F_law_draw [(dVar 0), (dVar 1), (dC (.int 3))])]) (dLst []))
  (dSeq (dFor (dIt gRng1 [(dB gAdd [(dC (.int 1)), (dCall F_law_draw [(dVar 0), (dVar 1), (dVar 2)])])]) (.nm 4) (dAppend 6 (dCall F_law_some_bid [(dVar 0), (dVar 1), (dVar 5), (dCall F_law_pick [(dVar 0), (dVar 1), (dVar 3)])])))
  (dRet (dB gTuple [(dVar 6)]))))
def F_law_plain_room : Dn Rv := fnD 4 3 B_law_plain_room
def B_count_things : Dn Fl := (dRet (dB gLen [(dCall F_things_in [(dB gSub [(dB gLen [(dB gIx [(dVar 0), (dC (.int 0))])]), (dC (.int 1))])])]))
def F_count_things : Dn Rv := fnD 1 0 B_count_things
def B_price_of : Dn Fl := (dRet (dB gSum [(dComp (dIt gSeq [(dCall F_things_in [(dVar 1)])]) (.nm 2) dYes (dB gIx [(dVar 0), (dVar 2)]) [2])]))
def F_price_of : Dn Rv := fnD 2 1 B_price_of
def B_parts : Dn Fl := (dSeq (dIfS (dTruth (dB gGt [(dCall F_price_of [(dVar 2), (dB gSub [(dB gSub [(dB gLen [(dB gIx [(dVar 0), (dC (.int 0))])]), (dC (.int 1))]), (dB gSum [(dVar 1)])])]), (dC (.int 0))])) (dRet (dC (.bool false))) dNext)
  (dSeq (dFor (dIt gZip2 [(dVar 0), (dVar 1)]) (.tp [3, 4]) (dSeq (dSetF 5 (dB gMax [(dComp (dIt gEnum [(dVar 3)]) (.tp [6, 7]) dYes (dB gSub [(dVar 7), (dCall F_price_of [(dVar 2), (dVar 6)])]) [6, 7])]))
  (dIfS (dTruth (dB gGt [(dVar 5), (dB gSub [(dB gIx [(dVar 3), (dVar 4)]), (dCall F_price_of [(dVar 2), (dVar 4)])])])) (dRet (dC (.bool false))) dNext)))
  (dRet (dC (.bool true)))))
def F_parts : Dn Rv := fnD 3 5 B_parts
def B_do_part : Dn Fl := (dSeq (dExpr (dCall F_check_room [(dVar 0)]))
  (dSeq (dIfS (dOrT (dNotT (dTruth (dB (gIsi "tuple") [(dVar 1)]))) (dTruth (dB gNe [(dB gLen [(dVar 1)]), (dCall F_count_things [(dVar 0)])]))) (dRaise "InvalidPrices") dNext)
  (dSeq (dIfS (dNotT (dTruth (dB gAll [(dComp (dIt gSeq [(dVar 1)]) (.nm 2) dYes (dCall F_is_integer [(dVar 2), (dC (.int 0)), (dC (.int 9))]) [2])]))) (dRaise "InvalidPrices") dNext)
  (dRet (dCall F_parts [(dVar 0), (dB gIx [(dCall F_best_for [(dVar 0), (dCall F_everyone [(dVar 0)])]), (dC (.int 1))]), (dVar 1)])))))
def F_do_part : Dn Rv := fnD 2 1 B_do_part
def B_price_list : Dn Fl := (dSeq (dSetF 1 (dLst [(dTup [])]))
  (dSeq (dFor (dIt gRng1 [(dCall F_count_things [(dVar 0)])]) (.nm 2) (dSeq (dSet 4 (dLst []))
  (dSeq (dFor (dIt gSeq [(dVar 1)]) (.nm 5) (dExtend 4 (dComp (dIt gRng1 [(dC (.int 10))]) (.nm 6) dYes (dB gAdd [(dVar 5), (dTup [(dVar 6)])]) [6])))
  (dSetF 1 (dVar 4)))))
  (dSeq (dSetF 3 (dB gIx [(dCall F_best_for [(dVar 0), (dCall F_everyone [(dVar 0)])]), (dC (.int 1))]))
  (dRet (dComp (dIt gSeq [(dVar 1)]) (.nm 5) (dTruth (dCall F_parts [(dVar 0), (dVar 3), (dVar 5)])) (dVar 5) [5])))))
def F_price_list : Dn Rv := fnD 1 6 B_price_list
def B_all_prices : Dn Fl := (dSeq (dExpr (dCall F_check_room [(dVar 0)]))
  (dRet (dCall F_price_list [(dVar 0)])))
def F_all_prices : Dn Rv := fnD 1 0 B_all_prices
def B_least_prices : Dn Fl := (dSeq (dExpr (dCall F_check_room [(dVar 0)]))
  (dSeq (dSetF 1 (dCall F_price_list [(dVar 0)]))
  (dSeq (dIfS (dTruth (dB gEq [(dVar 1), (dLst [])])) (dRaise "NoPrices") dNext)
  (dSeq (dSetF 2 (dB gTuple [(dComp (dIt gRng1 [(dCall F_count_things [(dVar 0)])]) (.nm 3) dYes (dB gMin [(dComp (dIt gSeq [(dVar 1)]) (.nm 4) dYes (dB gIx [(dVar 4), (dVar 3)]) [4])]) [3])]))
  (dRet (dIfE (dTruth (dB gIn [(dVar 2), (dVar 1)])) (dVar 2) (dC .none)))))))
def F_least_prices : Dn Rv := fnD 1 4 B_least_prices
def B_law_cost : Dn Fl := (dRet (dB gSum [(dComp (dIt gSeq [(dCall F_law_inside [(dVar 1)])]) (.nm 2) dYes (dB gIx [(dVar 0), (dVar 2)]) [2])]))
def F_law_cost : Dn Rv := fnD 2 1 B_law_cost
def B_law_fits : Dn Fl := (dSeq (dSetF 3 (dB gSub [(dB gSub [(dB gLen [(dB gIx [(dVar 0), (dC (.int 0))])]), (dC (.int 1))]), (dB gSum [(dVar 1)])]))
  (dSeq (dIfS (dTruth (dB gNe [(dCall F_law_cost [(dVar 2), (dVar 3)]), (dC (.int 0))])) (dRet (dC (.bool false))) dNext)
  (dSeq (dFor (dIt gZip2 [(dVar 0), (dVar 1)]) (.tp [4, 5]) (dSeq (dSetF 6 (dB gSub [(dB gIx [(dVar 4), (dVar 5)]), (dCall F_law_cost [(dVar 2), (dVar 5)])]))
  (dIfS (dTruth (dB gNe [(dComp (dIt gRng1 [(dB gLen [(dVar 4)])]) (.nm 7) (dTruth (dB gGt [(dB gSub [(dB gIx [(dVar 4), (dVar 7)]), (dCall F_law_cost [(dVar 2), (dVar 7)])]), (dVar 6)])) (dC (.int 1)) [7]), (dLst [])])) (dRet (dC (.bool false))) dNext)))
  (dRet (dC (.bool true))))))
def F_law_fits : Dn Rv := fnD 3 5 B_law_fits
def B_text_of : Dn Fl := (dRet dBadV)
def F_text_of : Dn Rv := fnD 1 2 B_text_of
def B_format_room : Dn Fl := (dSeq (dExpr (dCall F_check_room [(dVar 0)]))
  (dRet (dCall F_text_of [(dVar 0)])))
def F_format_room : Dn Rv := fnD 1 0 B_format_room
def B_parse_room : Dn Fl := (dSeq (dIfS (dOrT (dNotT (dTruth (dB (gIsi "str") [(dVar 0)]))) (dNotT (dTruth (dB gAll [(dComp (dIt gSeq [(dVar 0)]) (.nm 3) dYes (dB gIn [(dVar 3), (dB gAdd [(dC (.str "0123456789")), (dC (.str " "))])]) [3])])))) (dRaise "ParseError") dNext)
  (dSeq (dSetF 1 (dB gTuple [(dComp (dIt gSeq [dBadV]) (.nm 2) dYes (dB gTuple [(dComp (dIt gSeq [(dVar 2)]) (.nm 3) dYes dBadV [3])]) [2])]))
  (dSeq (dIfS (dNotT (dTruth (dCall F_is_room [(dVar 1)]))) (dRaise "ParseError") dNext)
  (dRet (dVar 1)))))
def F_parse_room : Dn Rv := fnD 1 3 B_parse_room
def B_law_small_ones : Dn Fl := (dSeq (dSetF 0 (dTup [(dTup [(dC (.int 0)), (dC (.int 3)), (dC (.int 4)), (dC (.int 5))]), (dTup [(dC (.int 0)), (dC (.int 2)), (dC (.int 2)), (dC (.int 2))])]))
  (dSeq (dIfS (dOrT (dTruth (dB gNe [(dCall F_best_allotment [(dVar 0)]), (dTup [(dC (.int 2)), (dC (.int 1))])])) (dTruth (dB gNe [(dCall F_best_total [(dVar 0), (dTup [(dC (.int 0)), (dC (.int 1))])]), (dC (.int 6))]))) (dRet (dC (.bool false))) dNext)
  (dSeq (dIfS (dOrT (dTruth (dB gNe [(dCall F_total [(dVar 0), (dTup [(dC (.int 3)), (dC (.int 0))])]), (dC (.int 5))])) (dTruth (dB gIsNot [(dCall F_total [(dVar 0), (dTup [(dC (.int 3)), (dC (.int 1))])]), (dC .none)]))) (dRet (dC (.bool false))) dNext)
  (dSeq (dIfS (dOrT (dTruth (dB gNe [(dCall F_payments [(dVar 0)]), (dLst [(dC (.int 0)), (dC (.int 1))])])) (dOrT (dTruth (dB gNe [(dCall F_kept [(dVar 0)]), (dLst [(dC (.int 4)), (dC (.int 1))])])) (dTruth (dB gNe [(dCall F_kept_by [(dTup [(dTup [(dC (.int 0)), (dC (.int 3))]), (dTup [(dC (.int 0)), (dC (.int 5))])]), (dC (.int 0)), (dTup [(dC (.int 0)), (dC (.int 9))])]), (dB gSub [(dC (.int 0)), (dC (.int 2))])])))) (dRet (dC (.bool false))) dNext)
  (dSeq (dSetF 1 (dTup [(dTup [(dC (.int 0)), (dC (.int 3))]), (dTup [(dC (.int 0)), (dC (.int 5))])]))
  (dSeq (dIfS (dOrT (dTruth (dB gNe [(dCall F_all_prices [(dVar 1)]), (dLst [(dTup [(dC (.int 3))]), (dTup [(dC (.int 4))]), (dTup [(dC (.int 5))])])])) (dOrT (dTruth (dB gNe [(dCall F_least_prices [(dVar 1)]), (dTup [(dC (.int 3))])])) (dTruth (dB gIsNot [(dCall F_do_part [(dVar 1), (dTup [(dC (.int 4))])]), (dC (.bool true))])))) (dRet (dC (.bool false))) dNext)
  (dSeq (dIfS (dOrT (dTruth (dB gIsNot [(dCall F_objects [(dVar 1), (dTup [(dC (.int 0))])]), (dC (.bool false))])) (dOrT (dTruth (dB gIsNot [(dCall F_is_calm [(dVar 1)]), (dC (.bool true))])) (dTruth (dB gNe [(dCall F_payments [(dVar 1)]), (dLst [(dC (.int 0)), (dC (.int 3))])])))) (dRet (dC (.bool false))) dNext)
  (dRet (dAnd (dB gEq [(dCall F_sum_bid [(dTup [(dC (.int 2)), (dC (.int 3))])]), (dTup [(dC (.int 0)), (dC (.int 2)), (dC (.int 3)), (dC (.int 5))])]) (dB gEq [(dCall F_single_bid [(dTup [(dC (.int 2)), (dC (.int 3))])]), (dTup [(dC (.int 0)), (dC (.int 2)), (dC (.int 3)), (dC (.int 3))])]))))))))))
def F_law_small_ones : Dn Rv := fnD 0 2 B_law_small_ones
end DL

/-! M0: how the plain functions are evaluated: steps of the combinators, loops and comprehensions. -/
namespace DL
open PySem PySem.Spec PyProof.Rows L2
section
variable {α β : Type}
theorem bnd_to {m : Dn α} {f : α → Dn β} {e e' : List Sl} {a : α} (h : m e = .ok a e') : bnd m f e = f a e' := by simp only [bnd, h]
theorem bnd_ex {m : Dn α} {f : α → Dn β} {e e' : List Sl} {c : Str} (h : m e = .ex c e') : bnd m f e = .ex c e' := by simp only [bnd, h]
end
/-- a comprehension whose turns touch nothing but the loop's names -/
theorem compL_pure {α : Type} {t : Tg} {tt : Dn Bool} {te : Dn Rv} {vs : List Nat} {e0 : List Sl} (emb : α → PyData) (p : α → Bool) (f : α → PyData) (xs : List α)
    (h : ∀ x ∈ xs, ∃ e1, tgD t (emb x) e0 = .ok () e1 ∧ tt e1 = .ok (p x) e1 ∧ wipeE e1 vs = e0 ∧ (p x = true → ∃ r e2, te e1 = .ok r e2 ∧ ∃ e3, cmt r e2 = .ok (f x) e3 ∧ wipeE e3 vs = e0)) :
    compL t tt te vs (xs.map emb) e0 = .ok ((xs.filter p).map f) e0 := by
  induction xs with
  | nil => rfl
  | cons x xs ih =>
    obtain ⟨e1, h1, h2, h3, h4⟩ := h x (List.mem_cons_self ..)
    have ih := ih fun y hy => h y (List.mem_cons_of_mem _ hy)
    simp only [List.map_cons, compL]
    rw [bnd_to h1, bnd_to h2]
    cases hp : p x with
    | false =>
      rw [if_neg (by simp), bnd_to (show wipeD vs e1 = .ok () e0 by simp only [wipeD, h3])]
      simp only [List.filter_cons, hp, ih]
      rfl
    | true =>
      obtain ⟨r, e2, h5, e3, h6, h7⟩ := h4 hp
      rw [if_pos rfl, bnd_to h5, bnd_to h6, bnd_to (show wipeD vs e3 = .ok () e0 by simp only [wipeD, h7]), bnd_to ih]
      simp only [List.filter_cons, hp]
      rfl
theorem compE_pure {α : Type} {t : Tg} {tt : Dn Bool} {te : Dn Rv} {vs : List Nat} {e e0 : List Sl} (emb : α → PyData) (p : α → Bool) (f : α → PyData) (xs : List α) (he : wipeE e vs = e0) (hr : restE e e0 vs = e)
    (h : ∀ x ∈ xs, ∃ e1, tgD t (emb x) e0 = .ok () e1 ∧ tt e1 = .ok (p x) e1 ∧ wipeE e1 vs = e0 ∧ (p x = true → ∃ r e2, te e1 = .ok r e2 ∧ ∃ e3, cmt r e2 = .ok (f x) e3 ∧ wipeE e3 vs = e0)) :
    compE t tt te vs (xs.map emb) e = .ok (.nw (.l ((xs.filter p).map f))) e := by
  simp only [compE, he, compL_pure emb p f xs h, hr]
/-- a comprehension without a test, its names one plain name -/
theorem compE_map {α : Type} {te : Dn Rv} {v : Nat} {e e0 : List Sl} (emb : α → PyData) (f : α → PyData) (xs : List α) (he : e.set v .un = e0) (hr : restE e e0 [v] = e)
    (h : ∀ x ∈ xs, ∃ r, te (e0.set v (.fz (emb x))) = .ok r (e0.set v (.fz (emb x))) ∧ cmt r (e0.set v (.fz (emb x))) = .ok (f x) (e0.set v (.fz (emb x)))) :
    compE (.nm v) dYes te [v] (xs.map emb) e = .ok (.nw (.l (xs.map f))) e := by
  subst he
  have := compE_pure (t := .nm v) (tt := dYes) (te := te) (vs := [v]) (e := e) emb (fun _ => true) f xs rfl hr (fun x hx => ⟨_, rfl, rfl, by simp [wipeE], fun _ => ?_⟩)
  · rw [this, List.filter_eq_self.2 (by simp)]
  · obtain ⟨r, h1, h2⟩ := h x hx
    exact ⟨r, _, h1, _, h2, by simp [wipeE]⟩
/-- a loop that keeps an invariant and never returns -/
theorem forL_inv {α : Type} {t : Tg} {body : Dn Fl} (emb : α → PyData) (I : List α → List Sl → Prop) (xs : List α) :
    ∀ (done : List α) (e : List Sl), I done e → (∀ (done : List α) (x : α) (rest : List α) (e : List Sl), done ++ x :: rest = done ++ x :: rest → I done e → x ∈ xs → ∃ e1, tgD t (emb x) e = .ok () e1 ∧ ∃ e2, body e1 = .ok .nx e2 ∧ I (done ++ [x]) e2) → ∃ e', forL t body (xs.map emb) e = .ok .nx e' ∧ I (done ++ xs) e' := by
  induction xs with
  | nil => intro done e h _; exact ⟨e, rfl, by simpa using h⟩
  | cons x xs ih =>
    intro done e h hs
    obtain ⟨e1, h1, e2, h2, h3⟩ := hs done x [] e rfl h (List.mem_cons_self ..)
    obtain ⟨e', h4, h5⟩ := ih (done ++ [x]) e2 h3 (fun d y r e _ hi hy => hs d y r e rfl hi (List.mem_cons_of_mem _ hy))
    refine ⟨e', ?_, by simpa using h5⟩
    simp only [List.map_cons, forL]
    rw [bnd_to h1, bnd_to h2]
    exact h4
theorem forL_fold {α σ : Type} {t : Tg} {body : Dn Fl} (emb : α → PyData) (I : σ → List Sl → Prop) (step : σ → α → σ) (xs : List α) (s : σ) (e : List Sl) (h : I s e)
    (hs : ∀ s x e, x ∈ xs → I s e → ∃ e1, tgD t (emb x) e = .ok () e1 ∧ ∃ e2, body e1 = .ok .nx e2 ∧ I (step s x) e2) : ∃ e', forL t body (xs.map emb) e = .ok .nx e' ∧ I (xs.foldl step s) e' := by
  induction xs generalizing s e with
  | nil => exact ⟨e, rfl, h⟩
  | cons x xs ih =>
    obtain ⟨e1, h1, e2, h2, h3⟩ := hs s x e (List.mem_cons_self ..) h
    obtain ⟨e', h4, h5⟩ := ih (step s x) e2 h3 (fun s y e hy hi => hs s y e (List.mem_cons_of_mem _ hy) hi)
    refine ⟨e', ?_, h5⟩
    simp only [List.map_cons, forL]
    rw [bnd_to h1, bnd_to h2]
    exact h4
theorem atI_nat {α : Type} (xs : List α) (i : Nat) : atI xs (i : Int) = xs[i]? := by
  unfold atI ixN
  by_cases h : i < xs.length
  · simp; grind
  · simp; grind
end DL

/-! M1: rules for proving what the plain functions answer. -/
namespace DL
open PySem PySem.Spec PyProof.Rows L2
def W {α : Type} (r : Res α) (Q : α → List Sl → Prop) : Prop := match r with
  | .ok a e => Q a e
  | _ => False
/-- what a value means -/
def Rx (e : List Sl) : Rv → PyData → Prop
  | .fz d, x => d = x
  | .nw (.l xs), x => x = .list xs
  | .nw _, _ => False
  | .bor i, x => ∃ xs, e[i]? = some (.own (.l xs)) ∧ x = .list xs
/-- `d` means `x` at `e`, and changes nothing -/
def A (d : Dn Rv) (e : List Sl) (x : PyData) : Prop := ∃ r, d e = .ok r e ∧ Rx e r x
/-- the same, of a value that is no name's own list -/
def Af (d : Dn Rv) (e : List Sl) (x : PyData) : Prop := ∃ r, d e = .ok r e ∧ Rx [] r x
theorem Rx.wk {e : List Sl} {r : Rv} {x : PyData} (h : Rx [] r x) : Rx e r x := by
  cases r with
  | fz d => exact h
  | nw c => cases c <;> exact h
  | bor i => obtain ⟨xs, h, _⟩ := h; simp at h
theorem Af.a {d : Dn Rv} {e : List Sl} {x : PyData} (h : Af d e x) : A d e x := let ⟨r, h1, h2⟩ := h; ⟨r, h1, h2.wk⟩
theorem a_var {i : Nat} {e : List Sl} {x : PyData} (h : e[i]? = some (.fz x)) : Af (dVar i) e x := ⟨.fz x, by simp only [dVar, h], rfl⟩
theorem a_own {i : Nat} {e : List Sl} {xs : List PyData} (h : e[i]? = some (.own (.l xs))) : A (dVar i) e (.list xs) := ⟨.bor i, by simp only [dVar, h], xs, h, rfl⟩
theorem a_c {e : List Sl} {x : PyData} : Af (dC x) e x := ⟨_, rfl, rfl⟩
/-- arguments -/
inductive As : List (Dn Rv) → List Sl → List PyData → Prop
  | nil {e : List Sl} : As [] e []
  | cons {d : Dn Rv} {ds : List (Dn Rv)} {e : List Sl} {x : PyData} {xs : List PyData} : A d e x → As ds e xs → As (d :: ds) e (x :: xs)
inductive Afs : List (Dn Rv) → List Sl → List PyData → Prop
  | nil {e : List Sl} : Afs [] e []
  | cons {d : Dn Rv} {ds : List (Dn Rv)} {e : List Sl} {x : PyData} {xs : List PyData} : Af d e x → Afs ds e xs → Afs (d :: ds) e (x :: xs)
theorem hold_rx {e : List Sl} {r : Rv} {x : PyData} (h : Rx e r x) : ∃ r', hold r e = .ok r' e ∧ dat e r' = some x := by
  cases r with
  | fz d => exact ⟨_, rfl, congrArg some h⟩
  | nw c => cases c with
    | l xs => cases h; exact ⟨_, rfl, rfl⟩
    | i _ => exact h.elim
    | d _ => exact h.elim
  | bor i => obtain ⟨xs, h1, rfl⟩ := h; exact ⟨_, rfl, by simp only [dat, h1]⟩
theorem hold_rf {e : List Sl} {r : Rv} {x : PyData} (h : Rx [] r x) : hold r e = .ok (.fz x) e := by
  cases r with
  | fz d => cases h; rfl
  | nw c => cases c with
    | l xs => cases h; rfl
    | i _ => exact h.elim
    | d _ => exact h.elim
  | bor i => obtain ⟨xs, h1, rfl⟩ := h; simp at h1
theorem cmt_rf {e : List Sl} {r : Rv} {x : PyData} (h : Rx [] r x) : cmt r e = .ok x e := by
  cases r with
  | fz d => cases h; rfl
  | nw c => cases c with
    | l xs => cases h; rfl
    | i _ => exact h.elim
    | d _ => exact h.elim
  | bor i => obtain ⟨xs, h1, rfl⟩ := h; simp at h1
theorem as_eq {ds : List (Dn Rv)} {e : List Sl} {xs : List PyData} (h : As ds e xs) : ∃ rs, dArgs ds e = .ok rs e ∧ dats e rs = some xs := by
  induction h with
  | nil => exact ⟨[], rfl, rfl⟩
  | cons h _ ih =>
    obtain ⟨r, h1, h2⟩ := h
    obtain ⟨r', h3, h4⟩ := hold_rx h2
    obtain ⟨rs, h5, h6⟩ := ih
    exact ⟨r' :: rs, by simp only [dArgs, bnd, h1, h3, h5, ret], by simp only [dats, h4, h6]⟩
theorem afs_eq {ds : List (Dn Rv)} {e : List Sl} {xs : List PyData} (h : Afs ds e xs) : dArgs ds e = .ok (xs.map .fz) e := by
  induction h with
  | nil => rfl
  | cons h _ ih =>
    obtain ⟨r, h1, h2⟩ := h
    simp only [dArgs, bnd, h1, hold_rf h2, ih, ret, List.map_cons]
theorem afs_cmt {ds : List (Dn Rv)} {e : List Sl} {xs : List PyData} (h : Afs ds e xs) : dArgsC ds e = .ok xs e := by
  induction h with
  | nil => rfl
  | cons h _ ih =>
    obtain ⟨r, h1, h2⟩ := h
    simp only [dArgsC, bnd, h1, cmt_rf h2, ih, ret]
def outD : Out → PyData
  | .fz d => d
  | .nl xs => .list xs
theorem a_B {g : List PyData → Option Out} {ds : List (Dn Rv)} {e : List Sl} {xs : List PyData} {o : Out} (h : As ds e xs) (hg : g xs = some o) : Af (dB g ds) e (outD o) := by
  obtain ⟨rs, h1, h2⟩ := as_eq h
  cases o with
  | fz d => exact ⟨.fz d, by simp only [dB, bnd, h1, dApp, h2, hg, dOut], rfl⟩
  | nl ys => exact ⟨.nw (.l ys), by simp only [dB, bnd, h1, dApp, h2, hg, dOut], rfl⟩
theorem a_B1 {g : List PyData → Option Out} {a : Dn Rv} {e : List Sl} {x z : PyData} (h : A a e x) (hg : g [x] = some (.fz z)) : Af (dB g [a]) e z := a_B (.cons h .nil) hg
theorem a_B1l {g : List PyData → Option Out} {a : Dn Rv} {e : List Sl} {x : PyData} {zs : List PyData} (h : A a e x) (hg : g [x] = some (.nl zs)) : Af (dB g [a]) e (.list zs) := a_B (.cons h .nil) hg
theorem a_B2 {g : List PyData → Option Out} {a b : Dn Rv} {e : List Sl} {x y z : PyData} (h : A a e x) (h2 : A b e y) (hg : g [x, y] = some (.fz z)) : Af (dB g [a, b]) e z := a_B (.cons h (.cons h2 .nil)) hg
theorem a_B2l {g : List PyData → Option Out} {a b : Dn Rv} {e : List Sl} {x y : PyData} {zs : List PyData} (h : A a e x) (h2 : A b e y) (hg : g [x, y] = some (.nl zs)) : Af (dB g [a, b]) e (.list zs) := a_B (.cons h (.cons h2 .nil)) hg
theorem a_tup {ds : List (Dn Rv)} {e : List Sl} {xs : List PyData} (h : Afs ds e xs) : Af (dTup ds) e (.tuple xs) := ⟨.fz (.tuple xs), by simp only [dTup, bnd, afs_cmt h, ret], rfl⟩
theorem a_lst {ds : List (Dn Rv)} {e : List Sl} {xs : List PyData} (h : Afs ds e xs) : Af (dLst ds) e (.list xs) := ⟨.nw (.l xs), by simp only [dLst, bnd, afs_cmt h, ret], rfl⟩
/-- a def that leaves its arguments alone -/
def Fn (F : Dn Rv) (xs : List PyData) (y : PyData) : Prop := ∃ r, F (xs.map .fz) = .ok r (xs.map .fz) ∧ Rx [] r y
theorem noTwice_fz (xs : List PyData) : noTwice (xs.map .fz) = true := by
  induction xs with
  | nil => rfl
  | cons x xs ih => exact ih
theorem slotsOf_fz (e : List Sl) (xs : List PyData) : slotsOf e (xs.map .fz) = some (xs.map .fz) := by
  induction xs with
  | nil => rfl
  | cons x xs ih => simp only [List.map_cons, slotsOf, slotOf, ih]
theorem back_fz (e : List Sl) (xs : List PyData) (ss : List Sl) : back e (xs.map .fz) ss = e := by
  induction xs generalizing ss with
  | nil => cases ss <;> rfl
  | cons x xs ih => cases ss with
    | nil => rfl
    | cons s ss => exact ih ss
theorem a_call {F : Dn Rv} {ds : List (Dn Rv)} {e : List Sl} {xs : List PyData} {y : PyData} (h : Afs ds e xs) (hF : Fn F xs y) : Af (dCall F ds) e y := by
  obtain ⟨r, h1, h2⟩ := hF
  refine ⟨r, ?_, h2⟩
  simp only [dCall, bnd, afs_eq h, dCl, noTwice_fz, slotsOf_fz, h1, if_true]
  cases r with
  | fz d => simp only [back_fz]
  | nw c => simp only [back_fz]
  | bor i => obtain ⟨xs, h, _⟩ := h2; simp at h
/-! tests -/
def Te (t : Dn Bool) (e : List Sl) (b : Bool) : Prop := t e = .ok b e
theorem t_truth {d : Dn Rv} {e : List Sl} {b : Bool} (h : A d e (.bool b)) : Te (dTruth d) e b := by
  obtain ⟨r, h1, h2⟩ := h
  cases r with
  | fz d => cases h2; simp only [Te, dTruth, bnd, h1]
  | nw c => cases c <;> simp [Rx] at h2
  | bor i => obtain ⟨_, _, h⟩ := h2; cases h
theorem t_not {t : Dn Bool} {e : List Sl} {b : Bool} (h : Te t e b) : Te (dNotT t) e (!b) := by
  unfold Te at h ⊢; simp only [dNotT, bnd, h, ret]
theorem t_and {t u : Dn Bool} {e : List Sl} {b c : Bool} (h : Te t e b) (h2 : b = true → Te u e c) : Te (dAndT t u) e (b && c) := by
  unfold Te at *
  cases b with
  | true => simp only [dAndT, bnd, h, if_true, h2 rfl, Bool.true_and]
  | false => simp only [dAndT, bnd, h]; rfl
theorem t_or {t u : Dn Bool} {e : List Sl} {b c : Bool} (h : Te t e b) (h2 : b = false → Te u e c) : Te (dOrT t u) e (b || c) := by
  unfold Te at *
  cases b with
  | true => simp only [dOrT, bnd, h, if_true]; rfl
  | false => simp only [dOrT, bnd, h]; exact h2 rfl
theorem t_yes {e : List Sl} : Te dYes e true := rfl
theorem a_and {a b : Dn Rv} {e : List Sl} {x y : Bool} (h : A a e (.bool x)) (h2 : x = true → Af b e (.bool y)) : Af (dAnd a b) e (.bool (x && y)) := by
  have h := t_truth h
  unfold Te at h
  cases x with
  | true =>
    obtain ⟨r, h3, h4⟩ := h2 rfl
    exact ⟨r, by simp only [dAnd, bnd, h, if_true, h3], h4⟩
  | false => exact ⟨.fz (.bool false), by simp only [dAnd, bnd, h]; rfl, rfl⟩
theorem a_or {a b : Dn Rv} {e : List Sl} {x y : Bool} (h : A a e (.bool x)) (h2 : x = false → Af b e (.bool y)) : Af (dOr a b) e (.bool (x || y)) := by
  have h := t_truth h
  unfold Te at h
  cases x with
  | false =>
    obtain ⟨r, h3, h4⟩ := h2 rfl
    exact ⟨r, by simp only [dOr, bnd, h]; exact h3, h4⟩
  | true => exact ⟨.fz (.bool true), by simp only [dOr, bnd, h]; rfl, rfl⟩
theorem a_not {a : Dn Rv} {e : List Sl} {x : Bool} (h : A a e (.bool x)) : Af (dNot a) e (.bool (!x)) := by
  have h := t_truth h
  unfold Te at h
  exact ⟨.fz (.bool (!x)), by simp only [dNot, bnd, h]; rfl, rfl⟩
theorem a_ife {t : Dn Bool} {a b : Dn Rv} {e : List Sl} {c : Bool} {x : PyData} (h : Te t e c) (h1 : c = true → Af a e x) (h2 : c = false → Af b e x) : Af (dIfE t a b) e x := by
  unfold Te at h
  cases c with
  | true => obtain ⟨r, h3, h4⟩ := h1 rfl; exact ⟨r, by simp only [dIfE, bnd, h, if_true, h3], h4⟩
  | false => obtain ⟨r, h3, h4⟩ := h2 rfl; exact ⟨r, by simp only [dIfE, bnd, h]; exact h3, h4⟩
theorem a_chain {g g' : List PyData → Option Out} {a b c : Dn Rv} {e : List Sl} {x y z : PyData} {p q : Bool} (h : Af a e x) (h2 : Af b e y) (h3 : Af c e z) (h4 : g [x, y] = some (.fz (.bool p))) (h5 : g' [y, z] = some (.fz (.bool q))) : Af (dChain g g' a b c) e (.bool (p && q)) := by
  obtain ⟨r, a1, a2⟩ := h
  obtain ⟨s, b1, b2⟩ := h2
  obtain ⟨t, c1, c2⟩ := h3
  cases p with
  | true => exact ⟨.fz (.bool q), by simp only [dChain, bnd, a1, hold_rf a2, b1, hold_rf b2, dTruth, dApp, dats, dat, h4, dOut, if_true, c1, hold_rf c2, h5], rfl⟩
  | false => exact ⟨.fz (.bool false), by simp only [dChain, bnd, a1, hold_rf a2, b1, hold_rf b2, dTruth, dApp, dats, dat, h4, dOut]; rfl, rfl⟩
/-! lists made by turns -/
theorem a_comp {α : Type} {di : Dn (List PyData)} {t : Tg} {tt : Dn Bool} {te : Dn Rv} {vs : List Nat} {e : List Sl} (emb : α → PyData) (p : α → Bool) (f : α → PyData) (xs : List α) (hi : di e = .ok (xs.map emb) e) (e1 : α → List Sl) (hr : restE e (wipeE e vs) vs = e)
    (h : ∀ x ∈ xs, tgD t (emb x) (wipeE e vs) = .ok () (e1 x) ∧ wipeE (e1 x) vs = wipeE e vs ∧ Te tt (e1 x) (p x) ∧ (p x = true → Af te (e1 x) (f x))) : Af (dComp di t tt te vs) e (.list ((xs.filter p).map f)) := by
  refine ⟨.nw (.l ((xs.filter p).map f)), ?_, rfl⟩
  simp only [dComp, bnd, hi]
  refine compE_pure emb p f xs rfl hr fun x hx => ?_
  obtain ⟨h1, h2, h3, h4⟩ := h x hx
  refine ⟨_, h1, h3, h2, fun hp => ?_⟩
  obtain ⟨r, h5, h6⟩ := h4 hp
  exact ⟨r, _, h5, _, cmt_rf h6, h2⟩
theorem a_map {α : Type} {di : Dn (List PyData)} {t : Tg} {te : Dn Rv} {vs : List Nat} {e : List Sl} (emb : α → PyData) (f : α → PyData) (xs : List α) (hi : di e = .ok (xs.map emb) e) (e1 : α → List Sl) (hr : restE e (wipeE e vs) vs = e)
    (h : ∀ x ∈ xs, tgD t (emb x) (wipeE e vs) = .ok () (e1 x) ∧ wipeE (e1 x) vs = wipeE e vs ∧ Af te (e1 x) (f x)) : Af (dComp di t dYes te vs) e (.list (xs.map f)) := by
  have := a_comp (tt := dYes) emb (fun _ => true) f xs hi e1 hr fun x hx => ⟨(h x hx).1, (h x hx).2.1, rfl, fun _ => (h x hx).2.2⟩
  rwa [List.filter_eq_self.2 (by simp)] at this
theorem it_eq {g : List PyData → Option (List PyData)} {ds : List (Dn Rv)} {e : List Sl} {xs ys : List PyData} (h : Afs ds e xs) (hg : g xs = some ys) : dIt g ds e = .ok ys e := by
  simp only [dIt, bnd, afs_cmt h, hg, dGiv, ret]
/-! statements -/
theorem w_fn {np nl : Nat} {b : Dn Fl} {xs : List PyData} {y : PyData} (h : W (b (xs.map .fz ++ List.replicate nl .un)) fun f e => e.take np = xs.map .fz ∧ ∃ r, f = .rt r ∧ (Rx [] r y ∨ ∃ i ys, r = .bor i ∧ np ≤ i ∧ e[i]? = some (.own (.l ys)) ∧ y = .list ys)) : Fn (fnD np nl b) xs y := by
  unfold W at h
  unfold Fn fnD
  cases hb : b (xs.map .fz ++ List.replicate nl .un) with
  | ok f e =>
    rw [hb] at h
    obtain ⟨h1, r, rfl, h2⟩ := h
    rcases h2 with h2 | ⟨i, ys, rfl, h2, h3, rfl⟩
    · cases r with
      | fz d => exact ⟨.fz d, by simp only [fnEnd, h1], h2⟩
      | nw c => exact ⟨.nw c, by simp only [fnEnd, h1], h2⟩
      | bor i => obtain ⟨xs, h, _⟩ := h2; simp at h
    · exact ⟨.nw (.l ys), by simp only [fnEnd, h1, h3, h2, if_true], rfl⟩
  | ex c e => rw [hb] at h; exact h.elim
  | bad => rw [hb] at h; exact h.elim
theorem w_ret {d : Dn Rv} {e : List Sl} {x : PyData} {Q : Fl → List Sl → Prop} (h : Af d e x) (q : ∀ r, Rx [] r x → Q (.rt r) e) : W (dRet d e) Q := by
  obtain ⟨r, h1, h2⟩ := h
  simp only [dRet, bnd, h1, ret, W]
  exact q r h2
theorem fn_ret {np nl : Nat} {d : Dn Rv} {xs : List PyData} {y : PyData} (hn : xs.length = np) (h : Af d (xs.map .fz ++ List.replicate nl .un) y) : Fn (fnD np nl (dRet d)) xs y :=
  w_fn (w_ret h fun r hr => ⟨by simp [← hn], r, rfl, .inl hr⟩)
theorem w_seq {a b : Dn Fl} {e : List Sl} {Q : Fl → List Sl → Prop} (h : W (a e) fun f e' => (f = .nx → W (b e') Q) ∧ ∀ r, f = .rt r → Q (.rt r) e') : W (dSeq a b e) Q := by
  unfold W at h
  cases ha : a e with
  | ok f e' =>
    rw [ha] at h
    cases f with
    | nx => simp only [dSeq, bnd, ha]; exact h.1 rfl
    | rt r => simp only [dSeq, bnd, ha, ret]; exact h.2 r rfl
  | ex c e' => rw [ha] at h; exact h.elim
  | bad => rw [ha] at h; exact h.elim
/-- a statement that goes on -/
theorem w_then {a b : Dn Fl} {e e1 : List Sl} {Q : Fl → List Sl → Prop} (h : a e = .ok .nx e1) (h2 : W (b e1) Q) : W (dSeq a b e) Q := by
  simp only [dSeq, bnd, h]; exact h2
theorem s_setF' {i : Nat} {d : Dn Rv} {e : List Sl} {x : PyData} (h : Af d e x) : dSetF i d e = .ok .nx (e.set i (.fz x)) := by
  obtain ⟨r, h1, h2⟩ := h
  simp only [dSetF, bnd, h1, cmt_rf h2]
theorem s_setT' {t : Tg} {d : Dn Rv} {e e1 : List Sl} {x : PyData} (h : Af d e x) (h2 : tgD t x e = .ok () e1) : dSetT t d e = .ok .nx e1 := by
  obtain ⟨r, h1, h3⟩ := h
  simp only [dSetT, bnd, h1, cmt_rf h3, h2, ret]
theorem s_setL {i : Nat} {ds : List (Dn Rv)} {e : List Sl} {xs : List PyData} (h : Afs ds e xs) : dSet i (dLst ds) e = .ok .nx (e.set i (.own (.l xs))) := by
  simp only [dSet, bnd, dLst, afs_cmt h, ret, stow]
theorem s_setB {i : Nat} {g : List PyData → Option Out} {ds : List (Dn Rv)} {e : List Sl} {xs ys : List PyData} (h : As ds e xs) (hg : g xs = some (.nl ys)) : dSet i (dB g ds) e = .ok .nx (e.set i (.own (.l ys))) := by
  obtain ⟨rs, h1, h2⟩ := as_eq h
  simp only [dSet, bnd, dB, h1, dApp, h2, hg, dOut, stow]
theorem s_expr' {d : Dn Rv} {e : List Sl} {x : PyData} (h : Af d e x) : dExpr d e = .ok .nx e := by
  obtain ⟨r, h1, h2⟩ := h
  simp only [dExpr, bnd, h1, ret]
theorem s_app {i : Nat} {d : Dn Rv} {e : List Sl} {x : PyData} {xs : List PyData} (hi : e[i]? = some (.own (.l xs))) (hl : xs.length < 100000) (h : Af d e x) : dAppend i d e = .ok .nx (e.set i (.own (.l (xs ++ [x])))) := by
  obtain ⟨r, h1, h2⟩ := h
  simp only [dAppend, onL, hi, dAppend1, bnd, h1, cmt_rf h2, putL, hl, if_true]
theorem s_if_skip {t : Dn Bool} {a : Dn Fl} {e : List Sl} (h : Te t e false) : dIfS t a dNext e = .ok .nx e := by
  unfold Te at h; simp only [dIfS, bnd, h]; rfl
theorem w_if {t : Dn Bool} {a b : Dn Fl} {e : List Sl} {c : Bool} {Q : Fl → List Sl → Prop} (h : Te t e c) (h1 : c = true → W (a e) Q) (h2 : c = false → W (b e) Q) : W (dIfS t a b e) Q := by
  unfold Te at h
  cases c with
  | true => simp only [dIfS, bnd, h, if_true]; exact h1 rfl
  | false => simp only [dIfS, bnd, h]; exact h2 rfl
theorem w_ok {α : Type} {m : Res α} {e : List Sl} {a : α} {Q : α → List Sl → Prop} (h : m = .ok a e) (q : Q a e) : W m Q := by rw [h]; exact q
theorem w_next {e : List Sl} {Q : Fl → List Sl → Prop} (q : Q .nx e) : W (dNext e) Q := q
theorem W.mono {α : Type} {m : Res α} {Q Q' : α → List Sl → Prop} (h : W m Q) (q : ∀ a e, Q a e → Q' a e) : W m Q' := by
  cases m with
  | ok a e => exact q _ _ h
  | ex c e => exact h
  | bad => exact h
/-- a loop that goes on through all turns -/
theorem w_for {α σ : Type} {d : Dn (List PyData)} {t : Tg} {body : Dn Fl} {e : List Sl} {Q : Fl → List Sl → Prop} (emb : α → PyData) (I : σ → List Sl → Prop) (step : σ → α → σ) (xs : List α) (s : σ) (hd : d e = .ok (xs.map emb) e) (h : I s e)
    (hs : ∀ s x e, x ∈ xs → I s e → ∃ e1, tgD t (emb x) e = .ok () e1 ∧ W (body e1) fun f e2 => f = .nx ∧ I (step s x) e2) (q : ∀ e', I (xs.foldl step s) e' → Q .nx e') : W (dFor d t body e) Q := by
  obtain ⟨e', h1, h2⟩ := forL_fold (t := t) (body := body) emb I step xs s e h fun s x e hx hi => by
    obtain ⟨e1, h1, h2⟩ := hs s x e hx hi
    refine ⟨e1, h1, ?_⟩
    cases hb : body e1 with
    | ok f e2 => rw [hb] at h2; obtain ⟨rfl, h3⟩ := h2; exact ⟨e2, rfl, h3⟩
    | ex c e => rw [hb] at h2; exact h2.elim
    | bad => rw [hb] at h2; exact h2.elim
  simp only [dFor, bnd, hd, h1]
  exact q e' h2
/-- a loop that may end early: `stop x` is what the turn at `x` says -/
theorem w_forB {α : Type} {d : Dn (List PyData)} {t : Tg} {body : Dn Fl} {e : List Sl} {Q : Fl → List Sl → Prop} (emb : α → PyData) (I : List Sl → Prop) (xs : List α) (hd : d e = .ok (xs.map emb) e) (h : I e)
    (hs : ∀ x e, x ∈ xs → I e → ∃ e1, tgD t (emb x) e = .ok () e1 ∧ W (body e1) fun f e2 => I e2 ∧ ∀ r, f = .rt r → Q (.rt r) e2) (q : ∀ e', I e' → Q .nx e') : W (dFor d t body e) Q := by
  simp only [dFor, bnd, hd]
  clear hd
  induction xs generalizing e with
  | nil => exact q e h
  | cons x xs ih =>
    obtain ⟨e1, h1, h2⟩ := hs x e (List.mem_cons_self ..) h
    simp only [List.map_cons, forL, bnd, h1]
    cases hb : body e1 with
    | ok f e2 =>
      rw [hb] at h2
      cases f with
      | nx => exact ih h2.1 fun y e hy hi => hs y e (List.mem_cons_of_mem _ hy) hi
      | rt r => exact h2.2 r rfl
    | ex c e => rw [hb] at h2; exact h2.elim
    | bad => rw [hb] at h2; exact h2.elim
end DL

/-! M2: bids and rooms. -/
namespace DL
open PySem PySem.Spec PyProof.Rows L2
def nI (n : Nat) : PyData := .int (n : Int)
theorem rng1 {n : Nat} (h : n ≤ 1000000) : gRng1 [.int (n : Int)] = some ((List.range n).map nI) := by
  have : -1000000 ≤ (n : Int) ∧ (n : Int) ≤ 1000000 := by omega
  simp only [gRng1, this, and_self, if_true, rangeL, Int.toNat_natCast]
  simp [nI]
theorem i_rng1 {n : Nat} (h : n ≤ 1000000) {d : Dn Rv} {e : List Sl} (hd : Af d e (.int (n : Int))) : dIt gRng1 [d] e = .ok ((List.range n).map nI) e := it_eq (.cons hd .nil) (rng1 h)
theorem i_seqT {xs : List PyData} {d : Dn Rv} {e : List Sl} (hd : Af d e (.tuple xs)) : dIt gSeq [d] e = .ok xs e := it_eq (.cons hd .nil) rfl
theorem i_seqL {xs : List PyData} {d : Dn Rv} {e : List Sl} (hd : Af d e (.list xs)) : dIt gSeq [d] e = .ok xs e := it_eq (.cons hd .nil) rfl
theorem gIxT {xs : List PyData} {i : Nat} {d : PyData} (h : xs[i]? = some d) : gIx [.tuple xs, .int (i : Int)] = some (.fz d) := by simp only [gIx, atI_nat, h, Option.map_some]
theorem gIxL {xs : List PyData} {i : Nat} {d : PyData} (h : xs[i]? = some d) : gIx [.list xs, .int (i : Int)] = some (.fz d) := by simp only [gIx, atI_nat, h, Option.map_some]
theorem gLenT (xs : List PyData) : gLen [.tuple xs] = some (.fz (nI xs.length)) := rfl
theorem gLenL (xs : List PyData) : gLen [.list xs] = some (.fz (nI xs.length)) := rfl
theorem gEqI (a b : Int) : gEq [.int a, .int b] = some (.fz (.bool (decide (a = b)))) := by
  simp [gEq, okD, PyData.eqv]; rfl
theorem gNeI (a b : Int) : gNe [.int a, .int b] = some (.fz (.bool (!decide (a = b)))) := by
  simp [gNe, okD, PyData.eqv]; rfl
theorem is_integer_fn (v lo hi : Int) : Fn F_is_integer [.int v, .int lo, .int hi] (.bool (decide (lo ≤ v) && decide (v ≤ hi))) := by
  have := fn_ret (np := 3) (nl := 0) (xs := [.int v, .int lo, .int hi]) (d := _) rfl (a_and (x := true) (y := true && (decide (lo ≤ v) && decide (v ≤ hi))) (a_B1 (g := gIsi "int") (x := .int v) (a_var (i := 0) rfl).a rfl).a fun _ =>
    (a_and (a_not (x := false) (a_B1 (g := gIsi "bool") (x := .int v) (a_var (i := 0) rfl).a rfl).a).a fun _ => a_chain (g := gLe) (g' := gLe) (a_var (i := 1) rfl) (a_var (i := 0) rfl) (a_var (i := 2) rfl) rfl rfl))
  exact this
def inside (s : Nat) : List Nat := (List.range 3).filter fun t => decide (s / 2 ^ t % 2 = 1)
theorem a_power {t i : Nat} (h : t < 3) {e : List Sl} (hv : e[i]? = some (.fz (nI t))) : Af (dB gDiv [(dB gIx [(dC (.tuple [(.int 2), (.int 4), (.int 8)])), (dVar i)]), (dC (.int 2))]) e (nI (2 ^ t)) := by
  have : t = 0 ∨ t = 1 ∨ t = 2 := by omega
  rcases this with rfl | rfl | rfl
  · exact a_B2 (a_B2 a_c.a (a_var hv).a rfl).a a_c.a rfl
  · exact a_B2 (a_B2 a_c.a (a_var hv).a rfl).a a_c.a rfl
  · exact a_B2 (a_B2 a_c.a (a_var hv).a rfl).a a_c.a rfl
theorem gDivN {a b : Nat} (h : 0 < b) (h2 : b < 1073741824) : gDiv [nI a, nI b] = some (.fz (nI (a / b))) := by
  have : (decide (0 < (b : Int)) && decide ((b : Int) < 1073741824)) = true := by simp; omega
  simp only [gDiv, gI2, nI, this, if_true]; rfl
theorem gModN {a b : Nat} (h : 0 < b) : gMod [nI a, nI b] = some (.fz (nI (a % b))) := by
  have : (decide (0 < (b : Int))) = true := by simp; omega
  simp only [gMod, gI2, nI, this, if_true]; rfl
theorem things_in_fn (s : Nat) : Fn F_things_in [nI s] (.list ((inside s).map nI)) := by
  refine fn_ret rfl (a_comp nI (fun t => decide (s / 2 ^ t % 2 = 1)) nI (List.range 3) (i_rng1 (by decide) a_c) (fun t => [.fz (nI s), .fz (nI t)]) rfl fun t ht => ⟨rfl, rfl, ?_, fun _ => a_var rfl⟩)
  have ht : t < 3 := List.mem_range.1 ht
  have hp : 2 ^ t < 1073741824 := by have : t = 0 ∨ t = 1 ∨ t = 2 := by omega
                                     rcases this with rfl | rfl | rfl <;> decide
  have := t_truth (a_B2 (g := gEq) (a_B2 (g := gMod) (a_B2 (g := gDiv) (e := [.fz (nI s), .fz (nI t)]) (a_var (i := 0) rfl).a (a_power (i := 1) ht rfl).a (gDivN (Nat.two_pow_pos t) hp)).a (a_c (x := nI 2)).a (gModN (by decide))).a (a_c (x := nI 1)).a (gEqI _ _)).a
  have e : decide (((s / 2 ^ t % 2 : Nat) : Int) = ((1 : Nat) : Int)) = decide (s / 2 ^ t % 2 = 1) := by rw [decide_eq_decide]; omega
  rw [e] at this
  exact this
/-! bids and rooms -/
structure Bid (m : Nat) (b : List Int) : Prop where
  len : b.length = 2 ^ m
  bd : ∀ x ∈ b, 0 ≤ x ∧ x ≤ 9
  zero : b[0]? = some 0
  rise : ∀ (s t : Nat) (x y : Int), t < m → s / 2 ^ t % 2 = 0 → b[s]? = some x → b[s + 2 ^ t]? = some y → x ≤ y
structure Rm (m : Nat) (R : List (List Int)) : Prop where
  m1 : 1 ≤ m
  m3 : m ≤ 3
  n1 : 1 ≤ R.length
  n4 : R.length ≤ 4
  bid : ∀ b ∈ R, Bid m b
def rmD (R : List (List Int)) : PyData := .tuple (R.map tupI)
theorem w_forU {α : Type} {d : Dn (List PyData)} {t : Tg} {body : Dn Fl} {e : List Sl} {Q : Fl → List Sl → Prop} (emb : α → PyData) (I : List Sl → Prop) (xs : List α) (hd : d e = .ok (xs.map emb) e) (h : I e)
    (hs : ∀ x e, x ∈ xs → I e → ∃ e1, tgD t (emb x) e = .ok () e1 ∧ W (body e1) fun f e2 => f = .nx ∧ I e2) (q : ∀ e', I e' → Q .nx e') : W (dFor d t body e) Q :=
  w_for (σ := Unit) emb (fun _ => I) (fun s _ => s) xs () hd h (fun _ x e hx hi => hs x e hx hi) q
theorem gNotInI {t : Nat} {ts : List Nat} : gNotIn [nI t, .list (ts.map nI)] = some (.fz (.bool (decide (t ∉ ts)))) := by
  have h1 : (ts.map nI).all (okD 7) = true := by simp [nI, okD]
  have h2 : ((ts.map nI).any fun z => PyData.eqv z (nI t)) = decide (t ∈ ts) := by
    induction ts with
    | nil => rfl
    | cons a ts ih => simp [nI, PyData.eqv] at ih ⊢; rw [ih (by simp [nI, okD])]; grind
  simp only [gNotIn, gInG]
  rw [if_pos ⟨rfl, h1⟩, h2]
  simp [inB]
theorem gLtN {a b : Nat} : gLt [nI a, nI b] = some (.fz (.bool (decide (a < b)))) := by
  have : decide ((a : Int) < (b : Int)) = decide (a < b) := by rw [decide_eq_decide]; omega
  simp only [gLt, gI2, nI, if_true, this]
theorem gAddN {a b : Nat} : gAdd [nI a, nI b] = some (.fz (nI (a + b))) := rfl
theorem gGtI {a b : Int} : gGt [.int a, .int b] = some (.fz (.bool (decide (b < a)))) := rfl
theorem mem_inside {s t : Nat} (h : t < 3) : t ∈ inside s ↔ s / 2 ^ t % 2 = 1 := by simp [inside, h]
theorem t_andF {t u : Dn Bool} {e : List Sl} (h : Te t e false) : Te (dAndT t u) e false := by
  unfold Te at *; simp only [dAndT, bnd, h]; rfl
theorem t_orT {t u : Dn Bool} {e : List Sl} (h : Te t e true) : Te (dOrT t u) e true := by
  unfold Te at *; simp only [dOrT, bnd, h, if_true]; rfl
theorem rises_fn {m : Nat} {b : List Int} (hm : m ≤ 3) (h : Bid m b) : Fn F_rises [tupI b] (.bool true) := by
  have h8 : b.length ≤ 8 := by rw [h.len]; exact Nat.pow_le_pow_right (by decide) hm
  refine w_fn (w_seq (w_forU nI (fun e => ∃ a b' c, e = [.fz (tupI b), a, b', c]) (List.range b.length) ?_ ⟨_, _, _, rfl⟩ ?_ ?_))
  · exact i_rng1 (by omega) (a_B1 (a_var (i := 0) rfl).a (by rw [tupI, gLenT, List.length_map]; rfl))
  · rintro s _ hs ⟨x, y, z, rfl⟩
    refine ⟨_, rfl, w_forU nI (fun e => ∃ b' c, e = [.fz (tupI b), .fz (nI s), b', c]) (List.range 3) ?_ ⟨_, _, rfl⟩ ?_ ?_⟩
    · exact i_rng1 (by decide) a_c
    · rintro t _ ht ⟨y, z, rfl⟩
      have ht := List.mem_range.1 ht
      have hs := List.mem_range.1 hs
      refine ⟨_, rfl, ?_⟩
      refine w_then (s_setF' (a_power (i := 2) ht rfl)) ?_
      have T1 : Te (dTruth (dB gLt [(dVar 3), (dB gLen [(dVar 0)])])) [.fz (tupI b), .fz (nI s), .fz (nI t), .fz (nI (2 ^ t))] (decide (2 ^ t < b.length)) := t_truth (a_B2 (a_var (i := 3) rfl).a (a_B1 (a_var (i := 0) rfl).a (gLenT _)).a (by rw [List.length_map]; exact gLtN)).a
      have T2 : Te (dTruth (dB gNotIn [(dVar 2), (dCall F_things_in [(dVar 1)])])) [.fz (tupI b), .fz (nI s), .fz (nI t), .fz (nI (2 ^ t))] (decide (t ∉ inside s)) := t_truth (a_B2 (a_var (i := 2) rfl).a (a_call (.cons (a_var (i := 1) rfl) .nil) (things_in_fn s)).a gNotInI).a
      refine w_if (c := false) ?_ (fun h => by cases h) (fun _ => w_next ⟨rfl, _, _, rfl⟩)
      by_cases c1 : 2 ^ t < b.length
      · by_cases c2 : t ∈ inside s
        · rw [decide_eq_true c1] at T1
          rw [decide_eq_false (not_not_intro c2)] at T2
          exact t_and T1 fun _ => t_andF T2
        · have htm : t < m := by
            rw [h.len] at c1
            exact (Nat.pow_lt_pow_iff_right (by decide)).1 c1
          have hz : s / 2 ^ t % 2 = 0 := by rw [mem_inside ht] at c2; omega
          have hlt : s + 2 ^ t < b.length := by
            rw [h.len] at hs ⊢
            have q1 : t = 0 ∨ t = 1 ∨ t = 2 := by omega
            have q2 : m = 1 ∨ m = 2 ∨ m = 3 := by omega
            clear T1 T2 h c1 h8 c2
            rcases q1 with rfl | rfl | rfl <;> rcases q2 with rfl | rfl | rfl <;> simp at hs hz htm ⊢ <;> omega
          obtain ⟨x, hx⟩ : ∃ x, b[s]? = some x := ⟨b[s], List.getElem?_eq_getElem hs⟩
          obtain ⟨y, hy⟩ : ∃ y, b[s + 2 ^ t]? = some y := ⟨b[s + 2 ^ t], List.getElem?_eq_getElem hlt⟩
          have hxy := h.rise s t x y htm hz hx hy
          have T3 : Te (dTruth (dB gGt [(dB gIx [(dVar 0), (dVar 1)]), (dB gIx [(dVar 0), (dB gAdd [(dVar 1), (dVar 3)])])])) [.fz (tupI b), .fz (nI s), .fz (nI t), .fz (nI (2 ^ t))] (decide (y < x)) :=
            t_truth (a_B2 (a_B2 (a_var (i := 0) rfl).a (a_var (i := 1) rfl).a (gIxT (d := .int x) (by rw [List.getElem?_map, hx]; rfl))).a (a_B2 (a_var (i := 0) rfl).a (a_B2 (a_var (i := 1) rfl).a (a_var (i := 3) rfl).a gAddN).a (gIxT (d := .int y) (by rw [List.getElem?_map, hy]; rfl))).a gGtI).a
          rw [decide_eq_false (Int.not_lt.2 hxy)] at T3
          rw [decide_eq_true c1] at T1
          rw [decide_eq_true c2] at T2
          exact t_and T1 fun _ => t_and T2 fun _ => T3
      · rw [decide_eq_false c1] at T1
        exact t_andF T1
    · rintro _ ⟨_, _, rfl⟩
      exact ⟨rfl, _, _, _, rfl⟩
  · rintro _ ⟨x, y, z, rfl⟩
    exact ⟨fun _ => w_ret a_c fun r hr => ⟨rfl, r, rfl, .inl hr⟩, fun r hr => by cases hr⟩
theorem gAllL (bs : List Bool) : gAll [.list (bs.map .bool)] = some (.fz (.bool (bs.all id))) := by simp only [gAll, boolsOf_map, Option.map_some]
theorem bids_for_fn {m : Nat} {b : List Int} (hm : m ≤ 3) (h : Bid m b) (k : Nat) (hk : k ≤ 3) : Fn F_bids_for [tupI b, nI (2 ^ k)] (.bool (decide (m = k))) := by
  refine w_fn ?_
  have T1 : Te (dNotT (dTruth (dB (gIsi "tuple") [(dVar 0)]))) [.fz (tupI b), .fz (nI (2 ^ k)), .un] false := t_not (b := true) (t_truth (a_B1 (a_var (i := 0) rfl).a rfl).a)
  have T2 : Te (dTruth (dB gNe [(dB gLen [(dVar 0)]), (dVar 1)])) [.fz (tupI b), .fz (nI (2 ^ k)), .un] (!decide (m = k)) := by
    have := t_truth (a_B2 (g := gNe) (e := [.fz (tupI b), .fz (nI (2 ^ k)), .un]) (a_B1 (a_var (i := 0) rfl).a (gLenT _)).a (a_var (i := 1) rfl).a (by rw [List.length_map, h.len]; exact gNeI _ _)).a
    have e : decide (((2 ^ m : Nat) : Int) = ((2 ^ k : Nat) : Int)) = decide (m = k) := by
      rw [decide_eq_decide, Int.natCast_inj]
      exact ⟨fun h => (Nat.pow_right_inj (a := 2) (by decide)).1 h, fun h => by rw [h]⟩
    rwa [e] at this
  have T3 : Te (dNotT (dTruth (dB gAll [(dComp (dIt gSeq [(dVar 0)]) (.nm 2) dYes (dCall F_is_integer [(dVar 2), (dC (.int 0)), (dC (.int 9))]) [2])]))) [.fz (tupI b), .fz (nI (2 ^ k)), .un] false := by
    have a1 := a_map (t := .nm 2) (vs := [2]) (di := dIt gSeq [(dVar 0)]) (te := dCall F_is_integer [(dVar 2), (dC (.int 0)), (dC (.int 9))]) (e := [.fz (tupI b), .fz (nI (2 ^ k)), .un]) PyData.int (fun v => .bool (decide (0 ≤ v) && decide (v ≤ 9))) b (i_seqT (a_var rfl)) (fun v => [.fz (tupI b), .fz (nI (2 ^ k)), .fz (.int v)]) rfl fun v hv => ⟨rfl, rfl, a_call (.cons (a_var rfl) (.cons a_c (.cons a_c .nil))) (is_integer_fn v 0 9)⟩
    have a2 := a_B1 (g := gAll) a1.a (by have := gAllL (b.map fun v => decide (0 ≤ v) && decide (v ≤ 9)); rwa [List.map_map] at this)
    have a3 : (b.map fun v => decide (0 ≤ v) && decide (v ≤ 9)).all id = true := by
      rw [List.all_map, List.all_eq_true]
      intro v hv
      have := h.bd v hv
      simp; omega
    rw [a3] at a2
    exact t_not (b := true) (t_truth a2.a)
  have T := t_or T1 fun _ => t_or T2 fun _ => T3
  by_cases c : m = k
  · subst c
    simp at T
    refine w_seq (w_ok (s_if_skip T) ⟨fun _ => ?_, fun r hr => by cases hr⟩)
    have z : (b.map PyData.int)[0]? = some (.int 0) := by rw [List.getElem?_map, h.zero]; rfl
    have := a_and (e := [.fz (tupI b), .fz (nI (2 ^ m)), .un]) (x := true) (a_B2 (g := gEq) (a_B2 (g := gIx) (a_var (i := 0) rfl).a (a_c (x := nI 0)).a (gIxT z)).a (a_c (x := .int 0)).a (gEqI 0 0)).a fun _ => a_call (.cons (a_var (i := 0) rfl) .nil) (rises_fn hm h)
    refine w_ret this fun r hr => ⟨rfl, r, rfl, .inl ?_⟩
    simpa using hr
  · simp [c] at T
    refine w_seq (w_if T (fun _ => w_ret a_c fun r hr => ⟨(fun h => by cases h), (fun r' e' => ?_)⟩) fun h => by cases h)
    cases e'
    exact ⟨rfl, r, rfl, .inl (by simpa [c] using hr)⟩
end DL

/-! M3: rooms, allotments, best totals. -/
namespace DL
open PySem PySem.Spec PyProof.Rows L2
theorem w_forHit {α : Type} {d : Dn (List PyData)} {t : Tg} {body : Dn Fl} {e : List Sl} {Q : Fl → List Sl → Prop} (emb : α → PyData) (I : List Sl → Prop) (pre : List α) (x : α) (post : List α) (hd : d e = .ok ((pre ++ x :: post).map emb) e) (h : I e)
    (hs : ∀ y e, y ∈ pre → I e → ∃ e1, tgD t (emb y) e = .ok () e1 ∧ W (body e1) fun f e2 => f = .nx ∧ I e2) (hx : ∀ e, I e → ∃ e1, tgD t (emb x) e = .ok () e1 ∧ W (body e1) fun f e2 => ∃ r, f = .rt r ∧ Q (.rt r) e2) : W (dFor d t body e) Q := by
  simp only [dFor, bnd, hd]
  clear hd
  induction pre generalizing e with
  | nil =>
    obtain ⟨e1, h1, h2⟩ := hx e h
    simp only [List.nil_append, List.map_cons, forL, bnd, h1]
    cases hb : body e1 with
    | ok f e2 => rw [hb] at h2; obtain ⟨r, rfl, h3⟩ := h2; exact h3
    | ex c e => rw [hb] at h2; exact h2.elim
    | bad => rw [hb] at h2; exact h2.elim
  | cons y pre ih =>
    obtain ⟨e1, h1, h2⟩ := hs y e (List.mem_cons_self ..) h
    simp only [List.cons_append, List.map_cons, forL, bnd, h1]
    cases hb : body e1 with
    | ok f e2 => rw [hb] at h2; obtain ⟨rfl, h3⟩ := h2; exact ih h3 fun z e hz hi => hs z e (List.mem_cons_of_mem _ hz) hi
    | ex c e => rw [hb] at h2; exact h2.elim
    | bad => rw [hb] at h2; exact h2.elim
theorem is_room_fn {m : Nat} {R : List (List Int)} (h : Rm m R) : Fn F_is_room [rmD R] (.bool true) := by
  refine w_fn ?_
  have hn1 := h.n1
  have hn4 := h.n4
  have C : (decide ((1 : Int) ≤ ((R.map tupI).length : Nat)) && decide ((((R.map tupI).length : Nat) : Int) ≤ 4)) = true := by simp; omega
  have T1 := t_or (e := [.fz (rmD R), .un, .un]) (t_not (b := true) (t_truth (a_B1 (g := gIsi "tuple") (x := rmD R) (z := .bool true) (a_var (i := 0) rfl).a rfl).a)) fun _ => t_not (t_truth (a_chain (g := gLe) (g' := gLe) (a_c (x := .int 1)) (a_B1 (g := gLen) (a_var (i := 0) rfl).a (gLenT _)) (a_c (x := .int 4)) rfl rfl).a)
  rw [C] at T1
  refine w_seq (w_ok (s_if_skip T1) ⟨fun _ => ?_, fun r hr => by cases hr⟩)
  have turn : ∀ (k : Nat), k ≤ 3 → ∀ x : Sl, Te (dTruth (dB gAll [(dComp (dIt gSeq [(dVar 0)]) (.nm 2) dYes (dCall F_bids_for [(dVar 2), (dVar 1)]) [2])])) [.fz (rmD R), .fz (nI (2 ^ k)), .un] (decide (m = k)) := by
    intro k hk x
    have a1 := a_map (t := .nm 2) (vs := [2]) (di := dIt gSeq [(dVar 0)]) (te := dCall F_bids_for [(dVar 2), (dVar 1)]) (e := [.fz (rmD R), .fz (nI (2 ^ k)), .un]) tupI (fun _ => .bool (decide (m = k))) R (i_seqT (a_var rfl)) (fun v => [.fz (rmD R), .fz (nI (2 ^ k)), .fz (tupI v)]) rfl fun v hv => ⟨rfl, rfl, a_call (.cons (a_var rfl) (.cons (a_var rfl) .nil)) (bids_for_fn h.m3 (h.bid v hv) k hk)⟩
    have a2 := a_B1 (g := gAll) a1.a (by have := gAllL (R.map fun _ => decide (m = k)); rwa [List.map_map] at this)
    have a3 : (R.map fun _ => decide (m = k)).all id = decide (m = k) := by
      cases R with
      | nil => simp at hn1
      | cons b R => simp only [List.map_cons, List.all_cons, id]; by_cases c : m = k <;> simp [c]
    rw [a3] at a2
    exact t_truth a2.a
  have m1 := h.m1
  have m3 := h.m3
  obtain ⟨pre, post, hs⟩ : ∃ pre post : List Nat, [1, 2, 3] = pre ++ m :: post := by
    have : m = 1 ∨ m = 2 ∨ m = 3 := by omega
    rcases this with rfl | rfl | rfl
    · exact ⟨[], [2, 3], rfl⟩
    · exact ⟨[1], [3], rfl⟩
    · exact ⟨[1, 2], [], rfl⟩
  have hp : ∀ y ∈ pre, y ≠ m ∧ y ≤ 3 := by
    intro y hy
    have hnd : (pre ++ m :: post).Nodup := by rw [← hs]; decide
    have hy' : y ∈ ([1, 2, 3] : List Nat) := by rw [hs]; simp [hy]
    refine ⟨fun e => ?_, by simp at hy'; omega⟩
    subst e
    rw [List.nodup_append] at hnd
    exact hnd.2.2 y hy y (List.mem_cons_self ..) rfl
  have tr : ∀ k x y, tgD (.nm 1) (nI (2 ^ k)) [.fz (rmD R), x, y] = .ok () [.fz (rmD R), .fz (nI (2 ^ k)), y] := fun _ _ _ => rfl
  refine w_seq (w_forHit (fun k : Nat => nI (2 ^ k)) (fun e => ∃ a, e = [.fz (rmD R), a, .un]) pre m post ?_ ⟨_, rfl⟩ ?_ ?_)
  · rw [← hs]; exact i_seqT a_c
  · rintro y _ hy ⟨x, rfl⟩
    refine ⟨_, rfl, w_ok (s_if_skip ?_) ⟨rfl, _, rfl⟩⟩
    have := turn y (hp y hy).2 x
    rwa [decide_eq_false (fun e => (hp y hy).1 e.symm)] at this
  · rintro _ ⟨x, rfl⟩
    have := turn m m3 x
    rw [decide_eq_true rfl] at this
    refine ⟨_, rfl, w_if this (fun _ => w_ret a_c fun r hr => ⟨r, rfl, (fun h => by cases h), fun r' e' => ?_⟩) fun h => by cases h⟩
    cases e'
    exact ⟨rfl, r, rfl, .inl hr⟩
theorem s_check_room {m : Nat} {R : List (List Int)} (h : Rm m R) {e : List Sl} {i : Nat} (hi : e[i]? = some (.fz (rmD R))) : dExpr (dCall F_check_room [(dVar i)]) e = .ok .nx e := by
  have : F_check_room [.fz (rmD R)] = .ok (.fz .none) [.fz (rmD R)] := by
    have := s_if_skip (a := dRaise "InvalidRoom") (e := [.fz (rmD R)]) (t_not (b := true) (t_truth (a_call (.cons (a_var (i := 0) rfl) .nil) (is_room_fn h)).a))
    simp only [F_check_room, fnD, B_check_room, List.replicate, List.append_nil, this]
    rfl
  exact s_expr' (a_call (xs := [rmD R]) (.cons (a_var hi) .nil) ⟨_, this, rfl⟩)
/-! allotments -/
def bump (p : Int) (a : List Int) (i : Nat) : List Int := a.take i ++ [a.getD i 0 + p] ++ a.drop (i + 1)
def grow (g : List Nat) (p : Int) (S : List (List Int)) : List (List Int) := S ++ S.flatMap fun a => g.map (bump p a)
def allot (n m : Nat) (g : List Nat) : List (List Int) := (List.range m).foldl (fun S k => grow g (2 ^ k) S) [List.replicate n 0]
end DL

/-! M4: allotments, totals, best totals. -/
namespace DL
open PySem PySem.Spec PyProof.Rows L2
theorem w_forI {α : Type} {d : Dn (List PyData)} {t : Tg} {body : Dn Fl} {e : List Sl} {Q : Fl → List Sl → Prop} (emb : α → PyData) (I : List α → List Sl → Prop) (xs : List α) (hd : d e = .ok (xs.map emb) e) (h : I [] e)
    (hs : ∀ done x rest e, xs = done ++ x :: rest → I done e → ∃ e1, tgD t (emb x) e = .ok () e1 ∧ W (body e1) fun f e2 => f = .nx ∧ I (done ++ [x]) e2) (q : ∀ e', I xs e' → Q .nx e') : W (dFor d t body e) Q := by
  simp only [dFor, bnd, hd]
  have key : ∀ (rest done : List α) (e : List Sl), xs = done ++ rest → I done e → W (forL t body (rest.map emb) e) fun f e' => f = .nx ∧ I xs e' := by
    intro rest
    induction rest with
    | nil => intro done e hx hi; rw [List.append_nil] at hx; exact ⟨rfl, hx ▸ hi⟩
    | cons x rest ih =>
      intro done e hx hi
      obtain ⟨e1, h1, h2⟩ := hs done x rest e hx hi
      simp only [List.map_cons, forL, bnd, h1]
      cases hb : body e1 with
      | ok f e2 =>
        rw [hb] at h2
        obtain ⟨rfl, h3⟩ := h2
        exact ih (done ++ [x]) e2 (by rw [hx]; simp) h3
      | ex c e => rw [hb] at h2; exact h2.elim
      | bad => rw [hb] at h2; exact h2.elim
  exact (key xs [] e rfl h).mono fun f e' h => h.1 ▸ q e' h.2
theorem gHiT (a : List PyData) (i : Nat) (h : i ≤ a.length) : gHi gCut [.tuple a, nI i] = some (.fz (.tuple (a.take i))) := by
  simp only [gHi, nI, gCut, cutD, HT.sIx_none, HT.sIx_nat]
  simp [Nat.min_eq_left h]
theorem gLoT (a : List PyData) (i : Nat) (h : i ≤ a.length) : gLo gCut [.tuple a, nI i] = some (.fz (.tuple (a.drop i))) := by
  simp only [gLo, nI, gCut, cutD, HT.sIx_none, HT.sIx_nat]
  rw [Nat.min_eq_left h, List.take_of_length_le (by simp)]
theorem gAddT {a b : List PyData} (h : a.length + b.length ≤ 100000) : gAdd [.tuple a, .tuple b] = some (.fz (.tuple (a ++ b))) := by simp only [gAdd, h, if_true]
theorem bump_len {p : Int} {a : List Int} {i : Nat} (h : i < a.length) : (bump p a i).length = a.length := by simp [bump]; omega
theorem grow_len (g : List Nat) (p : Int) (S : List (List Int)) : (grow g p S).length = S.length * (1 + g.length) := by
  simp [grow, List.length_flatMap]
  rw [Nat.mul_add, Nat.mul_one]
  congr 1
  induction S with
  | nil => simp
  | cons a S ih => simp [ih, Nat.succ_mul]; omega
def allotK (n : Nat) (g : List Nat) (k : Nat) : List (List Int) := (List.range k).foldl (fun S k => grow g (2 ^ k) S) [List.replicate n 0]
theorem allotK_succ (n : Nat) (g : List Nat) (k : Nat) : allotK n g (k + 1) = grow g (2 ^ k) (allotK n g k) := by simp [allotK, List.range_succ]
theorem allotK_len (n : Nat) (g : List Nat) (k : Nat) : (allotK n g k).length = (1 + g.length) ^ k := by
  induction k with
  | zero => rfl
  | succ k ih => rw [allotK_succ, grow_len, ih, Nat.pow_succ]
theorem allotK_row {n : Nat} {g : List Nat} (hg : ∀ i ∈ g, i < n) (k : Nat) : ∀ a ∈ allotK n g k, a.length = n := by
  induction k with
  | zero => intro a ha; simp [allotK] at ha; simp [ha]
  | succ k ih =>
    intro a ha
    rw [allotK_succ] at ha
    simp only [grow, List.mem_append, List.mem_flatMap, List.mem_map] at ha
    rcases ha with ha | ⟨b, hb, i, hi, rfl⟩
    · exact ih a ha
    · rw [bump_len (by rw [ih b hb]; exact hg i hi), ih b hb]
theorem flatMap_snoc {α β : Type} (f : α → List β) (xs : List α) (x : α) : (xs ++ [x]).flatMap f = xs.flatMap f ++ f x := by simp
theorem a_bump {a : List Int} {i : Nat} {p : Int} (hi : i < a.length) (ha : a.length ≤ 100) {e : List Sl} (h5 : e[5]? = some (.fz (tupI a))) (h6 : e[6]? = some (.fz (nI i))) (h3 : e[3]? = some (.fz (.int p))) :
    Af (dB gAdd [(dB gAdd [(dB (gHi gCut) [(dVar 5), (dVar 6)]), (dTup [(dB gAdd [(dB gIx [(dVar 5), (dVar 6)]), (dVar 3)])])]), (dB (gLo gCut) [(dVar 5), (dB gAdd [(dVar 6), (dC (.int 1))])])]) e (tupI (bump p a i)) := by
  have hx : (a.map PyData.int)[i]? = some (.int (a.getD i 0)) := by rw [List.getElem?_map, List.getElem?_eq_getElem hi]; simp [List.getD, hi]
  have e : tupI (bump p a i) = .tuple (((a.map PyData.int).take i ++ [.int (a.getD i 0 + p)]) ++ (a.map PyData.int).drop (i + 1)) := by simp [tupI, bump]
  rw [e]
  refine a_B2 (a_B2 (a_B2 (a_var h5).a (a_var h6).a (gHiT _ _ (by simp; omega))).a (a_tup (.cons (a_B2 (a_B2 (a_var h5).a (a_var h6).a (gIxT hx)).a (a_var h3).a rfl) .nil)).a (gAddT ?_)).a (a_B2 (a_var h5).a (a_B2 (a_var h6).a (a_c (x := nI 1)).a gAddN).a (gLoT _ _ (by simp; omega))).a (gAddT ?_)
  · simp; omega
  · simp; omega
theorem pow_bd {g m : Nat} (hg : g ≤ 4) (hm : m ≤ 3) : (1 + g) ^ m ≤ 125 := by
  have : (1 + g) ^ m ≤ 5 ^ 3 := Nat.le_trans (Nat.pow_le_pow_left (by omega) m) (Nat.pow_le_pow_right (by decide) hm)
  omega
theorem w_whileStop {t : Dn Bool} {body : Dn Fl} {n : Nat} {e : List Sl} {Q : Fl → List Sl → Prop} (h : Te t e false) (q : Q .nx e) : W (whileL t body (n + 1) e) Q := by
  unfold Te at h
  simp only [whileL, bnd, h]
  exact q
theorem w_whileGo {t : Dn Bool} {body : Dn Fl} {n : Nat} {e : List Sl} {Q : Fl → List Sl → Prop} (h : Te t e true) (q : W (body e) fun f e' => f = .nx ∧ W (whileL t body n e') Q) : W (whileL t body (n + 1) e) Q := by
  unfold Te at h
  simp only [whileL, bnd, h, if_true]
  cases hb : body e with
  | ok f e' => rw [hb] at q; obtain ⟨rfl, q⟩ := q; exact q
  | ex c e' => rw [hb] at q; exact q.elim
  | bad => rw [hb] at q; exact q.elim
theorem s_setFown {i j : Nat} {e : List Sl} {xs : List PyData} (h : e[j]? = some (.own (.l xs))) : dSetF i (dVar j) e = .ok .nx ((e.set j (.fz (.list xs))).set i (.fz (.list xs))) := by
  simp only [dSetF, bnd, dVar, h, cmt, cmtB]
theorem dSeq_nx {a b : Dn Fl} {e e1 : List Sl} (h : a e = .ok .nx e1) : dSeq a b e = b e1 := by simp only [dSeq, bnd, h]
theorem te_mul (k : Nat) : gMul [.int 2, nI (2 ^ k)] = some (.fz (nI (2 ^ (k + 1)))) := by
  have e : nI (2 ^ (k + 1)) = .int ((2 : Int) * ((2 ^ k : Nat) : Int)) := by simp [nI, Int.pow_succ, Int.mul_comm]
  rw [e]
  simp only [gMul, nI]
  rw [if_pos (by omega)]
theorem te_1 {x0 x1 x2 x5 x6 : Sl} {y : PyData} {xs : List PyData} : dSetF 2 (dVar 4) [x0, x1, x2, .fz y, .own (.l xs), x5, x6] = .ok .nx [x0, x1, .fz (.list xs), .fz y, .fz (.list xs), x5, x6] := rfl
theorem te_2 {x0 x1 x2 x4 x5 x6 : Sl} {k : Nat} : dSetF 3 (dB gMul [(dC (.int 2)), (dVar 3)]) [x0, x1, x2, .fz (nI (2 ^ k)), x4, x5, x6] = .ok .nx [x0, x1, x2, .fz (nI (2 ^ (k + 1))), x4, x5, x6] := s_setF' (i := 3)  (a_B2 (a_c (x := .int 2)).a (a_var (i := 3) rfl).a (te_mul k))
theorem w_turnEnd {x0 x1 x2 x5 x6 : Sl} {k : Nat} {xs : List PyData} : dSeq (dSetF 2 (dVar 4)) (dSetF 3 (dB gMul [(dC (.int 2)), (dVar 3)])) [x0, x1, x2, .fz (nI (2 ^ k)), .own (.l xs), x5, x6] = .ok .nx [x0, x1, .fz (.list xs), .fz (nI (2 ^ (k + 1))), .fz (.list xs), x5, x6] :=
  (dSeq_nx te_1).trans te_2
theorem allotments_fn {m : Nat} {R : List (List Int)} (h : Rm m R) {g : List Nat} (hg : ∀ i ∈ g, i < R.length) (hl : g.length ≤ 4) : Fn F_allotments [rmD R, .list (g.map nI)] (.list ((sortR (allotK R.length g m)).map tupI)) := by
  have hn1 := h.n1
  have hn4 := h.n4
  have hm3 := h.m3
  refine w_fn ?_
  refine w_then (e1 := [.fz (rmD R), .fz (.list (g.map nI)), .fz (.list ((allotK R.length g 0).map tupI)), .un, .un, .un, .un]) ?_ ?_
  · refine s_setF' (i := 2) (a_lst (.cons (a_B2 (a_tup (.cons a_c .nil)).a (a_B1 (a_var (i := 0) rfl).a (gLenT _)).a ?_) .nil))
    simp only [gMul, nI, List.length_map]
    rw [if_pos (by simp; omega)]
    simp [tupI, List.flatten_replicate_singleton]
  refine w_then (s_setF' (i := 3) a_c) ?_
  -- the loop over the powers
  have loop : ∀ (j k fuel : Nat), k + j = m → j < fuel → ∀ (x4 x5 x6 : Sl) (Q : Fl → List Sl → Prop), (∀ x4 x5 x6, Q .nx [.fz (rmD R), .fz (.list (g.map nI)), .fz (.list ((allotK R.length g m).map tupI)), .fz (nI (2 ^ m)), x4, x5, x6]) →
      W (whileL (dTruth (dB gLt [(dVar 3), (dB gLen [(dB gIx [(dVar 0), (dC (.int 0))])])])) (dSeq (dSet 4 (dB gList [(dVar 2)]))
  (dSeq (dFor (dIt gSeq [(dVar 2)]) (.nm 5) (dFor (dIt gSeq [(dVar 1)]) (.nm 6) (dAppend 4 (dB gAdd [(dB gAdd [(dB (gHi gCut) [(dVar 5), (dVar 6)]), (dTup [(dB gAdd [(dB gIx [(dVar 5), (dVar 6)]), (dVar 3)])])]), (dB (gLo gCut) [(dVar 5), (dB gAdd [(dVar 6), (dC (.int 1))])])]))))
  (dSeq (dSetF 2 (dVar 4))
  (dSetF 3 (dB gMul [(dC (.int 2)), (dVar 3)]))))) fuel [.fz (rmD R), .fz (.list (g.map nI)), .fz (.list ((allotK R.length g k).map tupI)), .fz (nI (2 ^ k)), x4, x5, x6]) Q := by
    have hR0 : ∃ b R', R = b :: R' := by
      cases R with
      | nil => simp at hn1
      | cons b R' => exact ⟨b, R', rfl⟩
    obtain ⟨b0, R', hR⟩ := hR0
    have hb0 : b0.length = 2 ^ m := (h.bid b0 (by rw [hR]; exact List.mem_cons_self ..)).len
    have test : ∀ k x2 x4 x5 x6, Te (dTruth (dB gLt [(dVar 3), (dB gLen [(dB gIx [(dVar 0), (dC (.int 0))])])])) [.fz (rmD R), .fz (.list (g.map nI)), x2, .fz (nI (2 ^ k)), x4, x5, x6] (decide (k < m)) := by
      intro k x2 x4 x5 x6
      have := t_truth (a_B2 (g := gLt) (e := [.fz (rmD R), .fz (.list (g.map nI)), x2, .fz (nI (2 ^ k)), x4, x5, x6]) (a_var (i := 3) rfl).a (a_B1 (g := gLen) (a_B2 (g := gIx) (a_var (i := 0) rfl).a (a_c (x := nI 0)).a (gIxT (d := tupI b0) (by rw [hR]; rfl))).a (gLenT _)).a gLtN).a
      have e : decide (2 ^ k < (b0.map PyData.int).length) = decide (k < m) := by
        rw [List.length_map, hb0, decide_eq_decide]
        exact Nat.pow_lt_pow_iff_right (by decide)
      rwa [e] at this
    intro j
    induction j with
    | zero =>
      intro k fuel hk hf x4 x5 x6 Q hQ
      obtain ⟨fuel, rfl⟩ : ∃ f, fuel = f + 1 := ⟨fuel - 1, by omega⟩
      have hk : k = m := by omega
      subst hk
      have t := test k (.fz (.list ((allotK R.length g k).map tupI))) x4 x5 x6
      rw [decide_eq_false (Nat.lt_irrefl _)] at t
      exact w_whileStop t (hQ _ _ _)
    | succ j ih =>
      intro k fuel hk hf x4 x5 x6 Q hQ
      obtain ⟨fuel, rfl⟩ : ∃ f, fuel = f + 1 := ⟨fuel - 1, by omega⟩
      have t := test k (.fz (.list ((allotK R.length g k).map tupI))) x4 x5 x6
      rw [decide_eq_true (by omega)] at t
      have hlen : (allotK R.length g k).length ≤ 125 := by rw [allotK_len]; exact pow_bd hl (by omega)
      have hrow := allotK_row hg k
      have hsucc := allotK_succ R.length g k
      generalize hS : allotK R.length g k = S at *
      refine w_whileGo t ?_
      refine w_then (s_setB (i := 4) (As.cons (a_var (i := 2) rfl).a .nil) rfl) ?_
      refine w_seq (w_forI tupI (fun done e => ∃ x5 x6, e = [.fz (rmD R), .fz (.list (g.map nI)), .fz (.list (S.map tupI)), .fz (nI (2 ^ k)), .own (.l ((S ++ done.flatMap fun a => g.map (bump (2 ^ k) a)).map tupI)), x5, x6]) S (i_seqL (a_var (i := 2) rfl)) ⟨x5, x6, by simp⟩ ?_ ?_)
      · rintro done a rest _ hd ⟨x5, x6, rfl⟩
        have haS : a ∈ S := by rw [hd]; simp
        have hdl : done.length < S.length := by rw [hd]; simp
        have hfl : (done.flatMap fun a => g.map (bump (2 ^ k) a)).length ≤ 500 := by
          have : (done.flatMap fun a => g.map (bump (2 ^ k) a)).length = done.length * g.length := by
            clear hd hdl
            induction done with
            | nil => simp
            | cons a d ih => simp [Nat.succ_mul] at ih ⊢; omega
          rw [this]
          exact Nat.le_trans (Nat.mul_le_mul (show done.length ≤ 125 by omega) hl) (by decide)
        refine ⟨_, rfl, ?_⟩
        generalize hD : (done.flatMap fun a => g.map (bump (2 ^ k) a)) = D at *
        refine w_forI nI (fun dn e => ∃ x6, e = [.fz (rmD R), .fz (.list (g.map nI)), .fz (.list (S.map tupI)), .fz (nI (2 ^ k)), .own (.l ((S ++ D ++ dn.map (bump (2 ^ k) a)).map tupI)), .fz (tupI a), x6]) g (i_seqL (a_var (i := 1) rfl)) ⟨x6, by simp⟩ ?_ ?_
        · rintro dn i rst _ hdn ⟨x6, rfl⟩
          have hi : i < a.length := by rw [hrow a haS]; exact hg i (by rw [hdn]; simp)
          have hdn' : dn.length < g.length := by rw [hdn]; simp
          refine ⟨_, rfl, w_ok (s_app (i := 4) rfl ?_ (a_bump (p := 2 ^ k) hi (by rw [hrow a haS]; omega) rfl rfl ?_)) ⟨rfl, .fz (nI i), ?_⟩⟩
          · simp only [List.length_map, List.length_append]; omega
          · simp [nI]
          · simp
        · rintro _ ⟨x6, rfl⟩
          refine ⟨rfl, .fz (tupI a), x6, ?_⟩
          rw [flatMap_snoc, hD, List.append_assoc]
      · rintro _ ⟨x5, x6, rfl⟩
        refine ⟨fun _ => ?_, fun r hr => by cases hr⟩
        have hS1 : S ++ S.flatMap (fun a => g.map (bump (2 ^ k) a)) = allotK R.length g (k + 1) := by rw [hsucc]; rfl
        have ih' := fun x4 x5 x6 => ih (k + 1) fuel (by omega) (by omega) x4 x5 x6 Q hQ
        clear ih hS hsucc
        rw [hS1]
        generalize allotK R.length g (k + 1) = S1 at *
        rw [w_turnEnd]
        exact ⟨rfl, ih' _ _ _⟩
  refine w_seq (loop m 0 8 (by omega) (by omega) _ _ _ _ fun x4 x5 x6 => ⟨fun _ => ?_, fun r hr => by cases hr⟩)
  refine w_ret (a_B1l (a_var (i := 2) rfl).a ?_) fun r hr => ⟨rfl, r, rfl, .inl hr⟩
  have hne : ∀ a ∈ allotK R.length g m, a ≠ [] := fun a ha e => by
    have := allotK_row hg m a ha
    rw [e] at this
    simp at this; omega
  have hlen := allotK_len R.length g m
  cases hS : allotK R.length g m with
  | nil => rw [hS] at hlen; simp at hlen; have := Nat.pow_pos (n := m) (show 0 < 1 + g.length by omega); omega
  | cons a S =>
    have hi : intsOf (tupI a :: S.map tupI) = none := rfl
    have hr := rowsOf_map (a :: S) (hS ▸ hne)
    simp only [List.map_cons] at hr
    simp only [gSorted, List.map_cons, hi, hr]
end DL

/-! M5: totals, best totals, outcome. -/
namespace DL
open PySem PySem.Spec PyProof.Rows L2
def val (b : List Int) (s : Int) : Int := b.getD s.toNat 0
def tot : List (List Int) → List Int → Int
  | b :: R, s :: a => val b s + tot R a
  | _, _ => 0
/-- sets of a room with `m` things -/
def Row (n m : Nat) (a : List Int) : Prop := a.length = n ∧ ∀ s ∈ a, 0 ≤ s ∧ s < 2 ^ m
theorem getD_mem {a : List Int} {i : Nat} (h : i < a.length) : a.getD i 0 ∈ a := by simp [List.getD, h]
theorem allotK_Row {n : Nat} {g : List Nat} (hg : ∀ i ∈ g, i < n) (k : Nat) : ∀ a ∈ allotK n g k, Row n k a := by
  induction k with
  | zero =>
    intro a ha
    simp [allotK] at ha
    subst ha
    refine ⟨by simp, fun s hs => ?_⟩
    rw [List.mem_replicate] at hs
    simp [hs.2]
  | succ k ih =>
    intro a ha
    refine ⟨allotK_row hg _ a ha, ?_⟩
    have hp : (2 : Int) ^ (k + 1) = 2 ^ k + 2 ^ k := by rw [Int.pow_succ]; omega
    have hp0 : (0 : Int) < 2 ^ k := Int.pow_pos (by decide)
    rw [allotK_succ] at ha
    simp only [grow, List.mem_append, List.mem_flatMap, List.mem_map] at ha
    rcases ha with ha | ⟨b, hb, i, hi, rfl⟩
    · intro s hs
      have := (ih a ha).2 s hs
      omega
    · intro s hs
      have hb' := ih b hb
      simp only [bump, List.mem_append, List.mem_singleton] at hs
      rcases hs with (hs | rfl) | hs
      · have := hb'.2 s (List.mem_of_mem_take hs); omega
      · have := hb'.2 _ (getD_mem (a := b) (i := i) (by rw [hb'.1]; exact hg i hi)); omega
      · have := hb'.2 s (List.mem_of_mem_drop hs); omega
theorem val_ix {b : List Int} {s : Int} (h0 : 0 ≤ s) (h1 : s < b.length) : gIx [tupI b, .int s] = some (.fz (.int (val b s))) := by
  obtain ⟨k, rfl⟩ := Int.eq_ofNat_of_zero_le h0
  refine gIxT ?_
  have hk : k < b.length := by omega
  rw [List.getElem?_map, List.getElem?_eq_getElem hk]
  simp [val, List.getD, hk]
def zp (p : List Int × Int) : PyData := .tuple [tupI p.1, .int p.2]
theorem zip2_eq (R : List (List Int)) (a : List Int) : zip2L (R.map tupI) (a.map .int) = (R.zip a).map zp := by
  induction R generalizing a with
  | nil => cases a <;> rfl
  | cons b R ih => cases a with
    | nil => rfl
    | cons s a => simp only [List.map_cons, zip2L, ih, List.zip_cons_cons]; rfl
theorem tot_eq (R : List (List Int)) (a : List Int) : ((R.zip a).map fun p => val p.1 p.2).sum = tot R a := by
  induction R generalizing a with
  | nil => cases a <;> rfl
  | cons b R ih => cases a with
    | nil => rfl
    | cons s a => simp only [List.zip_cons_cons, List.map_cons, List.sum_cons, ih, tot]
theorem gSumL (ns : List Int) : gSum [.list (ns.map .int)] = some (.fz (.int ns.sum)) := by simp only [gSum, intsOf_map, Option.map_some]
theorem total_of_fn {m : Nat} {R : List (List Int)} (h : ∀ b ∈ R, b.length = 2 ^ m) {n : Nat} {a : List Int} (ha : Row n m a) : Fn F_total_of [rmD R, tupI a] (.int (tot R a)) := by
  refine fn_ret rfl ?_
  have a1 := a_map (t := .tp [2, 3]) (vs := [2, 3]) (di := dIt gZip2 [(dVar 0), (dVar 1)]) (te := dB gIx [(dVar 2), (dVar 3)]) (e := [.fz (rmD R), .fz (tupI a), .un, .un]) zp (fun p => .int (val p.1 p.2)) (R.zip a)
    (it_eq (.cons (a_var (i := 0) rfl) (.cons (a_var (i := 1) rfl) .nil)) (by show some (zip2L (R.map tupI) (a.map .int)) = _; rw [zip2_eq])) (fun p => [.fz (rmD R), .fz (tupI a), .fz (tupI p.1), .fz (.int p.2)]) rfl fun p hp => ⟨rfl, rfl, ?_⟩
  · have a2 := a_B1 (g := gSum) a1.a (by have := gSumL ((R.zip a).map fun p => val p.1 p.2); rwa [List.map_map] at this)
    rw [tot_eq] at a2
    exact a2
  · have h1 := List.of_mem_zip hp
    have h2 := ha.2 p.2 h1.2
    refine a_B2 (a_var (i := 2) rfl).a (a_var (i := 3) rfl).a (val_ix h2.1 ?_)
    rw [h p.1 h1.1]
    have : ((2 ^ m : Nat) : Int) = 2 ^ m := by simp
    omega
/-! the first best -/
def bstep (T : List Int → Int) (o : Option (Int × List Int)) (a : List Int) : Option (Int × List Int) := match o with
  | none => some (T a, a)
  | some (v, b) => if v < T a then some (T a, a) else some (v, b)
def oD : Option (Int × List Int) → PyData
  | none => .none
  | some (v, b) => .tuple [.int v, tupI b]
theorem bfold_some (T : List Int → Int) (L : List (List Int)) (v : Int) (b : List Int) (hv : v = T b) : ∃ v' b', L.foldl (bstep T) (some (v, b)) = some (v', b') ∧ v' = T b' ∧ (b' = b ∨ b' ∈ L) ∧ v ≤ v' ∧ ∀ a ∈ L, T a ≤ v' := by
  induction L generalizing v b with
  | nil => exact ⟨v, b, rfl, hv, .inl rfl, Int.le_refl _, by simp⟩
  | cons a L ih =>
    simp only [List.foldl_cons, bstep]
    by_cases c : v < T a
    · rw [if_pos c]
      obtain ⟨v', b', h1, h2, h3, h4, h5⟩ := ih (T a) a rfl
      refine ⟨v', b', h1, h2, ?_, by omega, ?_⟩
      · rcases h3 with rfl | h3
        · exact .inr (by simp)
        · exact .inr (by simp [h3])
      · intro x hx
        rcases List.mem_cons.1 hx with rfl | hx
        · exact h4
        · exact h5 x hx
    · rw [if_neg c]
      obtain ⟨v', b', h1, h2, h3, h4, h5⟩ := ih v b hv
      refine ⟨v', b', h1, h2, ?_, h4, ?_⟩
      · rcases h3 with rfl | h3
        · exact .inl rfl
        · exact .inr (by simp [h3])
      · intro x hx
        rcases List.mem_cons.1 hx with rfl | hx
        · omega
        · exact h5 x hx
def bestP (R : List (List Int)) (m : Nat) (g : List Nat) : Int × List Int := ((sortR (allotK R.length g m)).foldl (bstep (tot R)) none).getD (0, [])
def Vb (R : List (List Int)) (m : Nat) (g : List Nat) : Int := (bestP R m g).1
def opt (R : List (List Int)) (m : Nat) (g : List Nat) : List Int := (bestP R m g).2
theorem mem_sortR {rs : List (List Int)} {a : List Int} : a ∈ sortR rs ↔ a ∈ rs := (List.mergeSort_perm rs _).mem_iff
theorem allotK_ne (n : Nat) (g : List Nat) (k : Nat) : allotK n g k ≠ [] := fun e => by
  have := allotK_len n g k
  rw [e] at this
  have := Nat.pow_pos (n := k) (show 0 < 1 + g.length by omega)
  simp at *
  omega
theorem best_spec (R : List (List Int)) (m : Nat) (g : List Nat) : (sortR (allotK R.length g m)).foldl (bstep (tot R)) none = some (Vb R m g, opt R m g) ∧ Vb R m g = tot R (opt R m g) ∧ opt R m g ∈ allotK R.length g m ∧ ∀ a ∈ allotK R.length g m, tot R a ≤ Vb R m g := by
  have hb : bestP R m g = ((sortR (allotK R.length g m)).foldl (bstep (tot R)) none).getD (0, []) := rfl
  unfold Vb opt
  have hm := @mem_sortR (allotK R.length g m)
  cases hL : sortR (allotK R.length g m) with
  | nil =>
    obtain ⟨a, ha⟩ := List.exists_mem_of_ne_nil _ (allotK_ne R.length g m)
    have := hm.2 ha
    rw [hL] at this
    simp at this
  | cons a L =>
    rw [hL] at hb hm
    obtain ⟨v', b', h1, h2, h3, h4, h5⟩ := bfold_some (tot R) L (tot R a) a rfl
    have e : (a :: L).foldl (bstep (tot R)) none = some (v', b') := h1
    rw [e] at hb
    rw [hb]
    refine ⟨e, h2, hm.1 ?_, fun x hx => ?_⟩
    · rcases h3 with rfl | h3
      · exact List.mem_cons_self ..
      · exact List.mem_cons_of_mem _ h3
    · rcases List.mem_cons.1 (hm.2 hx) with rfl | hx
      · exact h4
      · exact h5 x hx
theorem best_for_fn {m : Nat} {R : List (List Int)} (h : Rm m R) {g : List Nat} (hg : ∀ i ∈ g, i < R.length) (hl : g.length ≤ 4) : Fn F_best_for [rmD R, .list (g.map nI)] (.tuple [.int (Vb R m g), tupI (opt R m g)]) := by
  have hrow := allotK_Row hg m
  have hb := (best_spec R m g).1
  refine w_fn ?_
  refine w_then (s_setF' (i := 2) a_c) ?_
  refine w_seq (w_for tupI (fun o e => ∃ x3 x4, e = [.fz (rmD R), .fz (.list (g.map nI)), .fz (oD o), x3, x4]) (bstep (tot R)) (sortR (allotK R.length g m)) none (i_seqL (a_call (.cons (a_var (i := 0) rfl) (.cons (a_var (i := 1) rfl) .nil)) (allotments_fn h hg hl))) ⟨_, _, rfl⟩ ?_ ?_)
  · rintro o a _ ha ⟨x3, x4, rfl⟩
    have ha := hrow a (mem_sortR.1 ha)
    refine ⟨_, rfl, ?_⟩
    refine w_then (s_setF' (i := 4) (a_call (.cons (a_var (i := 0) rfl) (.cons (a_var (i := 3) rfl) .nil)) (total_of_fn (fun b hb => (h.bid b hb).len) ha))) ?_
    show W (dIfS _ _ _ [.fz (rmD R), .fz (.list (g.map nI)), .fz (oD o), .fz (tupI a), .fz (.int (tot R a))]) _
    cases o with
    | none =>
      refine w_if (c := true) (t_orT (t_truth (a_B2 (a_var (i := 2) rfl).a a_c.a rfl).a)) (fun _ => w_ok (s_setF' (i := 2) (a_tup (.cons (a_var (i := 4) rfl) (.cons (a_var (i := 3) rfl) .nil)))) ⟨rfl, _, _, rfl⟩) fun h => by cases h
    | some p =>
      obtain ⟨v, b⟩ := p
      have T := t_or (b := false) (u := dTruth (dB gGt [(dVar 4), (dB gIx [(dVar 2), (dC (.int 0))])])) (t_truth (a_B2 (g := gIs) (e := [.fz (rmD R), .fz (.list (g.map nI)), .fz (oD (some (v, b))), .fz (tupI a), .fz (.int (tot R a))]) (a_var (i := 2) rfl).a (a_c (x := .none)).a rfl).a) fun _ => t_truth (a_B2 (a_var (i := 4) rfl).a (a_B2 (g := gIx) (a_var (i := 2) rfl).a (a_c (x := nI 0)).a (gIxT (d := .int v) rfl)).a gGtI).a
      rw [Bool.false_or] at T
      refine w_if T (fun c => w_ok (s_setF' (i := 2) (a_tup (.cons (a_var (i := 4) rfl) (.cons (a_var (i := 3) rfl) .nil)))) ⟨rfl, .fz (tupI a), .fz (.int (tot R a)), ?_⟩) fun c => w_next ⟨rfl, .fz (tupI a), .fz (.int (tot R a)), ?_⟩
      · have : bstep (tot R) (some (v, b)) a = some (tot R a, a) := if_pos (of_decide_eq_true c)
        rw [this]; rfl
      · have : bstep (tot R) (some (v, b)) a = some (v, b) := if_neg (of_decide_eq_false c)
        rw [this]
  · rintro _ ⟨x3, x4, rfl⟩
    refine ⟨fun _ => w_ret (a_var (i := 2) rfl) fun r hr => ⟨rfl, r, rfl, .inl ?_⟩, fun r hr => by cases hr⟩
    rw [hb] at hr
    exact hr
end DL

/-! M6: outcome, what is kept, groups. -/
namespace DL
open PySem PySem.Spec PyProof.Rows L2
theorem everyone_fn {R : List (List Int)} (h4 : R.length ≤ 4) : Fn F_everyone [rmD R] (.list ((List.range R.length).map nI)) := by
  refine fn_ret rfl (a_B1l (a_B1 (a_var (i := 0) rfl).a (gLenT _)).a ?_)
  rw [List.length_map]
  have : -1000000 ≤ (R.length : Int) ∧ (R.length : Int) ≤ 1000000 := by omega
  simp only [gRgL, nI, this, and_self, if_true, rangeL, Int.toNat_natCast]
  simp [nI]
def oth (n i : Nat) : List Nat := (List.range n).filter fun j => !decide (j = i)
def Va (R : List (List Int)) (m : Nat) : Int := Vb R m (List.range R.length)
def Vo (R : List (List Int)) (m i : Nat) : Int := Vb R m (oth R.length i)
def opA (R : List (List Int)) (m : Nat) : List Int := opt R m (List.range R.length)
def pay (R : List (List Int)) (m i : Nat) : Int := Vo R m i - (Va R m - val (R.getD i []) ((opA R m).getD i 0))
def kep (R : List (List Int)) (m i : Nat) : Int := Va R m - Vo R m i
def pays (R : List (List Int)) (m : Nat) : List Int := (List.range R.length).map (pay R m)
def keps (R : List (List Int)) (m : Nat) : List Int := (List.range R.length).map (kep R m)
theorem range_lt {n : Nat} : ∀ i ∈ List.range n, i < n := fun i hi => List.mem_range.1 hi
theorem oth_lt {n i : Nat} : ∀ j ∈ oth n i, j < n := fun j hj => List.mem_range.1 (List.mem_filter.1 hj).1
theorem oth_len {n i : Nat} : (oth n i).length ≤ n := by have := List.length_filter_le (fun j => !decide (j = i)) (List.range n); simpa [oth] using this
theorem enumL_eq (k : Nat) (a : List Int) : enumL k (a.map .int) = (List.range a.length).map fun i => .tuple [nI (k + i), .int (a.getD i 0)] := by
  induction a generalizing k with
  | nil => rfl
  | cons s a ih =>
    rw [List.map_cons, enumL, ih, List.length_cons, List.range_succ_eq_map, List.map_cons, List.map_map]
    congr 1
    apply List.map_congr_left
    intro i _
    simp only [Function.comp, List.getD_cons_succ, Nat.succ_eq_add_one, show k + 1 + i = k + (i + 1) by omega]
theorem opA_row {m : Nat} {R : List (List Int)} : Row R.length m (opA R m) := allotK_Row range_lt m _ (best_spec R m _).2.2.1
theorem rm_ix {R : List (List Int)} {i : Nat} (hi : i < R.length) : gIx [rmD R, nI i] = some (.fz (tupI (R.getD i []))) := by
  refine gIxT ?_
  rw [List.getElem?_map, List.getElem?_eq_getElem hi]
  simp [List.getD, hi]
theorem getD_memR {R : List (List Int)} {i : Nat} (h : i < R.length) : R.getD i [] ∈ R := by simp [List.getD, h]
theorem tw (m : Nat) : ((2 ^ m : Nat) : Int) = 2 ^ m := by simp
theorem outcome_fn {m : Nat} {R : List (List Int)} (h : Rm m R) : Fn F_outcome [rmD R] (.tuple [tupI (opA R m), .list ((pays R m).map .int)]) := by
  have h4 := h.n4
  have hr := @opA_row m R
  refine w_fn ?_
  refine w_then (e1 := [.fz (rmD R), .un, .fz (.int (Va R m)), .fz (tupI (opA R m)), .un, .un, .un, .un]) (s_setT' (a_call (.cons (a_var (i := 0) rfl) (.cons (a_call (.cons (a_var (i := 0) rfl) .nil) (everyone_fn h4)) .nil)) (best_for_fn h range_lt (by simpa using h4))) rfl) ?_
  refine w_then (e1 := [.fz (rmD R), .own (.l []), .fz (.int (Va R m)), .fz (tupI (opA R m)), .un, .un, .un, .un]) (s_setL (i := 1) .nil) ?_
  refine w_seq (w_forI (fun i => .tuple [nI i, .int ((opA R m).getD i 0)]) (fun done e => ∃ x4 x5 x6, e = [.fz (rmD R), .own (.l ((done.map (pay R m)).map .int)), .fz (.int (Va R m)), .fz (tupI (opA R m)), x4, x5, x6, .un]) (List.range R.length) ?_ ⟨_, _, _, rfl⟩ ?_ ?_)
  · refine it_eq (.cons (a_var (i := 3) rfl) .nil) ?_
    show some (enumL 0 _) = _
    rw [enumL_eq, hr.1]
    simp
  · rintro done i rest _ hd ⟨x4, x5, x6, rfl⟩
    have hi : i < R.length := List.mem_range.1 (by rw [hd]; simp)
    have hdl : done.length < 100000 := by have := congrArg List.length hd; simp at this; omega
    refine ⟨_, rfl, ?_⟩
    have a1 := a_comp (t := .nm 7) (vs := [7]) (di := dIt gSeq [(dCall F_everyone [(dVar 0)])]) (tt := dTruth (dB gNe [(dVar 7), (dVar 4)])) (te := dVar 7) (e := [.fz (rmD R), .own (.l ((done.map (pay R m)).map .int)), .fz (.int (Va R m)), .fz (tupI (opA R m)), .fz (nI i), .fz (.int ((opA R m).getD i 0)), x6, .un]) nI (fun j => !decide (j = i)) nI (List.range R.length) (i_seqL (a_call (.cons (a_var (i := 0) rfl) .nil) (everyone_fn h4)))
      (fun j => [.fz (rmD R), .own (.l ((done.map (pay R m)).map .int)), .fz (.int (Va R m)), .fz (tupI (opA R m)), .fz (nI i), .fz (.int ((opA R m).getD i 0)), x6, .fz (nI j)]) rfl fun j hj => ⟨rfl, rfl, ?_, fun _ => a_var rfl⟩
    · refine w_then (s_setF' (i := 6) a1) ?_
      refine w_ok (s_app (i := 1) rfl (by simpa using hdl) (a_B2 (a_B2 (a_call (.cons (a_var (i := 0) rfl) (.cons (a_var (i := 6) rfl) .nil)) (best_for_fn h oth_lt (Nat.le_trans oth_len h4))).a (a_c (x := nI 0)).a (gIxT (d := .int (Vo R m i)) rfl)).a (a_B2 (a_var (i := 2) rfl).a (a_B2 (a_B2 (a_var (i := 0) rfl).a (a_var (i := 4) rfl).a (rm_ix hi)).a (a_var (i := 5) rfl).a (val_ix ?_ ?_)).a rfl).a rfl)) ⟨rfl, .fz (nI i), .fz (.int ((opA R m).getD i 0)), .fz (.list ((oth R.length i).map nI)), ?_⟩
      · exact (hr.2 _ (getD_mem (by rw [hr.1]; exact hi))).1
      · have := (hr.2 _ (getD_mem (i := i) (by rw [hr.1]; exact hi))).2
        rw [(h.bid _ (getD_memR hi)).len, tw]
        exact this
      · simp [pay, oth, putAll]
    · have := t_truth (a_B2 (g := gNe) (e := [.fz (rmD R), .own (.l ((done.map (pay R m)).map .int)), .fz (.int (Va R m)), .fz (tupI (opA R m)), .fz (nI i), .fz (.int ((opA R m).getD i 0)), x6, .fz (nI j)]) (a_var (i := 7) rfl).a (a_var (i := 4) rfl).a (gNeI _ _)).a
      have e : decide ((j : Int) = (i : Int)) = decide (j = i) := by rw [decide_eq_decide]; omega
      rwa [e] at this
  · rintro _ ⟨x4, x5, x6, rfl⟩
    exact ⟨fun _ => w_ok (a := .rt (.fz (.tuple [tupI (opA R m), .list ((pays R m).map .int)]))) rfl ⟨rfl, .fz _, rfl, .inl rfl⟩, fun r hr => by cases hr⟩
theorem zip3_eq (n : Nat) (R : List (List Int)) (a : List Int) (p : List Int) (h1 : R.length = n) (h2 : a.length = n) (h3 : p.length = n) : zip3L (R.map tupI) (a.map .int) (p.map .int) = (List.range n).map fun i => .tuple [tupI (R.getD i []), .int (a.getD i 0), .int (p.getD i 0)] := by
  induction n generalizing R a p with
  | zero => cases R with
    | nil => rfl
    | cons b R => simp at h1
  | succ n ih => cases R with
    | nil => simp at h1
    | cons b R => cases a with
      | nil => simp at h2
      | cons s a => cases p with
        | nil => simp at h3
        | cons q p =>
          rw [List.map_cons, List.map_cons, List.map_cons, zip3L, ih R a p (by simpa using h1) (by simpa using h2) (by simpa using h3), List.range_succ_eq_map, List.map_cons, List.map_map]
          rfl
theorem kept_list_fn {m : Nat} {R : List (List Int)} (h : Rm m R) : Fn F_kept_list [rmD R] (.list ((keps R m).map .int)) := by
  have hr := @opA_row m R
  refine w_fn ?_
  refine w_then (e1 := [.fz (rmD R), .fz (tupI (opA R m)), .fz (.list ((pays R m).map .int)), .un, .un, .un]) (s_setT' (a_call (.cons (a_var (i := 0) rfl) .nil) (outcome_fn h)) rfl) ?_
  have a1 := a_map (t := .tp [3, 4, 5]) (vs := [3, 4, 5]) (di := dIt gZip3 [(dVar 0), (dVar 1), (dVar 2)]) (te := dB gSub [(dB gIx [(dVar 3), (dVar 4)]), (dVar 5)]) (e := [.fz (rmD R), .fz (tupI (opA R m)), .fz (.list ((pays R m).map .int)), .un, .un, .un]) (fun i => .tuple [tupI (R.getD i []), .int ((opA R m).getD i 0), .int ((pays R m).getD i 0)]) (fun i => .int (kep R m i)) (List.range R.length)
    (it_eq (.cons (a_var (i := 0) rfl) (.cons (a_var (i := 1) rfl) (.cons (a_var (i := 2) rfl) .nil))) ?_) (fun i => [.fz (rmD R), .fz (tupI (opA R m)), .fz (.list ((pays R m).map .int)), .fz (tupI (R.getD i [])), .fz (.int ((opA R m).getD i 0)), .fz (.int ((pays R m).getD i 0))]) rfl fun i hi => ⟨rfl, rfl, ?_⟩
  · refine w_ret a1 fun r hr => ⟨rfl, r, rfl, .inl ?_⟩
    rw [keps, List.map_map]
    exact hr
  · show some (zip3L (R.map tupI) _ _) = _
    rw [zip3_eq R.length R (opA R m) (pays R m) rfl hr.1 (by simp [pays])]
  · have hi := List.mem_range.1 hi
    have e : kep R m i = val (R.getD i []) ((opA R m).getD i 0) - (pays R m).getD i 0 := by
      have : (pays R m).getD i 0 = pay R m i := by simp [pays, List.getD, hi]
      rw [this]
      unfold kep pay
      omega
    rw [e]
    refine a_B2 (a_B2 (a_var (i := 3) rfl).a (a_var (i := 4) rfl).a (val_ix ?_ ?_)).a (a_var (i := 5) rfl).a rfl
    · exact (hr.2 _ (getD_mem (by rw [hr.1]; exact hi))).1
    · have := (hr.2 _ (getD_mem (i := i) (by rw [hr.1]; exact hi))).2
      rw [(h.bid _ (getD_memR hi)).len, tw]
      exact this
def gT (g : List Nat) : PyData := .tuple (g.map nI)
def gn (R : List (List Int)) (m : Nat) (g : List Nat) : Bool := decide ((pays R m).sum + (g.map (kep R m)).sum < Vb R m g)
theorem gains_fn {m : Nat} {R : List (List Int)} (h : Rm m R) {g : List Nat} (hg : ∀ i ∈ g, i < R.length) (hl : g.length ≤ 4) : Fn F_gains [rmD R, gT g] (.bool (gn R m g)) := by
  refine w_fn ?_
  refine w_then (s_setF' (i := 2) (a_call (.cons (a_var (i := 0) rfl) .nil) (kept_list_fn h))) ?_
  have a1 := a_map (t := .nm 3) (vs := [3]) (di := dIt gSeq [(dVar 1)]) (te := dB gIx [(dVar 2), (dVar 3)]) (e := [.fz (rmD R), .fz (gT g), .fz (.list ((keps R m).map .int)), .un]) nI (fun i => .int (kep R m i)) g (i_seqT (a_var rfl)) (fun i => [.fz (rmD R), .fz (gT g), .fz (.list ((keps R m).map .int)), .fz (nI i)]) rfl fun i hi => ⟨rfl, rfl, a_B2 (a_var (i := 2) rfl).a (a_var (i := 3) rfl).a (gIxL ?_)⟩
  · refine w_ret (a_B2 (a_B2 (a_call (.cons (a_var (i := 0) rfl) (.cons (a_B1l (a_var (i := 1) rfl).a rfl) .nil)) (best_for_fn h hg hl)).a (a_c (x := nI 0)).a (gIxT (d := .int (Vb R m g)) rfl)).a (a_B2 (a_B1 (a_B2 (a_call (.cons (a_var (i := 0) rfl) .nil) (outcome_fn h)).a (a_c (x := nI 1)).a (gIxT (d := .list ((pays R m).map .int)) rfl)).a (gSumL _)).a (a_B1 a1.a (by have := gSumL (g.map (kep R m)); rwa [List.map_map] at this)).a rfl).a gGtI) fun r hr => ⟨rfl, r, rfl, .inl hr⟩
  · simp [keps, hg i hi]
end DL

/-! M7: what the best totals keep (plain mathematics). -/
namespace DL
open PySem PySem.Spec PyProof.Rows L2
theorem bump_eq {p : Int} {a : List Int} {i : Nat} (h : i < a.length) : bump p a i = a.set i (a.getD i 0 + p) := by
  rw [bump, List.set_eq_take_append_cons_drop, if_pos h]; simp
theorem allotK_mono {n : Nat} {g g' : List Nat} (h : ∀ i ∈ g, i ∈ g') (k : Nat) : ∀ a ∈ allotK n g k, a ∈ allotK n g' k := by
  induction k with
  | zero => intro a ha; exact ha
  | succ k ih =>
    intro a ha
    rw [allotK_succ] at ha ⊢
    simp only [grow, List.mem_append, List.mem_flatMap, List.mem_map] at ha ⊢
    rcases ha with ha | ⟨b, hb, i, hi, rfl⟩
    · exact .inl (ih a ha)
    · exact .inr ⟨b, ih b hb, i, h i hi, rfl⟩
theorem allotK_up {n : Nat} {g : List Nat} {k : Nat} {a : List Int} (h : a ∈ allotK n g k) : a ∈ allotK n g (k + 1) := by
  rw [allotK_succ]
  exact List.mem_append_left _ h
theorem allotK_zero (n : Nat) (g : List Nat) (k : Nat) : List.replicate n 0 ∈ allotK n g k := by
  induction k with
  | zero => simp [allotK]
  | succ k ih => exact allotK_up ih
theorem allotK_clear {n : Nat} {g : List Nat} (hg : ∀ i ∈ g, i < n) (i k : Nat) : ∀ a ∈ allotK n g k, a.set i 0 ∈ allotK n (g.filter fun j => !decide (j = i)) k := by
  induction k with
  | zero =>
    intro a ha
    simp [allotK] at ha ⊢
    subst ha
    apply List.ext_getElem
    · simp
    · intro j h1 h2
      simp [List.getElem_set]
  | succ k ih =>
    intro a ha
    rw [allotK_succ] at ha
    simp only [grow, List.mem_append, List.mem_flatMap, List.mem_map] at ha
    rcases ha with ha | ⟨b, hb, j, hj, rfl⟩
    · exact allotK_up (ih a ha)
    · have hl := allotK_row hg k b hb
      have hjb : j < b.length := by rw [hl]; exact hg j hj
      rw [bump_eq hjb]
      by_cases c : j = i
      · subst c
        rw [List.set_set]
        exact allotK_up (ih b hb)
      · rw [allotK_succ]
        simp only [grow, List.mem_append, List.mem_flatMap, List.mem_map]
        refine .inr ⟨b.set i 0, ih b hb, j, by simp [hj, c], ?_⟩
        rw [bump_eq (by simpa using hjb), List.set_comm _ _ (fun e => c e)]
        have : (b.set i 0).getD j 0 = b.getD j 0 := by
          simp only [List.getD_eq_getElem?_getD]
          rw [List.getElem?_set_ne (fun e => c e.symm)]
        rw [this]
theorem allotK_off {n : Nat} {g : List Nat} (hg : ∀ i ∈ g, i < n) (i k : Nat) (hi : i ∉ g) : ∀ a ∈ allotK n g k, a.getD i 0 = 0 := by
  induction k with
  | zero =>
    intro a ha
    simp [allotK] at ha
    subst ha
    simp [List.getD_eq_getElem?_getD, List.getElem?_replicate]
    split <;> rfl
  | succ k ih =>
    intro a ha
    rw [allotK_succ] at ha
    simp only [grow, List.mem_append, List.mem_flatMap, List.mem_map] at ha
    rcases ha with ha | ⟨b, hb, j, hj, rfl⟩
    · exact ih a ha
    · have hl := allotK_row hg k b hb
      have hjb : j < b.length := by rw [hl]; exact hg j hj
      rw [bump_eq hjb]
      have : j ≠ i := fun e => hi (e ▸ hj)
      simp only [List.getD_eq_getElem?_getD]
      rw [List.getElem?_set_ne this]
      exact ih b hb
theorem tot_set {R : List (List Int)} {a : List Int} (hl : a.length = R.length) {i : Nat} (hi : i < R.length) (s : Int) : tot R (a.set i s) = tot R a - val (R.getD i []) (a.getD i 0) + val (R.getD i []) s := by
  induction R generalizing a i with
  | nil => simp at hi
  | cons b R ih => cases a with
    | nil => simp at hl
    | cons x a => cases i with
      | zero => simp [tot]; omega
      | succ i =>
        have := ih (a := a) (by simpa using hl) (i := i) (by simpa using hi)
        simp [tot] at this ⊢
        omega
theorem val_zero {m : Nat} {b : List Int} (h : Bid m b) : val b 0 = 0 := by
  have := h.zero
  simp [val, List.getD_eq_getElem?_getD, this]
theorem val_nonneg {m : Nat} {b : List Int} (h : Bid m b) (s : Int) : 0 ≤ val b s := by
  unfold val
  rw [List.getD_eq_getElem?_getD]
  cases e : b[s.toNat]? with
  | none => simp
  | some x => exact (h.bd x (List.mem_of_getElem? e)).1
theorem Vb_ge {R : List (List Int)} {m : Nat} {g : List Nat} {a : List Int} (h : a ∈ allotK R.length g m) : tot R a ≤ Vb R m g := (best_spec R m g).2.2.2 a h
theorem Vb_le {R : List (List Int)} {m : Nat} {g : List Nat} {v : Int} (h : ∀ a ∈ allotK R.length g m, tot R a ≤ v) : Vb R m g ≤ v := by
  rw [(best_spec R m g).2.1]; exact h _ (best_spec R m g).2.2.1
theorem Vb_eq {R : List (List Int)} {m : Nat} {g : List Nat} {v : Int} (a : List Int) (ha : a ∈ allotK R.length g m) (hv : tot R a = v) (h : ∀ a ∈ allotK R.length g m, tot R a ≤ v) : Vb R m g = v :=
  Int.le_antisymm (Vb_le h) (hv ▸ Vb_ge ha)
theorem Vb_mono {R : List (List Int)} {m : Nat} {g g' : List Nat} (h : ∀ i ∈ g, i ∈ g') : Vb R m g ≤ Vb R m g' := Vb_le fun a ha => Vb_ge (allotK_mono h m a ha)
theorem tot_replicate {m : Nat} {R : List (List Int)} (h : ∀ b ∈ R, Bid m b) (n : Nat) : tot R (List.replicate n 0) = 0 := by
  induction R generalizing n with
  | nil => cases n <;> rfl
  | cons b R ih => cases n with
    | zero => rfl
    | succ n => rw [List.replicate_succ, tot, val_zero (h b (by simp)), ih (fun b hb => h b (by simp [hb]))]; rfl
theorem Vb_nonneg {m : Nat} {R : List (List Int)} (h : Rm m R) (g : List Nat) : 0 ≤ Vb R m g := by
  have := Vb_ge (R := R) (allotK_zero R.length g m)
  rwa [tot_replicate h.bid] at this
theorem allotK_nil (n k : Nat) : allotK n [] k = [List.replicate n 0] := by
  induction k with
  | zero => rfl
  | succ k ih => rw [allotK_succ, ih]; simp [grow]
theorem Vb_nil {m : Nat} {R : List (List Int)} (h : Rm m R) : Vb R m [] = 0 :=
  Vb_eq _ (allotK_zero ..) (tot_replicate h.bid _) fun a ha => by rw [allotK_nil] at ha; simp at ha; subst ha; rw [tot_replicate h.bid]; exact Int.le_refl _
theorem opA_mem (R : List (List Int)) (m : Nat) : opA R m ∈ allotK R.length (List.range R.length) m := (best_spec R m _).2.2.1
theorem Va_tot (R : List (List Int)) (m : Nat) : Va R m = tot R (opA R m) := (best_spec R m _).2.1
theorem pay_nonneg {m : Nat} {R : List (List Int)} (h : Rm m R) {i : Nat} (hi : i < R.length) : 0 ≤ pay R m i := by
  have h1 := Vb_ge (R := R) (allotK_clear range_lt i m _ (opA_mem R m))
  rw [tot_set (allotK_row range_lt m _ (opA_mem R m)) hi, val_zero (h.bid _ (getD_memR hi)), ← Va_tot] at h1
  unfold pay Vo oth
  omega
theorem kep_nonneg {m : Nat} {R : List (List Int)} (i : Nat) : 0 ≤ kep R m i := by
  have : Vo R m i ≤ Va R m := Vb_mono fun j hj => (List.mem_filter.1 hj).1
  unfold kep
  omega
theorem sum_nonneg : ∀ (l : List Int), (∀ x ∈ l, 0 ≤ x) → 0 ≤ l.sum
  | [], _ => by simp
  | x :: l, h => by
    have := sum_nonneg l fun y hy => h y (by simp [hy])
    have := h x (by simp)
    rw [List.sum_cons]; omega
theorem pays_nonneg {m : Nat} {R : List (List Int)} (h : Rm m R) : 0 ≤ (pays R m).sum := sum_nonneg _ fun x hx => by
  obtain ⟨i, hi, rfl⟩ := List.mem_map.1 hx
  exact pay_nonneg h (List.mem_range.1 hi)
theorem gn_nil {m : Nat} {R : List (List Int)} (h : Rm m R) : gn R m [] = false := by
  have := pays_nonneg h
  simp only [gn, Vb_nil h, List.map_nil, List.sum_nil]
  rw [decide_eq_false]; omega
/-! which one of the best -/
theorem bfold_first (T : List Int → Int) (L : List (List Int)) (v : Int) (b : List Int) (v' : Int) (b' : List Int) (h : L.foldl (bstep T) (some (v, b)) = some (v', b')) : (b' = b ∧ v' = v ∧ ∀ x ∈ L, T x ≤ v) ∨ (v < v' ∧ ∃ pre post, L = pre ++ b' :: post ∧ T b' = v' ∧ ∀ x ∈ pre, T x < v') := by
  induction L generalizing v b with
  | nil => cases h; exact .inl ⟨rfl, rfl, by simp⟩
  | cons a L ih =>
    simp only [List.foldl_cons, bstep] at h
    by_cases c : v < T a
    · rw [if_pos c] at h
      rcases ih _ _ h with ⟨rfl, rfl, h1⟩ | ⟨h1, pre, post, rfl, h2, h3⟩
      · exact .inr ⟨c, [], L, rfl, rfl, by simp⟩
      · refine .inr ⟨by omega, a :: pre, post, rfl, h2, fun x hx => ?_⟩
        rcases List.mem_cons.1 hx with rfl | hx
        · exact h1
        · exact h3 x hx
    · rw [if_neg c] at h
      rcases ih _ _ h with ⟨rfl, rfl, h1⟩ | ⟨h1, pre, post, rfl, h2, h3⟩
      · refine .inl ⟨rfl, rfl, fun x hx => ?_⟩
        rcases List.mem_cons.1 hx with rfl | hx
        · omega
        · exact h1 x hx
      · refine .inr ⟨h1, a :: pre, post, rfl, h2, fun x hx => ?_⟩
        rcases List.mem_cons.1 hx with rfl | hx
        · omega
        · exact h3 x hx
theorem bfold_split (T : List Int → Int) (L : List (List Int)) (v' : Int) (b' : List Int) (h : L.foldl (bstep T) none = some (v', b')) : ∃ pre post, L = pre ++ b' :: post ∧ T b' = v' ∧ ∀ x ∈ pre, T x < v' := by
  cases L with
  | nil => cases h
  | cons a L =>
    rcases bfold_first T L (T a) a v' b' h with ⟨rfl, rfl, _⟩ | ⟨h1, pre, post, rfl, h2, h3⟩
    · exact ⟨[], L, rfl, rfl, by simp⟩
    · refine ⟨a :: pre, post, rfl, h2, fun x hx => ?_⟩
      rcases List.mem_cons.1 hx with rfl | hx
      · exact h1
      · exact h3 x hx
theorem sortR_sorted (rs : List (List Int)) : (sortR rs).Pairwise fun a b => a ≤ b := by
  have := List.pairwise_mergeSort (le := fun a b : List Int => decide (a ≤ b)) (fun a b c h1 h2 => by simp at *; exact List.le_trans h1 h2) (fun a b => by simp; exact List.le_total a b) rs
  exact this.imp fun h => by simpa using h
theorem opt_first {R : List (List Int)} {m : Nat} {g : List Nat} {a : List Int} (ha : a ∈ allotK R.length g m) (hv : tot R a = Vb R m g) : opt R m g ≤ a := by
  obtain ⟨pre, post, h1, h2, h3⟩ := bfold_split _ _ _ _ (best_spec R m g).1
  have hs := sortR_sorted (allotK R.length g m)
  have hm := mem_sortR.2 ha
  rw [h1] at hs hm
  rcases List.mem_append.1 hm with hm | hm
  · have := h3 a hm; omega
  · rcases List.mem_cons.1 hm with rfl | hm
    · exact List.le_refl _
    · exact (List.pairwise_cons.1 (List.pairwise_append.1 hs).2.1).1 a hm
theorem opt_eq {R : List (List Int)} {m : Nat} {g : List Nat} {a : List Int} (ha : a ∈ allotK R.length g m) (hv : tot R a = Vb R m g) (h : ∀ b ∈ allotK R.length g m, tot R b = Vb R m g → a ≤ b) : opt R m g = a :=
  List.le_antisymm (opt_first ha hv) (h _ (best_spec R m g).2.2.1 (best_spec R m g).2.1.symm)
end DL

/-! M8: groups that object, and the functions with their checks. -/
namespace DL
open PySem PySem.Spec PyProof.Rows L2
def zg (g : List Nat) : List Int := g.map fun (i : Nat) => (i : Int)
theorem gT_eq (g : List Nat) : gT g = tupI (zg g) := by simp [gT, tupI, zg, nI, List.map_map, Function.comp_def]
def subs (n : Nat) : List (List Nat) := (List.range n).foldl (fun S i => S ++ S.map fun g => g ++ [i]) [[]]
def subsL (l : List Nat) : List (List Nat) := l.foldl (fun S i => S ++ S.map fun g => g ++ [i]) [[]]
theorem subsL_snoc (l : List Nat) (i : Nat) : subsL (l ++ [i]) = subsL l ++ (subsL l).map fun g => g ++ [i] := by simp [subsL]
theorem rev_ind {P : List Nat → Prop} (h0 : P []) (hs : ∀ l i, P l → P (l ++ [i])) (l : List Nat) : P l := by
  have : ∀ l : List Nat, P l.reverse := by
    intro l
    induction l with
    | nil => exact h0
    | cons a l ih => rw [List.reverse_cons]; exact hs _ _ ih
  have := this l.reverse
  rwa [List.reverse_reverse] at this
theorem subsL_len (l : List Nat) : (subsL l).length = 2 ^ l.length := by
  refine rev_ind (P := fun l => (subsL l).length = 2 ^ l.length) rfl (fun l i ih => ?_) l
  rw [subsL_snoc]; simp [ih, Nat.pow_succ]; omega
theorem subsL_sub (l : List Nat) : ∀ g ∈ subsL l, (∀ i ∈ g, i ∈ l) ∧ g.length ≤ l.length := by
  refine rev_ind (P := fun l => ∀ g ∈ subsL l, (∀ i ∈ g, i ∈ l) ∧ g.length ≤ l.length) ?_ (fun l i ih => ?_) l
  · intro g hg; simp [subsL] at hg; simp [hg]
  · intro g hg
    rw [subsL_snoc] at hg
    rcases List.mem_append.1 hg with hg | hg
    · have := ih g hg
      exact ⟨fun j hj => List.mem_append_left _ (this.1 j hj), by simp; omega⟩
    · obtain ⟨g', hg', rfl⟩ := List.mem_map.1 hg
      have := ih g' hg'
      refine ⟨fun j hj => ?_, by simp; omega⟩
      rcases List.mem_append.1 hj with hj | hj
      · exact List.mem_append_left _ (this.1 j hj)
      · exact List.mem_append_right _ hj
def objs (R : List (List Int)) (m : Nat) : List (List Int) := sortR (((subs R.length).filter (gn R m)).map zg)
theorem group_list_fn {m : Nat} {R : List (List Int)} (h : Rm m R) : Fn F_group_list [rmD R] (.list ((objs R m).map tupI)) := by
  have h4 := h.n4
  refine w_fn ?_
  refine w_then (e1 := [.fz (rmD R), .fz (.list ((subsL []).map gT)), .un, .un]) (s_setF' (i := 1) (a_lst (.cons (a_tup .nil) .nil))) ?_
  refine w_seq (w_forI nI (fun done e => ∃ x2, e = [.fz (rmD R), .fz (.list ((subsL done).map gT)), x2, .un]) (List.range R.length) (i_seqL (a_call (.cons (a_var (i := 0) rfl) .nil) (everyone_fn h4))) ⟨_, rfl⟩ ?_ ?_)
  · rintro done i rest _ hd ⟨x2, rfl⟩
    have hdl : done.length ≤ 4 := by have := congrArg List.length hd; simp at this; omega
    have hpow : 2 ^ done.length ≤ 16 := Nat.le_trans (Nat.pow_le_pow_right (by decide) hdl) (by decide)
    refine ⟨_, rfl, ?_⟩
    have a1 := a_map (t := .nm 3) (vs := [3]) (di := dIt gSeq [(dVar 1)]) (te := dB gAdd [(dVar 3), (dTup [(dVar 2)])]) (e := [.fz (rmD R), .fz (.list ((subsL done).map gT)), .fz (nI i), .un]) gT (fun g => gT (g ++ [i])) (subsL done) (i_seqL (a_var rfl)) (fun g => [.fz (rmD R), .fz (.list ((subsL done).map gT)), .fz (nI i), .fz (gT g)]) rfl fun g hg => ⟨rfl, rfl, ?_⟩
    · refine w_ok (s_setF' (i := 1) (a_B2l (a_var (i := 1) rfl).a a1.a ?_)) ⟨rfl, .fz (nI i), rfl⟩
      have e : gAdd [.list ((subsL done).map gT), .list ((subsL done).map fun g => gT (g ++ [i]))] = some (.nl ((subsL done).map gT ++ (subsL done).map fun g => gT (g ++ [i]))) := if_pos (by simp [subsL_len]; omega)
      rw [e, subsL_snoc, List.map_append, List.map_map]
      rfl
    · have hgl := (subsL_sub done g hg).2
      have e : gT (g ++ [i]) = .tuple (g.map nI ++ [nI i]) := by simp [gT]
      rw [e]
      refine a_B2 (a_var (i := 3) rfl).a (a_tup (.cons (a_var (i := 2) rfl) .nil)).a (gAddT ?_)
      simp; omega
  · rintro _ ⟨x2, rfl⟩
    refine ⟨fun _ => ?_, fun r hr => by cases hr⟩
    have hsub : ∀ g ∈ subs R.length, (∀ i ∈ g, i < R.length) ∧ g.length ≤ 4 := fun g hg => by
      have := subsL_sub (List.range R.length) g hg
      exact ⟨fun i hi => List.mem_range.1 (this.1 i hi), by have := this.2; simp at this; omega⟩
    have a1 := a_comp (t := .nm 3) (vs := [3]) (di := dIt gSeq [(dVar 1)]) (tt := dTruth (dCall F_gains [(dVar 0), (dVar 3)])) (te := dVar 3) (e := [.fz (rmD R), .fz (.list ((subs R.length).map gT)), x2, .un]) gT (gn R m) gT (subs R.length) (i_seqL (a_var rfl)) (fun g => [.fz (rmD R), .fz (.list ((subs R.length).map gT)), x2, .fz (gT g)]) rfl fun g hg => ⟨rfl, rfl, t_truth (a_call (.cons (a_var (i := 0) rfl) (.cons (a_var (i := 3) rfl) .nil)) (gains_fn h (hsub g hg).1 (hsub g hg).2)).a, fun _ => a_var rfl⟩
    refine w_ret (a_B1l a1.a ?_) fun r hr => ⟨rfl, r, rfl, .inl hr⟩
    have e : ((subs R.length).filter (gn R m)).map gT = (((subs R.length).filter (gn R m)).map zg).map tupI := by rw [List.map_map]; apply List.map_congr_left; intro g _; exact gT_eq g
    have hne : ∀ r ∈ ((subs R.length).filter (gn R m)).map zg, r ≠ [] := by
      intro r hr er
      obtain ⟨g, hg, rfl⟩ := List.mem_map.1 hr
      have : g = [] := by simpa [zg] using er
      subst this
      have := (List.mem_filter.1 hg).2
      rw [gn_nil h] at this
      cases this
    rw [e, objs]
    cases hS : ((subs R.length).filter (gn R m)).map zg with
    | nil => simp [gSorted, intsOf, sortI, sortR]
    | cons a S =>
      have hi : intsOf (tupI a :: S.map tupI) = none := rfl
      have hr := rowsOf_map (a :: S) (hS ▸ hne)
      simp only [List.map_cons] at hr
      simp only [gSorted, List.map_cons, hi, hr]
/-! equality of data -/
theorem eqvAll_map {α : Type} (f : α → PyData) (P : α → α → Bool) (hf : ∀ a b, PyData.eqv (f a) (f b) = P a b) : ∀ (xs ys : List α), PyData.eqvAll (xs.map f) (ys.map f) = (decide (xs.length = ys.length) && (xs.zip ys).all fun p => P p.1 p.2)
  | [], [] => rfl
  | [], _ :: _ => by simp [PyData.eqvAll]
  | _ :: _, [] => by simp [PyData.eqvAll]
  | x :: xs, y :: ys => by
    simp only [List.map_cons, PyData.eqvAll, hf, eqvAll_map f P hf xs ys, List.length_cons, List.zip_cons_cons, List.all_cons]
    by_cases c : xs.length = ys.length <;> simp [c]
theorem eqvAll_dec {α : Type} [DecidableEq α] (f : α → PyData) (hf : ∀ a b, PyData.eqv (f a) (f b) = decide (a = b)) : ∀ (xs ys : List α), PyData.eqvAll (xs.map f) (ys.map f) = decide (xs = ys)
  | [], [] => rfl
  | [], _ :: _ => by simp [PyData.eqvAll]
  | _ :: _, [] => by simp [PyData.eqvAll]
  | x :: xs, y :: ys => by
    simp only [List.map_cons, PyData.eqvAll, hf, eqvAll_dec f hf xs ys]
    by_cases c : x = y <;> simp [c]
theorem eqv_int (a b : Int) : PyData.eqv (.int a) (.int b) = decide (a = b) := by simp [PyData.eqv]; rfl
theorem eqv_tupI (a b : List Int) : PyData.eqv (tupI a) (tupI b) = decide (a = b) := by
  show PyData.eqvAll _ _ = _
  exact eqvAll_dec _ eqv_int a b
theorem okD_tupI (n : Nat) (a : List Int) : okD (n + 1) (tupI a) = true := by simp [tupI, okD]
theorem gEqIs (a b : List Int) : gEq [.list (a.map .int), .list (b.map .int)] = some (.fz (.bool (decide (a = b)))) := by
  have e : PyData.eqv (.list (a.map .int)) (.list (b.map .int)) = decide (a = b) := eqvAll_dec _ eqv_int a b
  simp only [gEq, e]
  rw [if_pos (by simp [okD])]
theorem gNeIs (a b : List Int) : gNe [.list (a.map .int), .list (b.map .int)] = some (.fz (.bool (!decide (a = b)))) := by
  have e : PyData.eqv (.list (a.map .int)) (.list (b.map .int)) = decide (a = b) := eqvAll_dec _ eqv_int a b
  simp only [gNe, e]
  rw [if_pos (by simp [okD])]
theorem gEqT (a b : List Int) : gEq [tupI a, tupI b] = some (.fz (.bool (decide (a = b)))) := by
  simp only [gEq, eqv_tupI]
  rw [if_pos (by simp [okD_tupI])]
theorem gNeT (a b : List Int) : gNe [tupI a, tupI b] = some (.fz (.bool (!decide (a = b)))) := by
  simp only [gNe, eqv_tupI]
  rw [if_pos (by simp [okD_tupI])]
theorem gEqR (a b : List (List Int)) : gEq [.list (a.map tupI), .list (b.map tupI)] = some (.fz (.bool (decide (a = b)))) := by
  have e : PyData.eqv (.list (a.map tupI)) (.list (b.map tupI)) = decide (a = b) := eqvAll_dec _ eqv_tupI a b
  simp only [gEq, e]
  rw [if_pos ⟨by simp [okD, okD_tupI], by simp [okD, okD_tupI]⟩]
theorem gNeR (a b : List (List Int)) : gNe [.list (a.map tupI), .list (b.map tupI)] = some (.fz (.bool (!decide (a = b)))) := by
  have e : PyData.eqv (.list (a.map tupI)) (.list (b.map tupI)) = decide (a = b) := eqvAll_dec _ eqv_tupI a b
  simp only [gNe, e]
  rw [if_pos ⟨by simp [okD, okD_tupI], by simp [okD, okD_tupI]⟩]
theorem gEqB (a b : Bool) : gEq [.bool a, .bool b] = some (.fz (.bool (a == b))) := by cases a <;> cases b <;> rfl
theorem gNeB (a b : Bool) : gNe [.bool a, .bool b] = some (.fz (.bool (a != b))) := by cases a <;> cases b <;> rfl
/-! the functions with their checks -/
theorem objecting_fn {m : Nat} {R : List (List Int)} (h : Rm m R) : Fn F_objecting [rmD R] (.list ((objs R m).map tupI)) :=
  w_fn (w_then (s_check_room h (i := 0) rfl) (w_ret (a_call (.cons (a_var (i := 0) rfl) .nil) (group_list_fn h)) fun r hr => ⟨rfl, r, rfl, .inl hr⟩))
theorem is_calm_fn {m : Nat} {R : List (List Int)} (h : Rm m R) : Fn F_is_calm [rmD R] (.bool (decide (objs R m = []))) :=
  w_fn (w_then (s_check_room h (i := 0) rfl) (w_ret (a_B2 (a_call (.cons (a_var (i := 0) rfl) .nil) (group_list_fn h)).a (a_lst .nil).a (gEqR _ [])) fun r hr => ⟨rfl, r, rfl, .inl hr⟩))
theorem payments_fn {m : Nat} {R : List (List Int)} (h : Rm m R) : Fn F_payments [rmD R] (.list ((pays R m).map .int)) :=
  w_fn (w_then (s_check_room h (i := 0) rfl) (w_ret (a_B2 (a_call (.cons (a_var (i := 0) rfl) .nil) (outcome_fn h)).a (a_c (x := nI 1)).a (gIxT (d := .list ((pays R m).map .int)) rfl)) fun r hr => ⟨rfl, r, rfl, .inl hr⟩))
theorem best_allotment_fn {m : Nat} {R : List (List Int)} (h : Rm m R) : Fn F_best_allotment [rmD R] (tupI (opA R m)) :=
  w_fn (w_then (s_check_room h (i := 0) rfl) (w_ret (a_B2 (a_call (.cons (a_var (i := 0) rfl) (.cons (a_call (.cons (a_var (i := 0) rfl) .nil) (everyone_fn h.n4)) .nil)) (best_for_fn h range_lt (by simpa using h.n4))).a (a_c (x := nI 1)).a (gIxT (d := tupI (opA R m)) rfl)) fun r hr => ⟨rfl, r, rfl, .inl hr⟩))
structure Grp (n : Nat) (g : List Nat) : Prop where
  lt : ∀ i ∈ g, i < n
  up : g.Pairwise (· < ·)
theorem Grp.len {n : Nat} {g : List Nat} (h : Grp n g) : g.length ≤ n := by
  have hn : g.Nodup := h.up.imp fun h => Nat.ne_of_lt h
  have := (List.nodup_range (n := n))
  have := List.Nodup.length_le_of_subset hn (l₂ := List.range n) fun i hi => List.mem_range.2 (h.lt i hi)
  simpa using this
theorem zip_drop_all {g : List Nat} (h : g.Pairwise (· < ·)) : (g.zip (g.drop 1)).all (fun p => decide (p.1 < p.2)) = true := by
  induction g with
  | nil => rfl
  | cons a g ih => cases g with
    | nil => rfl
    | cons b g =>
      have h1 := (List.pairwise_cons.1 h)
      have := ih h1.2
      simp only [List.drop_succ_cons, List.drop_zero, List.zip_cons_cons, List.all_cons] at this ⊢
      rw [this, Bool.and_true]
      exact decide_eq_true (h1.1 b (by simp))
theorem zip2_nat (a b : List Nat) : zip2L (a.map nI) (b.map nI) = (a.zip b).map fun p => .tuple [nI p.1, nI p.2] := by
  induction a generalizing b with
  | nil => cases b <;> rfl
  | cons x a ih => cases b with
    | nil => rfl
    | cons y b => simp only [List.map_cons, zip2L, ih, List.zip_cons_cons]
theorem a_cut1 {g : List Nat} {e : List Sl} {j : Nat} (hj : e[j]? = some (.fz (gT g))) : Af (dB (gLo gCut) [(dVar j), (dC (.int 1))]) e (.tuple ((g.drop 1).map nI)) := by
  refine a_B2 (a_var hj).a a_c.a ?_
  simp only [gT, gLo, gCut, cutD, HT.sIx_none, HT.sIx]
  cases g with
  | nil => rfl
  | cons a g => simp; rw [List.take_of_length_le (by simp)]
theorem s_check_group {R : List (List Int)} (h1 : 1 ≤ R.length) (h4 : R.length ≤ 4) {g : List Nat} (hg : Grp R.length g) {e : List Sl} {i j : Nat} (hi : e[i]? = some (.fz (rmD R))) (hj : e[j]? = some (.fz (gT g))) : dExpr (dCall F_check_group [(dVar i), (dVar j)]) e = .ok .nx e := by
  have gl := hg.len
  have : F_check_group [.fz (rmD R), .fz (gT g)] = .ok (.fz .none) [.fz (rmD R), .fz (gT g)] := by
    have a1 := a_map (t := .nm 2) (vs := [2]) (di := dIt gSeq [(dVar 1)]) (te := dCall F_is_integer [(dVar 2), (dC (.int 0)), (dB gSub [(dB gLen [(dVar 0)]), (dC (.int 1))])]) (e := [.fz (rmD R), .fz (gT g), .un, .un]) nI (fun _ => .bool true) g (i_seqT (a_var rfl)) (fun i => [.fz (rmD R), .fz (gT g), .fz (nI i), .un]) rfl fun i hi => ⟨rfl, rfl, ?_⟩
    · have a2 := a_B1 (g := gAll) a1.a (by have := gAllL (g.map fun _ => true); rwa [List.map_map] at this)
      rw [show (g.map fun _ => true).all id = true by simp] at a2
      have T1 := t_or (e := [.fz (rmD R), .fz (gT g), .un, .un]) (t_not (b := true) (t_truth (a_B1 (g := gIsi "tuple") (x := gT g) (z := .bool true) (a_var (i := 1) rfl).a rfl).a)) fun _ => t_not (t_truth a2.a)
      have s1 := s_if_skip (a := dRaise "InvalidGroup") T1
      have a3 := a_map (t := .tp [2, 3]) (vs := [2, 3]) (di := dIt gZip2 [(dVar 1), (dB (gLo gCut) [(dVar 1), (dC (.int 1))])]) (te := dB gLt [(dVar 2), (dVar 3)]) (e := [.fz (rmD R), .fz (gT g), .un, .un]) (fun p : Nat × Nat => .tuple [nI p.1, nI p.2]) (fun p => .bool (decide (p.1 < p.2))) (g.zip (g.drop 1)) (it_eq (.cons (a_var (i := 1) rfl) (.cons (a_cut1 rfl) .nil)) ?_) (fun p => [.fz (rmD R), .fz (gT g), .fz (nI p.1), .fz (nI p.2)]) rfl fun p hp => ⟨rfl, rfl, a_B2 (a_var (i := 2) rfl).a (a_var (i := 3) rfl).a gLtN⟩
      · have a4 := a_B1 (g := gAll) a3.a (by have := gAllL ((g.zip (g.drop 1)).map fun p => decide (p.1 < p.2)); rwa [List.map_map] at this)
        rw [List.all_map, show (id ∘ fun p : Nat × Nat => decide (p.1 < p.2)) = fun p => decide (p.1 < p.2) from rfl, zip_drop_all hg.up] at a4
        have s2 := s_if_skip (a := dRaise "InvalidGroup") (t_not (t_truth a4.a))
        have s12 := (dSeq_nx s1).trans s2
        simp only [F_check_group, fnD, B_check_group, List.replicate, List.cons_append, List.nil_append, s12]
        rfl
      · show some (zip2L (g.map nI) (g.drop 1 |>.map nI)) = _
        rw [zip2_nat]
    · have hi := hg.lt i hi
      have := a_call (e := [.fz (rmD R), .fz (gT g), .fz (nI i), .un]) (.cons (a_var (i := 2) rfl) (.cons (a_c (x := .int 0)) (.cons (a_B2 (g := gSub) (a_B1 (g := gLen) (a_var (i := 0) rfl).a (gLenT _)).a (a_c (x := .int 1)).a rfl) .nil))) (is_integer_fn (i : Int) 0 _)
      rw [show (decide ((0 : Int) ≤ (i : Int)) && decide ((i : Int) ≤ (((R.map tupI).length : Nat) : Int) - 1)) = true by simp; omega] at this
      exact this
  exact s_expr' (a_call (xs := [rmD R, gT g]) (.cons (a_var hi) (.cons (a_var hj) .nil)) ⟨_, this, rfl⟩)
theorem best_total_fn {m : Nat} {R : List (List Int)} (h : Rm m R) {g : List Nat} (hg : Grp R.length g) : Fn F_best_total [rmD R, gT g] (.int (Vb R m g)) :=
  w_fn (w_then (s_check_room h (i := 0) rfl) (w_then (s_check_group h.n1 h.n4 hg (i := 0) (j := 1) rfl rfl) (w_ret (a_B2 (a_call (.cons (a_var (i := 0) rfl) (.cons (a_B1l (a_var (i := 1) rfl).a rfl) .nil)) (best_for_fn h hg.lt (Nat.le_trans hg.len h.n4))).a (a_c (x := nI 0)).a (gIxT (d := .int (Vb R m g)) rfl)) fun r hr => ⟨rfl, r, rfl, .inl hr⟩)))
theorem objects_fn {m : Nat} {R : List (List Int)} (h : Rm m R) {g : List Nat} (hg : Grp R.length g) : Fn F_objects [rmD R, gT g] (.bool (gn R m g)) :=
  w_fn (w_then (s_check_room h (i := 0) rfl) (w_then (s_check_group h.n1 h.n4 hg (i := 0) (j := 1) rfl rfl) (w_ret (a_call (.cons (a_var (i := 0) rfl) (.cons (a_var (i := 1) rfl) .nil)) (gains_fn h hg.lt (Nat.le_trans hg.len h.n4))) fun r hr => ⟨rfl, r, rfl, .inl hr⟩)))
end DL

/-! M9: draws. -/
namespace DL
open PySem PySem.Spec PyProof.Rows L2
def sc (ns : List Int) : PyData := .list (ns.map .int)
def tw0 (t : Nat) : Sl := .own (.l (List.replicate t (.int 0)))
theorem gMulI {a b : Int} (h : (-1000000000000 < b ∧ b < 1000000000000) ∨ (-1000000000000 < a ∧ a < 1000000000000)) : gMul [.int a, .int b] = some (.fz (.int (a * b))) := by
  simp only [gMul]; rw [if_pos h]
theorem gModI {a b : Int} (h : 0 < b) : gMod [.int a, .int b] = some (.fz (.int (a % b))) := by
  simp only [gMod, gI2]; rw [if_pos (by simpa using h)]
theorem gDivI {a b : Int} (h : 0 < b) (h2 : b < 1073741824) : gDiv [.int a, .int b] = some (.fz (.int (a / b))) := by
  simp only [gDiv, gI2]; rw [if_pos (by simp; omega)]
theorem sc_ix {ns : List Int} {k : Nat} (h : k < ns.length) : gIx [sc ns, nI k] = some (.fz (.int (ns.getD k 0))) := by
  refine gIxL ?_
  rw [List.getElem?_map, List.getElem?_eq_getElem h]
  simp [List.getD, h]
theorem sc_len (ns : List Int) : gLen [sc ns] = some (.fz (nI ns.length)) := by rw [sc, gLenL, List.length_map]
theorem rx_int {r : Rv} {v : Int} (h : Rx [] r (.int v)) : r = .fz (.int v) := by
  cases r with
  | fz d => cases h; rfl
  | nw c => cases c <;> simp [Rx] at h
  | bor i => obtain ⟨_, h, _⟩ := h; simp at h
theorem cell_at_fn {ns : List Int} (hn : ns.length ≤ 63) (k : Nat) (hk : k ≤ 1000000) : ∃ v : Int, Fn F_law_cell_at [sc ns, nI k] (.int v) := by
  have T1 := t_truth (a_B2 (g := gLt) (e := [.fz (sc ns), .fz (nI k), .un, .un]) (a_var (i := 1) rfl).a (a_B1 (g := gLen) (a_var (i := 0) rfl).a (sc_len _)).a gLtN).a
  by_cases c : k < ns.length
  · refine ⟨ns.getD k 0, w_fn ?_⟩
    refine w_seq (w_if T1 (fun _ => w_ret (a_B2 (a_var (i := 0) rfl).a (a_var (i := 1) rfl).a (sc_ix c)) fun r hr => ⟨(fun h => by cases h), (fun r' e' => ?_)⟩) fun h => by simp [c] at h)
    cases e'
    exact ⟨rfl, r, rfl, .inl hr⟩
  · rw [decide_eq_false c] at T1
    have T2 := t_truth (a_B2 (g := gEq) (e := [.fz (sc ns), .fz (nI k), .un, .un]) (a_var (i := 0) rfl).a (a_lst .nil).a (gEqIs ns [])).a
    by_cases c2 : ns = []
    · refine ⟨0, w_fn ?_⟩
      rw [decide_eq_true c2] at T2
      refine w_then (s_if_skip T1) (w_seq (w_if T2 (fun _ => w_ret a_c fun r hr => ⟨(fun h => by cases h), (fun r' e' => ?_)⟩) fun h => by cases h))
      cases e'
      exact ⟨rfl, r, rfl, .inl hr⟩
    · rw [decide_eq_false c2] at T2
      have hl : 0 < ns.length := List.length_pos_iff.2 c2
      have hq : k % ns.length < ns.length := Nat.mod_lt _ hl
      have ix : ∀ x2 x3, Af (dB gIx [(dVar 0), (dB gMod [(dVar 1), (dB gLen [(dVar 0)])])]) [.fz (sc ns), .fz (nI k), x2, x3] (.int (ns.getD (k % ns.length) 0)) := fun x2 x3 =>
        a_B2 (a_var (i := 0) rfl).a (a_B2 (a_var (i := 1) rfl).a (a_B1 (g := gLen) (a_var (i := 0) rfl).a (sc_len _)).a (gModN hl)).a (sc_ix hq)
      generalize ns.getD (k % ns.length) 0 = w at ix
      have key : ∃ v : Int, W (B_law_cell_at [.fz (sc ns), .fz (nI k), .un, .un]) fun f e => e.take 2 = [.fz (sc ns), .fz (nI k)] ∧ f = .rt (.fz (.int v)) := by
        let q : Nat := min (k / ns.length) 60
        let fin : Int := (List.range q).foldl (fun s _ => s / 1000003) w
        refine ⟨w * 31 + k + fin * 101, ?_⟩
        refine w_then (s_if_skip T1) (w_then (s_if_skip T2) (w_then (s_setF' (i := 2) (ix _ _)) ?_))
        refine w_seq (w_for nI (fun (s : Int) e => ∃ x3, e = [.fz (sc ns), .fz (nI k), .fz (.int s), x3]) (fun s _ => s / 1000003) (List.range q) w ?_ ⟨_, rfl⟩ ?_ ?_)
        · refine it_eq (xs := [nI q]) (.cons ?_ .nil) (rng1 (n := q) (by show min _ _ ≤ _; omega))
          refine a_B2 (a_B2 (a_var (i := 1) rfl).a (a_B1 (g := gLen) (a_var (i := 0) rfl).a (sc_len _)).a (gDivN hl (by omega))).a (a_c (x := nI 60)).a ?_
          show some (Out.fz (.int (if ((60 : Nat) : Int) < ((k / ns.length : Nat) : Int) then ((60 : Nat) : Int) else ((k / ns.length : Nat) : Int)))) = _
          congr 3
          show _ = ((min (k / ns.length) 60 : Nat) : Int)
          split <;> omega
        · rintro s x _ hx ⟨x3, rfl⟩
          exact ⟨_, rfl, w_ok (s_setF' (i := 2) (a_B2 (a_var (i := 2) rfl).a (a_c (x := .int 1000003)).a (gDivI (by decide) (by decide)))) ⟨rfl, _, rfl⟩⟩
        · rintro _ ⟨x3, rfl⟩
          refine ⟨fun _ => w_ret (a_B2 (a_B2 (a_B2 (ix _ _).a (a_c (x := .int 31)).a (gMulI (by omega))).a (a_var (i := 1) rfl).a rfl).a (a_B2 (a_var (i := 2) rfl).a (a_c (x := .int 101)).a (gMulI (by omega))).a rfl) fun r hr => ⟨rfl, ?_⟩, fun r hr => by cases hr⟩
          cases r with
          | fz d => cases hr; rfl
          | nw c => cases c <;> simp [Rx] at hr
          | bor i => obtain ⟨_, h, _⟩ := hr; simp at h
      obtain ⟨v, hv⟩ := key
      refine ⟨v, w_fn (hv.mono fun f e h => ⟨h.1, _, h.2, .inl rfl⟩)⟩
theorem mixed_fn {ns : List Int} (hn : ns.length ≤ 63) (k : Nat) (hk : k ≤ 1000000) {many : Int} (hm : 0 < many) : ∃ v : Int, 0 ≤ v ∧ v < many ∧ Fn F_law_mixed [sc ns, nI k, .int many] (.int v) := by
  obtain ⟨c, hc⟩ := cell_at_fn hn k hk
  let sp : Int := (c * 1103515245 + 7919 * (k : Int) + 12345) % 2147483647
  have s0 : 0 ≤ sp := Int.emod_nonneg _ (by decide)
  have s1 : sp < 2147483647 := Int.emod_lt_of_pos _ (by decide)
  refine ⟨sp ^ 5 % 2147483647 % 999983 % many, Int.emod_nonneg _ (by omega), Int.emod_lt_of_pos _ hm, w_fn ?_⟩
  refine w_then (s_setF' (i := 3) (a_B2 (a_B2 (a_B2 (a_B2 (a_call (.cons (a_var (i := 0) rfl) (.cons (a_var (i := 1) rfl) .nil)) hc).a (a_c (x := .int 1103515245)).a (gMulI (by omega))).a (a_B2 (a_c (x := .int 7919)).a (a_var (i := 1) rfl).a (gMulI (by omega))).a rfl).a (a_c (x := .int 12345)).a rfl).a (a_c (x := .int 2147483647)).a (gModI (by decide)))) ?_
  refine w_ret (a_B2 (a_B2 (a_B2 (a_B2 (a_var (i := 3) rfl).a (a_c (x := .int 5)).a (z := .int (sp ^ 5)) ?_).a (a_c (x := .int 2147483647)).a (gModI (by decide))).a (a_c (x := .int 999983)).a (gModI (by decide))).a (a_var (i := 2) rfl).a (gModI hm)) fun r hr => ⟨rfl, r, rfl, .inl hr⟩
  show gI2 _ _ [.int sp, .int 5] = _
  simp only [gI2]
  rw [if_pos (by simp; omega)]
  rfl
theorem draw_eq {ns : List Int} (hn : ns.length ≤ 63) {t : Nat} (ht : t < 90000) {many : Int} (hm : 0 < many) : ∃ v : Int, 0 ≤ v ∧ v < many ∧ F_law_draw [.fz (sc ns), tw0 t, .fz (.int many)] = .ok (.fz (.int v)) [.fz (sc ns), tw0 (t + 1), .fz (.int many)] := by
  obtain ⟨v, h0, h1, h2⟩ := mixed_fn hn (t + 1) (by omega) hm
  refine ⟨v, h0, h1, ?_⟩
  have s1 := s_app (i := 1) (e := [.fz (sc ns), tw0 t, .fz (.int many)]) (xs := List.replicate t (.int 0)) rfl (by simp; omega) (a_c (x := .int 0))
  have e1 : [.fz (sc ns), tw0 t, .fz (.int many)].set 1 (Sl.own (.l (List.replicate t (.int 0) ++ [.int 0]))) = [.fz (sc ns), tw0 (t + 1), .fz (.int many)] := by
    show [_, Sl.own (.l (List.replicate t (.int 0) ++ [.int 0])), _] = _
    rw [← List.replicate_succ']
    rfl
  rw [e1] at s1
  have a1 := a_call (e := [.fz (sc ns), tw0 (t + 1), .fz (.int many)]) (.cons (a_var (i := 0) rfl) (.cons (a_B1 (g := gLen) (z := nI (t + 1)) (a_own (i := 1) rfl) (by rw [gLenL]; simp)) (.cons (a_var (i := 2) rfl) .nil))) h2
  obtain ⟨r, hr1, hr2⟩ := a1
  have : r = .fz (.int v) := by
    cases r with
    | fz d => cases hr2; rfl
    | nw c => cases c <;> simp [Rx] at hr2
    | bor i => obtain ⟨_, h, _⟩ := hr2; simp at h
  subst this
  simp only [F_law_draw, fnD, B_law_draw, List.replicate, List.append_nil]
  rw [dSeq_nx s1]
  simp only [dRet, bnd, hr1, ret, fnEnd]
  rfl
/-- a draw at a place of a def -/
theorem draw_call {ns : List Int} (hn : ns.length ≤ 63) {t : Nat} (ht : t < 90000) {many : Int} (hm : 0 < many) {e : List Sl} {i j : Nat} {d : Dn Rv} (hi : e[i]? = some (.fz (sc ns))) (hj : e[j]? = some (tw0 t)) (hd : Af d e (.int many)) :
    ∃ v : Int, 0 ≤ v ∧ v < many ∧ dCall F_law_draw [(dVar i), (dVar j), d] e = .ok (.fz (.int v)) (e.set j (tw0 (t + 1))) := by
  obtain ⟨v, h0, h1, h2⟩ := draw_eq hn ht hm
  refine ⟨v, h0, h1, ?_⟩
  obtain ⟨r, hr1, hr2⟩ := hd
  cases rx_int hr2
  have hj' : e[j]? = some (.own (.l (List.replicate t (.int 0)))) := hj
  have h2' : F_law_draw [.fz (sc ns), .own (.l (List.replicate t (.int 0))), .fz (.int many)] = .ok (.fz (.int v)) [.fz (sc ns), tw0 (t + 1), .fz (.int many)] := h2
  simp only [dCall, dArgs, bnd, dVar, hi, hj', hr1, hold, ret, dCl, noTwice, borNot, slotsOf, slotOf, h2', back, Bool.and_true, if_true]
end DL

/-! M10: bids that are made. -/
namespace DL
open PySem PySem.Spec PyProof.Rows L2
theorem inside_lt {s t : Nat} (h : t ∈ inside s) : t < 3 := List.mem_range.1 (List.mem_filter.1 h).1
theorem inside_m {s t m : Nat} (hs : s < 2 ^ m) (h : t ∈ inside s) : t < m := by
  have h3 := inside_lt h
  rw [mem_inside h3] at h
  by_cases c : t < m
  · exact c
  · have : 2 ^ m ≤ 2 ^ t := Nat.pow_le_pow_right (by decide) (by omega)
    rw [Nat.div_eq_of_lt (by omega)] at h
    simp at h
theorem gMaxL (n : Int) (ns : List Int) : gMax [.list ((n :: ns).map .int)] = some (.fz (.int (maxL (n :: ns)))) := by simp only [gMax, intsOf_map]
theorem a_size {m : Nat} (h1 : 1 ≤ m) (h3 : m ≤ 3) {d : Dn Rv} {e : List Sl} (hd : Af d e (nI m)) : Af (dB gIx [(dC (.tuple [(.int 2), (.int 4), (.int 8)])), (dB gSub [d, (dC (.int 1))])]) e (nI (2 ^ m)) := by
  have : m = 1 ∨ m = 2 ∨ m = 3 := by omega
  rcases this with rfl | rfl | rfl
  · exact a_B2 a_c.a (a_B2 (z := nI 0) hd.a a_c.a rfl).a rfl
  · exact a_B2 a_c.a (a_B2 (z := nI 1) hd.a a_c.a rfl).a rfl
  · exact a_B2 a_c.a (a_B2 (z := nI 2) hd.a a_c.a rfl).a rfl
theorem s_check_worths {ws : List Int} {most : Int} (h1 : 1 ≤ ws.length) (h3 : ws.length ≤ 3) (hw : ∀ w ∈ ws, 0 ≤ w ∧ w ≤ most) {e : List Sl} {i : Nat} {d : Dn Rv} (hi : e[i]? = some (.fz (tupI ws))) (hd : Af d e (.int most)) : dExpr (dCall F_check_worths [(dVar i), d]) e = .ok .nx e := by
  have : F_check_worths [.fz (tupI ws), .fz (.int most)] = .ok (.fz .none) [.fz (tupI ws), .fz (.int most)] := by
    have C : (decide ((1 : Int) ≤ ((ws.map PyData.int).length : Nat)) && decide ((((ws.map PyData.int).length : Nat) : Int) ≤ 3)) = true := by simp; omega
    have T1 := t_or (e := [.fz (tupI ws), .fz (.int most), .un]) (t_not (b := true) (t_truth (a_B1 (g := gIsi "tuple") (x := tupI ws) (z := .bool true) (a_var (i := 0) rfl).a rfl).a)) fun _ => t_not (t_truth (a_chain (g := gLe) (g' := gLe) (a_c (x := .int 1)) (a_B1 (g := gLen) (a_var (i := 0) rfl).a (gLenT _)) (a_c (x := .int 3)) rfl rfl).a)
    rw [C] at T1
    have a1 := a_map (t := .nm 2) (vs := [2]) (di := dIt gSeq [(dVar 0)]) (te := dCall F_is_integer [(dVar 2), (dC (.int 0)), (dVar 1)]) (e := [.fz (tupI ws), .fz (.int most), .un]) PyData.int (fun _ => .bool true) ws (i_seqT (a_var rfl)) (fun v => [.fz (tupI ws), .fz (.int most), .fz (.int v)]) rfl fun v hv => ⟨rfl, rfl, ?_⟩
    · have a2 := a_B1 (g := gAll) a1.a (by have := gAllL (ws.map fun _ => true); rwa [List.map_map] at this)
      rw [show (ws.map fun _ => true).all id = true by simp] at a2
      have s12 := (dSeq_nx (s_if_skip (a := dRaise "InvalidNumber") T1)).trans (s_if_skip (a := dRaise "InvalidNumber") (t_not (t_truth a2.a)))
      simp only [F_check_worths, fnD, B_check_worths, List.replicate, List.cons_append, List.nil_append, s12]
      rfl
    · have := a_call (e := [.fz (tupI ws), .fz (.int most), .fz (.int v)]) (.cons (a_var (i := 2) rfl) (.cons (a_c (x := .int 0)) (.cons (a_var (i := 1) rfl) .nil))) (is_integer_fn v 0 most)
      rw [show (decide ((0 : Int) ≤ v) && decide (v ≤ most)) = true by have := hw v hv; simp; omega] at this
      exact this
  exact s_expr' (a_call (xs := [tupI ws, .int most]) (.cons (a_var hi) (.cons hd .nil)) ⟨_, this, rfl⟩)
def sgl (m : Nat) (ws : List Int) : List Int := (List.range (2 ^ m)).map fun s => maxL ((inside s).map (fun t => ws.getD t 0) ++ [0])
theorem ws_ix {ws : List Int} {t : Nat} (h : t < ws.length) : gIx [tupI ws, nI t] = some (.fz (.int (ws.getD t 0))) := by
  refine gIxT ?_
  rw [List.getElem?_map, List.getElem?_eq_getElem h]
  simp [List.getD, h]
theorem pow8 {m : Nat} (h : m ≤ 3) : 2 ^ m ≤ 8 := Nat.pow_le_pow_right (by decide) h
theorem maxL_snoc (l : List Int) : ∃ n ns, l ++ [0] = n :: ns := by cases l with
  | nil => exact ⟨0, [], rfl⟩
  | cons a l => exact ⟨a, l ++ [0], rfl⟩
theorem single_bid_fn {m : Nat} {ws : List Int} (h1 : 1 ≤ m) (h3 : m ≤ 3) (hl : ws.length = m) (hw : ∀ w ∈ ws, 0 ≤ w ∧ w ≤ 9) : Fn F_single_bid [tupI ws] (tupI (sgl m ws)) := by
  have h8 := pow8 h3
  refine w_fn (w_then (s_check_worths (by omega) (by omega) hw (i := 0) rfl a_c) (w_then (s_setF' (i := 1) (a_size h1 h3 (a_B1 (z := nI m) (a_var (i := 0) rfl).a (by rw [tupI, gLenT, List.length_map, hl])))) ?_))
  have a1 := a_map (t := .nm 2) (vs := [2]) (di := dIt gRng1 [(dVar 1)]) (te := dB gMax [(dB gAdd [(dComp (dIt gSeq [(dCall F_things_in [(dVar 2)])]) (.nm 3) dYes (dB gIx [(dVar 0), (dVar 3)]) [3]), (dLst [(dC (.int 0))])])]) (e := [.fz (tupI ws), .fz (nI (2 ^ m)), .un, .un]) nI (fun s => .int (maxL ((inside s).map (fun t => ws.getD t 0) ++ [0]))) (List.range (2 ^ m)) (i_rng1 (by omega) (a_var rfl)) (fun s => [.fz (tupI ws), .fz (nI (2 ^ m)), .fz (nI s), .un]) rfl fun s hs => ⟨rfl, rfl, ?_⟩
  · refine w_ret (a_B1 (g := gTuple) a1.a rfl) fun r hr => ⟨rfl, r, rfl, .inl ?_⟩
    rw [tupI, sgl, List.map_map]
    exact hr
  · have hs := List.mem_range.1 hs
    have a2 := a_map (t := .nm 3) (vs := [3]) (di := dIt gSeq [(dCall F_things_in [(dVar 2)])]) (te := dB gIx [(dVar 0), (dVar 3)]) (e := [.fz (tupI ws), .fz (nI (2 ^ m)), .fz (nI s), .un]) nI (fun t => .int (ws.getD t 0)) (inside s) (i_seqL (a_call (.cons (a_var (i := 2) rfl) .nil) (things_in_fn s))) (fun t => [.fz (tupI ws), .fz (nI (2 ^ m)), .fz (nI s), .fz (nI t)]) rfl fun t ht => ⟨rfl, rfl, a_B2 (a_var (i := 0) rfl).a (a_var (i := 3) rfl).a (ws_ix (by rw [hl]; exact inside_m hs ht))⟩
    obtain ⟨n, ns, hn⟩ := maxL_snoc ((inside s).map fun t => ws.getD t 0)
    refine a_B1 (a_B2l a2.a (a_lst (.cons (a_c (x := .int 0)) .nil)).a (zs := (n :: ns).map .int) ?_).a ?_
    · have hk : (inside s).length ≤ 3 := by have := List.length_filter_le (fun t => decide (s / 2 ^ t % 2 = 1)) (List.range 3); simpa [inside] using this
      have : gAdd [.list ((inside s).map fun t => PyData.int (ws.getD t 0)), .list [.int 0]] = some (.nl (((inside s).map fun t => PyData.int (ws.getD t 0)) ++ [.int 0])) := if_pos (by simp; omega)
      rw [this, ← hn, List.map_append, List.map_map]
      rfl
    · rw [gMaxL, hn]
theorem s_check_things {m : Nat} (h1 : 1 ≤ m) (h3 : m ≤ 3) {e : List Sl} {i : Nat} (hi : e[i]? = some (.fz (nI m))) : dExpr (dCall F_check_things [(dVar i)]) e = .ok .nx e := by
  have : F_check_things [.fz (nI m)] = .ok (.fz .none) [.fz (nI m)] := by
    have a1 := a_call (e := [.fz (nI m)]) (.cons (a_var (i := 0) rfl) (.cons (a_c (x := .int 1)) (.cons (a_c (x := .int 3)) .nil))) (is_integer_fn (m : Int) 1 3)
    rw [show (decide ((1 : Int) ≤ (m : Int)) && decide ((m : Int) ≤ 3)) = true by simp; omega] at a1
    have := s_if_skip (a := dRaise "InvalidNumber") (t_not (t_truth a1.a))
    simp only [F_check_things, fnD, B_check_things, List.replicate, List.append_nil, this]
    rfl
  exact s_expr' (a_call (xs := [nI m]) (.cons (a_var hi) .nil) ⟨_, this, rfl⟩)
theorem gInN {t : Nat} {ts : List Nat} : gIn [nI t, .list (ts.map nI)] = some (.fz (.bool (decide (t ∈ ts)))) := by
  have h1 : (ts.map nI).all (okD 7) = true := by simp [nI, okD]
  have h2 : ((ts.map nI).any fun z => PyData.eqv z (nI t)) = decide (t ∈ ts) := by
    clear h1
    induction ts with
    | nil => rfl
    | cons a ts ih => simp [nI, PyData.eqv] at ih ⊢; rw [ih]; grind
  simp only [gIn, gInG]
  rw [if_pos ⟨rfl, h1⟩, h2]
  simp [inB]
def hld (s g : Nat) : Bool := (inside g).all fun t => decide (t ∈ inside s)
theorem holds_fn (s g : Nat) : Fn F_holds [nI s, nI g] (.bool (hld s g)) := by
  refine fn_ret rfl ?_
  have a1 := a_map (t := .nm 2) (vs := [2]) (di := dIt gSeq [(dCall F_things_in [(dVar 1)])]) (te := dB gIn [(dVar 2), (dCall F_things_in [(dVar 0)])]) (e := [.fz (nI s), .fz (nI g), .un]) nI (fun t => .bool (decide (t ∈ inside s))) (inside g) (i_seqL (a_call (.cons (a_var (i := 1) rfl) .nil) (things_in_fn g))) (fun t => [.fz (nI s), .fz (nI g), .fz (nI t)]) rfl fun t ht => ⟨rfl, rfl, a_B2 (a_var (i := 2) rfl).a (a_call (.cons (a_var (i := 0) rfl) .nil) (things_in_fn s)).a gInN⟩
  have a2 := a_B1 (g := gAll) a1.a (by have := gAllL ((inside g).map fun t => decide (t ∈ inside s)); rwa [List.map_map] at this)
  rw [List.all_map] at a2
  exact a2
def pkg (m g : Nat) (w : Int) : List Int := (List.range (2 ^ m)).map fun s => if hld s g = true then w else 0
theorem package_bid_fn {m g : Nat} {w : Int} (h1 : 1 ≤ m) (h3 : m ≤ 3) (g1 : 1 ≤ g) (g2 : g < 2 ^ m) (w0 : 0 ≤ w) (w9 : w ≤ 9) : Fn F_package_bid [nI m, nI g, .int w] (tupI (pkg m g w)) := by
  have h8 := pow8 h3
  have a1 := a_call (e := [.fz (nI m), .fz (nI g), .fz (.int w), .un]) (.cons (a_var (i := 1) rfl) (.cons (a_c (x := .int 1)) (.cons (a_B2 (g := gSub) (a_size h1 h3 (a_var (i := 0) rfl)).a (a_c (x := .int 1)).a rfl) .nil))) (is_integer_fn (g : Int) 1 _)
  rw [show (decide ((1 : Int) ≤ (g : Int)) && decide ((g : Int) ≤ ((2 ^ m : Nat) : Int) - 1)) = true from (fun z (hz : g < z) => by simp; omega : ∀ z : Nat, g < z → (decide ((1 : Int) ≤ (g : Int)) && decide ((g : Int) ≤ (z : Int) - 1)) = true) _ g2] at a1
  have a2 := a_call (e := [.fz (nI m), .fz (nI g), .fz (.int w), .un]) (.cons (a_var (i := 2) rfl) (.cons (a_c (x := .int 0)) (.cons (a_c (x := .int 9)) .nil))) (is_integer_fn w 0 9)
  rw [show (decide ((0 : Int) ≤ w) && decide (w ≤ 9)) = true by simp; omega] at a2
  refine w_fn (w_then (s_check_things h1 h3 (i := 0) rfl) (w_then (s_if_skip (t_or (t_not (t_truth a1.a)) fun _ => t_not (t_truth a2.a))) ?_))
  have a3 := a_map (t := .nm 3) (vs := [3]) (di := dIt gRng1 [(dB gIx [(dC (.tuple [(.int 2), (.int 4), (.int 8)])), (dB gSub [(dVar 0), (dC (.int 1))])])]) (te := dIfE (dTruth (dCall F_holds [(dVar 3), (dVar 1)])) (dVar 2) (dC (.int 0))) (e := [.fz (nI m), .fz (nI g), .fz (.int w), .un]) nI (fun s => .int (if hld s g = true then w else 0)) (List.range (2 ^ m)) (i_rng1 (by omega) (a_size h1 h3 (a_var (i := 0) rfl))) (fun s => [.fz (nI m), .fz (nI g), .fz (.int w), .fz (nI s)]) rfl fun s hs => ⟨rfl, rfl, ?_⟩
  · refine w_ret (a_B1 (g := gTuple) a3.a rfl) fun r hr => ⟨rfl, r, rfl, .inl ?_⟩
    rw [tupI, pkg, List.map_map]
    exact hr
  · refine a_ife (t_truth (a_call (.cons (a_var (i := 3) rfl) (.cons (a_var (i := 1) rfl) .nil)) (holds_fn s g)).a) (fun c => ?_) (fun c => ?_)
    · rw [if_pos c]; exact a_var rfl
    · rw [if_neg (by simp [c])]; exact a_c
theorem bid2 {b1 b2 b3 : Int} (h1 : 0 ≤ b1) (h2 : 0 ≤ b2) (h3 : b1 ≤ b3) (h4 : b2 ≤ b3) (h5 : b3 ≤ 9) : Bid 2 [0, b1, b2, b3] := by
  refine ⟨rfl, ?_, rfl, ?_⟩
  · intro x hx
    simp at hx
    omega
  · intro s t x y ht hs hx hy
    have : t = 0 ∨ t = 1 := by omega
    have hs4 : s + 2 ^ t < 4 := by
      have := (List.getElem?_eq_some_iff.1 hy).1
      simpa using this
    rcases this with rfl | rfl
    · have : s = 0 ∨ s = 2 := by simp at hs hs4; omega
      rcases this with rfl | rfl <;> simp at hx hy <;> omega
    · have : s = 0 ∨ s = 1 := by simp at hs hs4; omega
      rcases this with rfl | rfl <;> simp at hx hy <;> omega
theorem bid1 {b1 : Int} (h1 : 0 ≤ b1) (h2 : b1 ≤ 9) : Bid 1 [0, b1] := by
  refine ⟨rfl, ?_, rfl, ?_⟩
  · intro x hx
    simp at hx
    omega
  · intro s t x y ht hs hx hy
    have : t = 0 := by omega
    subst this
    have hs4 : s + 2 ^ 0 < 2 := by
      have := (List.getElem?_eq_some_iff.1 hy).1
      simpa using this
    have : s = 0 := by simp at hs4; omega
    subst this
    simp at hx hy
    omega
end DL

/-! M11: laws. -/
namespace DL
open PySem PySem.Spec PyProof.Rows L2
theorem law_of {nl : Nat} {B : Dn Fl} {x : Sl} (h : W (B (x :: List.replicate nl .un)) fun f _ => f = .rt (.fz (.bool true))) : ∃ e, fnD 1 nl B [x] = .ok (.fz (.bool true)) e := by
  unfold fnD
  simp only [List.cons_append, List.nil_append]
  cases hb : B (x :: List.replicate nl .un) with
  | ok f e => rw [hb] at h; cases (show f = _ from h); exact ⟨_, rfl⟩
  | ex c e => rw [hb] at h; exact h.elim
  | bad => rw [hb] at h; exact h.elim
/-- turns that draw -/
theorem compL_dr {α β : Type} {tg : Tg} {te : Dn Rv} {vs : List Nat} (E : Nat → List Sl) (emb : α → PyData) (P : β → Prop) (f : β → PyData) (xs : List α) (t : Nat)
    (h : ∀ t' x, t ≤ t' → t' < t + xs.length → x ∈ xs → ∃ y, P y ∧ ∃ e1 r e2 e3, tgD tg (emb x) (E t') = .ok () e1 ∧ te e1 = .ok r e2 ∧ cmt r e2 = .ok (f y) e3 ∧ wipeE e3 vs = E (t' + 1)) :
    ∃ ys : List β, ys.length = xs.length ∧ (∀ y ∈ ys, P y) ∧ compL tg dYes te vs (xs.map emb) (E t) = .ok (ys.map f) (E (t + xs.length)) := by
  induction xs generalizing t with
  | nil => exact ⟨[], rfl, by simp, rfl⟩
  | cons x xs ih =>
    obtain ⟨y, hy, e1, r, e2, e3, h1, h2, h3, h4⟩ := h t x (Nat.le_refl _) (by simp) (by simp)
    obtain ⟨ys, g1, g2, g3⟩ := ih (t + 1) fun t' z a b c => h t' z (by omega) (by simp; omega) (by simp [c])
    refine ⟨y :: ys, by simp [g1], fun z hz => ?_, ?_⟩
    · rcases List.mem_cons.1 hz with rfl | hz
      · exact hy
      · exact g2 z hz
    · simp only [List.map_cons, compL]
      rw [bnd_to h1, bnd_to (show dYes e1 = .ok true e1 from rfl), if_pos rfl, bnd_to h2, bnd_to h3, bnd_to (show wipeD vs e3 = .ok () (E (t + 1)) by simp only [wipeD, h4]), bnd_to g3]
      simp only [ret, List.length_cons]
      rw [show t + 1 + xs.length = t + (xs.length + 1) by omega]
theorem comp_dr {α β : Type} {di : Dn (List PyData)} {tg : Tg} {te : Dn Rv} {vs : List Nat} {e : List Sl} (E : Nat → List Sl) (emb : α → PyData) (P : β → Prop) (f : β → PyData) (xs : List α) (t : Nat) (hi : di e = .ok (xs.map emb) e) (he : wipeE e vs = E t)
    (h : ∀ t' x, t ≤ t' → t' < t + xs.length → x ∈ xs → ∃ y, P y ∧ ∃ e1 r e2 e3, tgD tg (emb x) (E t') = .ok () e1 ∧ te e1 = .ok r e2 ∧ cmt r e2 = .ok (f y) e3 ∧ wipeE e3 vs = E (t' + 1)) :
    ∃ ys : List β, ys.length = xs.length ∧ (∀ y ∈ ys, P y) ∧ dComp di tg dYes te vs e = .ok (.nw (.l (ys.map f))) (restE e (E (t + xs.length)) vs) := by
  obtain ⟨ys, g1, g2, g3⟩ := compL_dr (te := te) E emb P f xs t h
  refine ⟨ys, g1, g2, ?_⟩
  simp only [dComp, bnd, hi, compE, he, g3]
/-- `1 + draw` -/
theorem draw1 {ns : List Int} (hn : ns.length ≤ 63) {t : Nat} (ht : t < 90000) {many : Int} (hm : 0 < many) {e : List Sl} {i j : Nat} {d : Dn Rv} (hi : e[i]? = some (.fz (sc ns))) (hj : e[j]? = some (tw0 t)) (hd : Af d e (.int many)) :
    ∃ v : Int, 1 ≤ v ∧ v ≤ many ∧ dB gAdd [(dC (.int 1)), (dCall F_law_draw [(dVar i), (dVar j), d])] e = .ok (.fz (.int v)) (e.set j (tw0 (t + 1))) := by
  obtain ⟨v, h0, h1, h2⟩ := draw_call hn ht hm hi hj hd
  refine ⟨1 + v, by omega, by omega, ?_⟩
  simp only [dB, dArgs, bnd, dC, ret, hold, h2, dApp, dats, dat, gAdd, dOut]
end DL

/-! M12: values that change what is at hand (draws), bids and rooms that laws draw. -/
namespace DL
open PySem PySem.Spec PyProof.Rows L2
def AE (d : Dn Rv) (e : List Sl) (x : PyData) (e' : List Sl) : Prop := ∃ r, d e = .ok r e' ∧ Rx [] r x
theorem Af.ae {d : Dn Rv} {e : List Sl} {x : PyData} (h : Af d e x) : AE d e x e := h
inductive AEs : List (Dn Rv) → List Sl → List PyData → List Sl → Prop
  | nil {e : List Sl} : AEs [] e [] e
  | cons {d : Dn Rv} {ds : List (Dn Rv)} {e e1 e2 : List Sl} {x : PyData} {xs : List PyData} : AE d e x e1 → AEs ds e1 xs e2 → AEs (d :: ds) e (x :: xs) e2
theorem aes_eq {ds : List (Dn Rv)} {e e' : List Sl} {xs : List PyData} (h : AEs ds e xs e') : dArgs ds e = .ok (xs.map .fz) e' := by
  induction h with
  | nil => rfl
  | cons h _ ih =>
    obtain ⟨r, h1, h2⟩ := h
    simp only [dArgs, bnd, h1, hold_rf h2, ih, ret, List.map_cons]
theorem aes_cmt {ds : List (Dn Rv)} {e e' : List Sl} {xs : List PyData} (h : AEs ds e xs e') : dArgsC ds e = .ok xs e' := by
  induction h with
  | nil => rfl
  | cons h _ ih =>
    obtain ⟨r, h1, h2⟩ := h
    simp only [dArgsC, bnd, h1, cmt_rf h2, ih, ret]
theorem dats_fz (e : List Sl) (xs : List PyData) : dats e (xs.map .fz) = some xs := by
  induction xs with
  | nil => rfl
  | cons x xs ih => simp only [List.map_cons, dats, dat, ih]
theorem ae_B {g : List PyData → Option Out} {ds : List (Dn Rv)} {e e' : List Sl} {xs : List PyData} {o : Out} (h : AEs ds e xs e') (hg : g xs = some o) : AE (dB g ds) e (outD o) e' := by
  cases o with
  | fz d => exact ⟨.fz d, by simp only [dB, bnd, aes_eq h, dApp, dats_fz, hg, dOut], rfl⟩
  | nl ys => exact ⟨.nw (.l ys), by simp only [dB, bnd, aes_eq h, dApp, dats_fz, hg, dOut], rfl⟩
theorem ae_B1 {g : List PyData → Option Out} {a : Dn Rv} {e e' : List Sl} {x z : PyData} (h : AE a e x e') (hg : g [x] = some (.fz z)) : AE (dB g [a]) e z e' := ae_B (.cons h .nil) hg
theorem ae_B2 {g : List PyData → Option Out} {a b : Dn Rv} {e e1 e2 : List Sl} {x y z : PyData} (h : AE a e x e1) (h2 : AE b e1 y e2) (hg : g [x, y] = some (.fz z)) : AE (dB g [a, b]) e z e2 := ae_B (.cons h (.cons h2 .nil)) hg
theorem ae_tup {ds : List (Dn Rv)} {e e' : List Sl} {xs : List PyData} (h : AEs ds e xs e') : AE (dTup ds) e (.tuple xs) e' := ⟨.fz (.tuple xs), by simp only [dTup, bnd, aes_cmt h, ret], rfl⟩
theorem ae_call {F : Dn Rv} {ds : List (Dn Rv)} {e e' : List Sl} {xs : List PyData} {y : PyData} (h : AEs ds e xs e') (hF : Fn F xs y) : AE (dCall F ds) e y e' := by
  obtain ⟨r, h1, h2⟩ := hF
  refine ⟨r, ?_, h2⟩
  simp only [dCall, bnd, aes_eq h, dCl, noTwice_fz, slotsOf_fz, h1, if_true]
  cases r with
  | fz d => simp only [back_fz]
  | nw c => simp only [back_fz]
  | bor i => obtain ⟨xs, h, _⟩ := h2; simp at h
theorem ae_draw {ns : List Int} (hn : ns.length ≤ 63) {t : Nat} (ht : t < 90000) {many : Int} (hm : 0 < many) {e : List Sl} {i j : Nat} {d : Dn Rv} (hi : e[i]? = some (.fz (sc ns))) (hj : e[j]? = some (tw0 t)) (hd : Af d e (.int many)) :
    ∃ v : Int, 0 ≤ v ∧ v < many ∧ AE (dCall F_law_draw [(dVar i), (dVar j), d]) e (.int v) (e.set j (tw0 (t + 1))) := by
  obtain ⟨v, h0, h1, h2⟩ := draw_call hn ht hm hi hj hd
  exact ⟨v, h0, h1, _, h2, rfl⟩
theorem se_setF {i : Nat} {d : Dn Rv} {e e' : List Sl} {x : PyData} (h : AE d e x e') : dSetF i d e = .ok .nx (e'.set i (.fz x)) := by
  obtain ⟨r, h1, h2⟩ := h
  simp only [dSetF, bnd, h1, cmt_rf h2]
theorem se_app {i : Nat} {d : Dn Rv} {e e' : List Sl} {x : PyData} {xs ys : List PyData} (h0 : e[i]? = some (.own (.l ys))) (h : AE d e x e') (hi : e'[i]? = some (.own (.l xs))) (hl : xs.length < 100000) : dAppend i d e = .ok .nx (e'.set i (.own (.l (xs ++ [x])))) := by
  obtain ⟨r, h1, h2⟩ := h
  simp only [dAppend, onL, h0, dAppend1, bnd, h1, cmt_rf h2, putL, hi, hl, if_true]
theorem se_parF {i j : Nat} {a b : Dn Rv} {e e1 e2 : List Sl} {x y : PyData} (h : AE a e x e1) (h2 : AE b e1 y e2) : dParF i j a b e = .ok .nx ((e2.set i (.fz x)).set j (.fz y)) := by
  obtain ⟨r, r1, r2⟩ := h
  obtain ⟨q, q1, q2⟩ := h2
  simp only [dParF, bnd, r1, cmt_rf r2, q1, cmt_rf q2, put2]
theorem se_parL {i j : Nat} {a : Dn Rv} {e e1 : List Sl} {x : PyData} (h : AE a e x e1) : dPar i j a (dLst []) e = .ok .nx ((e1.set i (.fz x)).set j (.own (.l []))) := by
  obtain ⟨r, r1, r2⟩ := h
  simp only [dPar, bnd, r1, cmt_rf r2, dLst, dArgsC, ret, put2]
/-! the things of a set, as laws say it -/
theorem law_inside_fn (s : Nat) : Fn F_law_inside [nI s] (.list ((inside s).map nI)) := by
  refine fn_ret rfl (a_comp (fun t : Nat => .tuple [nI t, nI (2 ^ t)]) (fun t => decide (s / 2 ^ t % 2 = 1)) nI (List.range 3) (it_eq (.cons (a_lst (.cons (a_c (x := .int 1)) (.cons (a_c (x := .int 2)) (.cons (a_c (x := .int 4)) .nil)))) .nil) rfl) (fun t => [.fz (nI s), .fz (nI t), .fz (nI (2 ^ t))]) rfl fun t ht => ⟨rfl, rfl, ?_, fun _ => a_var rfl⟩)
  have ht : t < 3 := List.mem_range.1 ht
  have hp : 2 ^ t < 1073741824 := by have : t = 0 ∨ t = 1 ∨ t = 2 := by omega
                                     rcases this with rfl | rfl | rfl <;> decide
  have := t_truth (a_B2 (g := gEq) (a_B2 (g := gMod) (a_B2 (g := gDiv) (e := [.fz (nI s), .fz (nI t), .fz (nI (2 ^ t))]) (a_var (i := 0) rfl).a (a_var (i := 2) rfl).a (gDivN (Nat.two_pow_pos t) hp)).a (a_c (x := nI 2)).a (gModN (by decide))).a (a_c (x := nI 1)).a (gEqI _ _)).a
  have e : decide (((s / 2 ^ t % 2 : Nat) : Int) = ((1 : Nat) : Int)) = decide (s / 2 ^ t % 2 = 1) := by rw [decide_eq_decide]; omega
  rw [e] at this
  exact this
def sumB (m : Nat) (ws : List Int) : List Int := (List.range (2 ^ m)).map fun s => ((inside s).map fun t => ws.getD t 0).sum
def sglB (m : Nat) (ws : List Int) : List Int := (List.range (2 ^ m)).map fun s => maxL (0 :: (inside s).map fun t => ws.getD t 0)
theorem bid3 {b1 b2 b3 b4 b5 b6 b7 : Int} (h1 : 0 ≤ b1) (h2 : 0 ≤ b2) (h4 : 0 ≤ b4) (h13 : b1 ≤ b3) (h23 : b2 ≤ b3) (h15 : b1 ≤ b5) (h45 : b4 ≤ b5) (h26 : b2 ≤ b6) (h46 : b4 ≤ b6) (h37 : b3 ≤ b7) (h57 : b5 ≤ b7) (h67 : b6 ≤ b7) (h9 : b7 ≤ 9) : Bid 3 [0, b1, b2, b3, b4, b5, b6, b7] := by
  refine ⟨rfl, ?_, rfl, ?_⟩
  · intro x hx
    simp at hx
    omega
  · intro s t x y ht hs hx hy
    have : t = 0 ∨ t = 1 ∨ t = 2 := by omega
    have hs4 : s + 2 ^ t < 8 := by
      have := (List.getElem?_eq_some_iff.1 hy).1
      simpa using this
    rcases this with rfl | rfl | rfl
    · have : s = 0 ∨ s = 2 ∨ s = 4 ∨ s = 6 := by simp at hs hs4; omega
      rcases this with rfl | rfl | rfl | rfl <;> simp at hx hy <;> omega
    · have : s = 0 ∨ s = 1 ∨ s = 4 ∨ s = 5 := by simp at hs hs4; omega
      rcases this with rfl | rfl | rfl | rfl <;> simp at hx hy <;> omega
    · have : s = 0 ∨ s = 1 ∨ s = 2 ∨ s = 3 := by simp at hs hs4; omega
      rcases this with rfl | rfl | rfl | rfl <;> simp at hx hy <;> omega
theorem sumB_bid {m : Nat} (h1 : 1 ≤ m) (h3 : m ≤ 3) {ws : List Int} (hl : ws.length = m) (hw : ∀ w ∈ ws, 0 ≤ w ∧ w < 4) : Bid m (sumB m ws) := by
  have : m = 1 ∨ m = 2 ∨ m = 3 := by omega
  rcases this with rfl | rfl | rfl
  · obtain ⟨x, rfl⟩ : ∃ x, ws = [x] := by match ws, hl with | [x], _ => exact ⟨x, rfl⟩
    have hx := hw x (by simp)
    have e : sumB 1 [x] = [0, x] := by show [([] : List Int).sum, [x].sum] = _; simp
    rw [e]; exact bid1 (by omega) (by omega)
  · obtain ⟨x, y, rfl⟩ : ∃ x y, ws = [x, y] := by match ws, hl with | [x, y], _ => exact ⟨x, y, rfl⟩
    have hx := hw x (by simp)
    have hy := hw y (by simp)
    have e : sumB 2 [x, y] = [0, x, y, x + y] := by
      show [([] : List Int).sum, [x].sum, [y].sum, [x, y].sum] = _
      simp
    rw [e]; exact bid2 (by omega) (by omega) (by omega) (by omega) (by omega)
  · obtain ⟨x, y, z, rfl⟩ : ∃ x y z, ws = [x, y, z] := by match ws, hl with | [x, y, z], _ => exact ⟨x, y, z, rfl⟩
    have hx := hw x (by simp)
    have hy := hw y (by simp)
    have hz := hw z (by simp)
    have e : sumB 3 [x, y, z] = [0, x, y, x + y, z, x + z, y + z, x + (y + z)] := by
      show [([] : List Int).sum, [x].sum, [y].sum, [x, y].sum, [z].sum, [x, z].sum, [y, z].sum, [x, y, z].sum] = _
      simp
    rw [e]; apply bid3 <;> omega
theorem sglB_bid {m : Nat} (h1 : 1 ≤ m) (h3 : m ≤ 3) {ws : List Int} (hl : ws.length = m) (hw : ∀ w ∈ ws, 0 ≤ w ∧ w < 10) : Bid m (sglB m ws) := by
  have : m = 1 ∨ m = 2 ∨ m = 3 := by omega
  rcases this with rfl | rfl | rfl
  · obtain ⟨x, rfl⟩ : ∃ x, ws = [x] := by match ws, hl with | [x], _ => exact ⟨x, rfl⟩
    have hx := hw x (by simp)
    have e : sglB 1 [x] = [0, x] := by
      show [maxL [0], maxL [0, x]] = _
      simp [maxL]; omega
    rw [e]; exact bid1 (by omega) (by omega)
  · obtain ⟨x, y, rfl⟩ : ∃ x y, ws = [x, y] := by match ws, hl with | [x, y], _ => exact ⟨x, y, rfl⟩
    have hx := hw x (by simp)
    have hy := hw y (by simp)
    have e : sglB 2 [x, y] = [0, x, y, max x y] := by
      show [maxL [0], maxL [0, x], maxL [0, y], maxL [0, x, y]] = _
      simp [maxL]; omega
    rw [e]; exact bid2 (by omega) (by omega) (by omega) (by omega) (by omega)
  · obtain ⟨x, y, z, rfl⟩ : ∃ x y z, ws = [x, y, z] := by match ws, hl with | [x, y, z], _ => exact ⟨x, y, z, rfl⟩
    have hx := hw x (by simp)
    have hy := hw y (by simp)
    have hz := hw z (by simp)
    have e : sglB 3 [x, y, z] = [0, x, y, max x y, z, max x z, max y z, max x (max y z)] := by
      show [maxL [0], maxL [0, x], maxL [0, y], maxL [0, x, y], maxL [0, z], maxL [0, x, z], maxL [0, y, z], maxL [0, x, y, z]] = _
      simp [maxL]; omega
    rw [e]; apply bid3 <;> omega
theorem hld_up : ∀ s t g : Fin 8, t.val < 3 → s.val / 2 ^ t.val % 2 = 0 → s.val + 2 ^ t.val < 8 → hld s.val g.val = true → hld (s.val + 2 ^ t.val) g.val = true := by decide +kernel
theorem hld_zero : ∀ g : Fin 8, 1 ≤ g.val → hld 0 g.val = false := by decide +kernel
theorem pkg_bid {m g : Nat} {w : Int} (h1 : 1 ≤ m) (h3 : m ≤ 3) (g1 : 1 ≤ g) (g2 : g < 2 ^ m) (w0 : 0 ≤ w) (w9 : w ≤ 9) : Bid m (pkg m g w) := by
  have h8 := pow8 h3
  refine ⟨by simp [pkg], ?_, ?_, ?_⟩
  · intro x hx
    obtain ⟨s, _, rfl⟩ := List.mem_map.1 hx
    split <;> omega
  · have hp := Nat.two_pow_pos m
    have hz := hld_zero ⟨g, by omega⟩ g1
    simp only at hz
    simp [pkg, hp, hz]
  · intro s t x y ht hs hx hy
    have hy8 := (List.getElem?_eq_some_iff.1 hy).1
    simp [pkg] at hy8
    have hlt : s + 2 ^ t < 8 := by omega
    have hp := Nat.two_pow_pos t
    have hs2 : s < 2 ^ m := by omega
    simp only [pkg, List.getElem?_map, List.getElem?_range hs2, List.getElem?_range hy8, Option.map_some, Option.some.injEq] at hx hy
    subst hx hy
    by_cases c : hld s g = true
    · have := hld_up ⟨s, by omega⟩ ⟨t, by omega⟩ ⟨g, by omega⟩ (by simp; omega) hs hlt c
      simp only at this
      rw [if_pos c, if_pos this]
      exact Int.le_refl _
    · rw [if_neg c]; split <;> omega
end DL

/-! M13: bids and rooms that laws draw. -/
namespace DL
open PySem PySem.Spec PyProof.Rows L2
theorem a_sizeL {m : Nat} (h1 : 1 ≤ m) (h3 : m ≤ 3) {d : Dn Rv} {e : List Sl} (hd : Af d e (nI m)) : Af (dB gIx [(dLst [(dC (.int 2)), (dC (.int 4)), (dC (.int 8))]), (dB gSub [d, (dC (.int 1))])]) e (nI (2 ^ m)) := by
  have L : A (dLst [(dC (.int 2)), (dC (.int 4)), (dC (.int 8))]) e (.list [.int 2, .int 4, .int 8]) := (a_lst (.cons a_c (.cons a_c (.cons a_c .nil)))).a
  have : m = 1 ∨ m = 2 ∨ m = 3 := by omega
  rcases this with rfl | rfl | rfl
  · exact a_B2 L (a_B2 (z := nI 0) hd.a a_c.a rfl).a rfl
  · exact a_B2 L (a_B2 (z := nI 1) hd.a a_c.a rfl).a rfl
  · exact a_B2 L (a_B2 (z := nI 2) hd.a a_c.a rfl).a rfl
theorem wsl_ix {ws : List Int} {t : Nat} (h : t < ws.length) : gIx [.list (ws.map .int), nI t] = some (.fz (.int (ws.getD t 0))) := sc_ix h
/-- the worths that a kind draws -/
theorem ws_draw {ns : List Int} (hn : ns.length ≤ 63) {t m : Nat} (ht : t + m < 90000) {many : Int} (hm : 0 < many) (k : PyData) (sz : PyData) :
    ∃ ws : List Int, ws.length = m ∧ (∀ w ∈ ws, 0 ≤ w ∧ w < many) ∧ dSetF 7 (dComp (dIt gRng1 [(dVar 2)]) (.nm 11) dYes (dCall F_law_draw [(dVar 0), (dVar 1), (dC (.int many))]) [11]) [.fz (sc ns), tw0 t, .fz (nI m), .fz k, .fz sz, .un, .un, .un, .un, .un, .un, .un, .un] = .ok .nx [.fz (sc ns), tw0 (t + m), .fz (nI m), .fz k, .fz sz, .un, .un, .fz (.list (ws.map .int)), .un, .un, .un, .un, .un] := by
  obtain ⟨ys, y1, y2, y3⟩ := comp_dr (β := Int) (di := dIt gRng1 [(dVar 2)]) (tg := .nm 11) (te := dCall F_law_draw [(dVar 0), (dVar 1), (dC (.int many))]) (vs := [11]) (e := [.fz (sc ns), tw0 t, .fz (nI m), .fz k, .fz sz, .un, .un, .un, .un, .un, .un, .un, .un])
    (fun t => [.fz (sc ns), tw0 t, .fz (nI m), .fz k, .fz sz, .un, .un, .un, .un, .un, .un, .un, .un]) nI (fun y => 0 ≤ y ∧ y < many) PyData.int (List.range m) t (i_rng1 (by omega) (a_var rfl)) rfl fun t' x _ ht' _ => by
      obtain ⟨v, v1, v9, hv⟩ := draw_call hn (t := t') (by simp at ht'; omega) hm (e := [.fz (sc ns), tw0 t', .fz (nI m), .fz k, .fz sz, .un, .un, .un, .un, .un, .un, .fz (nI x), .un]) (i := 0) (j := 1) rfl rfl (a_c (x := .int many))
      exact ⟨v, ⟨v1, v9⟩, _, _, _, _, rfl, hv, rfl, rfl⟩
  refine ⟨ys, by simpa using y1, y2, ?_⟩
  rw [List.length_range] at y3
  simp only [dSetF, bnd, y3, cmt]
  rfl
def SB (ns : List Int) (m kind t : Nat) (b : List Int) (t' : Nat) : Prop := t ≤ t' ∧ t' ≤ t + 8 ∧ F_law_some_bid [.fz (sc ns), tw0 t, .fz (nI m), .fz (nI kind)] = .ok (.fz (tupI b)) [.fz (sc ns), tw0 t', .fz (nI m), .fz (nI kind)]
theorem sb_fin {e : List Sl} {ns : List Int} {m kind t t' : Nat} {b : List Int} (h : W (B_law_some_bid [.fz (sc ns), tw0 t, .fz (nI m), .fz (nI kind), .un, .un, .un, .un, .un, .un, .un, .un, .un]) fun f e => e.take 4 = [.fz (sc ns), tw0 t', .fz (nI m), .fz (nI kind)] ∧ f = .rt (.fz (tupI b))) :
    F_law_some_bid [.fz (sc ns), tw0 t, .fz (nI m), .fz (nI kind)] = .ok (.fz (tupI b)) [.fz (sc ns), tw0 t', .fz (nI m), .fz (nI kind)] := by
  unfold F_law_some_bid fnD
  simp only [List.replicate, List.cons_append, List.nil_append]
  cases hb : B_law_some_bid [.fz (sc ns), tw0 t, .fz (nI m), .fz (nI kind), .un, .un, .un, .un, .un, .un, .un, .un, .un] with
  | ok f e => rw [hb] at h; obtain ⟨h1, rfl⟩ := h; simp only [fnEnd, h1]
  | ex c e => rw [hb] at h; exact h.elim
  | bad => rw [hb] at h; exact h.elim
theorem rx_tup {r : Rv} {xs : List PyData} (h : Rx [] r (.tuple xs)) : r = .fz (.tuple xs) := by
  cases r with
  | fz d => cases h; rfl
  | nw c => cases c <;> simp [Rx] at h
  | bor i => obtain ⟨_, h, _⟩ := h; simp at h
theorem t_kind {k j : Nat} {e : List Sl} (h : e[3]? = some (.fz (nI k))) {x : PyData} (hx : x = nI j) : Te (dTruth (dB gEq [(dVar 3), (dC x)])) e (decide (k = j)) := by
  subst hx
  have := t_truth (a_B2 (g := gEq) (a_var h).a (a_c (x := nI j)).a (gEqI _ _)).a
  have e : decide ((k : Int) = (j : Int)) = decide (k = j) := by rw [decide_eq_decide]; omega
  rwa [e] at this
theorem some_bid1 {ns : List Int} (hn : ns.length ≤ 63) {m t : Nat} (h1 : 1 ≤ m) (h3 : m ≤ 3) (ht : t < 80000) : ∃ ws t', ws.length = m ∧ (∀ w ∈ ws, 0 ≤ w ∧ w < 4) ∧ SB ns m 1 t (sumB m ws) t' := by
  have h8 := pow8 h3
  obtain ⟨ws, w1, w2, w3⟩ := ws_draw hn (t := t) (m := m) (by omega) (many := 4) (by decide) (nI 1) (nI (2 ^ m))
  refine ⟨ws, t + m, w1, w2, by omega, by omega, sb_fin (e := []) ?_⟩
  refine w_then (s_setF' (i := 4) (a_sizeL h1 h3 (a_var (i := 2) rfl))) ?_
  refine w_seq (w_if (t_kind (k := 1) (j := 1) rfl rfl) (fun _ => ?_) fun h => by cases h)
  refine w_then w3 ?_
  have a1 := a_map (t := .nm 6) (vs := [6]) (di := dIt gRng1 [(dVar 4)]) (te := dB gSum [(dComp (dIt gSeq [(dCall F_law_inside [(dVar 6)])]) (.nm 12) dYes (dB gIx [(dVar 7), (dVar 12)]) [12])]) (e := [.fz (sc ns), tw0 (t + m), .fz (nI m), .fz (nI 1), .fz (nI (2 ^ m)), .un, .un, .fz (.list (ws.map .int)), .un, .un, .un, .un, .un]) nI (fun s => .int ((inside s).map fun t => ws.getD t 0).sum) (List.range (2 ^ m)) (i_rng1 (by omega) (a_var rfl)) (fun s => [.fz (sc ns), tw0 (t + m), .fz (nI m), .fz (nI 1), .fz (nI (2 ^ m)), .un, .fz (nI s), .fz (.list (ws.map .int)), .un, .un, .un, .un, .un]) rfl fun s hs => ⟨rfl, rfl, ?_⟩
  · refine w_ret (a_B1 (g := gTuple) a1.a rfl) fun r hr => ?_
    cases rx_tup hr
    refine ⟨(fun h => by cases h), (fun r' e' => ?_)⟩
    cases e'
    refine ⟨rfl, ?_⟩
    rw [tupI, sumB, List.map_map]
    rfl
  · have hs := List.mem_range.1 hs
    have a2 := a_map (t := .nm 12) (vs := [12]) (di := dIt gSeq [(dCall F_law_inside [(dVar 6)])]) (te := dB gIx [(dVar 7), (dVar 12)]) (e := [.fz (sc ns), tw0 (t + m), .fz (nI m), .fz (nI 1), .fz (nI (2 ^ m)), .un, .fz (nI s), .fz (.list (ws.map .int)), .un, .un, .un, .un, .un]) nI (fun t => .int (ws.getD t 0)) (inside s) (i_seqL (a_call (.cons (a_var (i := 6) rfl) .nil) (law_inside_fn s))) (fun t' => [.fz (sc ns), tw0 (t + m), .fz (nI m), .fz (nI 1), .fz (nI (2 ^ m)), .un, .fz (nI s), .fz (.list (ws.map .int)), .un, .un, .un, .un, .fz (nI t')]) rfl fun t ht => ⟨rfl, rfl, a_B2 (a_var (i := 7) rfl).a (a_var (i := 12) rfl).a (wsl_ix (by rw [w1]; exact inside_m hs ht))⟩
    exact a_B1 a2.a (by have := gSumL ((inside s).map fun t => ws.getD t 0); rwa [List.map_map] at this)
theorem some_bid2 {ns : List Int} (hn : ns.length ≤ 63) {m t : Nat} (h1 : 1 ≤ m) (h3 : m ≤ 3) (ht : t < 80000) : ∃ ws t', ws.length = m ∧ (∀ w ∈ ws, 0 ≤ w ∧ w < 10) ∧ SB ns m 2 t (sglB m ws) t' := by
  have h8 := pow8 h3
  obtain ⟨ws, w1, w2, w3⟩ := ws_draw hn (t := t) (m := m) (by omega) (many := 10) (by decide) (nI 2) (nI (2 ^ m))
  refine ⟨ws, t + m, w1, w2, by omega, by omega, sb_fin (e := []) ?_⟩
  refine w_then (s_setF' (i := 4) (a_sizeL h1 h3 (a_var (i := 2) rfl))) ?_
  refine w_then (s_if_skip (t_kind (k := 2) (j := 1) rfl rfl)) ?_
  refine w_seq (w_if (t_kind (k := 2) (j := 2) rfl rfl) (fun _ => ?_) fun h => by cases h)
  refine w_then w3 ?_
  have a1 := a_map (t := .nm 6) (vs := [6]) (di := dIt gRng1 [(dVar 4)]) (te := dB gMax [(dB gAdd [(dLst [(dC (.int 0))]), (dComp (dIt gSeq [(dCall F_law_inside [(dVar 6)])]) (.nm 12) dYes (dB gIx [(dVar 7), (dVar 12)]) [12])])]) (e := [.fz (sc ns), tw0 (t + m), .fz (nI m), .fz (nI 2), .fz (nI (2 ^ m)), .un, .un, .fz (.list (ws.map .int)), .un, .un, .un, .un, .un]) nI (fun s => .int (maxL (0 :: (inside s).map fun t => ws.getD t 0))) (List.range (2 ^ m)) (i_rng1 (by omega) (a_var rfl)) (fun s => [.fz (sc ns), tw0 (t + m), .fz (nI m), .fz (nI 2), .fz (nI (2 ^ m)), .un, .fz (nI s), .fz (.list (ws.map .int)), .un, .un, .un, .un, .un]) rfl fun s hs => ⟨rfl, rfl, ?_⟩
  · refine w_ret (a_B1 (g := gTuple) a1.a rfl) fun r hr => ?_
    cases rx_tup hr
    refine ⟨(fun h => by cases h), (fun r' e' => ?_)⟩
    cases e'
    refine ⟨rfl, ?_⟩
    rw [tupI, sglB, List.map_map]
    rfl
  · have hs := List.mem_range.1 hs
    have a2 := a_map (t := .nm 12) (vs := [12]) (di := dIt gSeq [(dCall F_law_inside [(dVar 6)])]) (te := dB gIx [(dVar 7), (dVar 12)]) (e := [.fz (sc ns), tw0 (t + m), .fz (nI m), .fz (nI 2), .fz (nI (2 ^ m)), .un, .fz (nI s), .fz (.list (ws.map .int)), .un, .un, .un, .un, .un]) nI (fun t => .int (ws.getD t 0)) (inside s) (i_seqL (a_call (.cons (a_var (i := 6) rfl) .nil) (law_inside_fn s))) (fun t' => [.fz (sc ns), tw0 (t + m), .fz (nI m), .fz (nI 2), .fz (nI (2 ^ m)), .un, .fz (nI s), .fz (.list (ws.map .int)), .un, .un, .un, .un, .fz (nI t')]) rfl fun t ht => ⟨rfl, rfl, a_B2 (a_var (i := 7) rfl).a (a_var (i := 12) rfl).a (wsl_ix (by rw [w1]; exact inside_m hs ht))⟩
    have hk : (inside s).length ≤ 3 := by have := List.length_filter_le (fun t => decide (s / 2 ^ t % 2 = 1)) (List.range 3); simpa [inside] using this
    refine a_B1 (a_B2l (a_lst (.cons (a_c (x := .int 0)) .nil)).a a2.a (zs := ((0 : Int) :: (inside s).map fun t => ws.getD t 0).map .int) ?_).a (gMaxL _ _)
    have : gAdd [.list [.int 0], .list ((inside s).map fun t => PyData.int (ws.getD t 0))] = some (.nl ([.int 0] ++ ((inside s).map fun t => PyData.int (ws.getD t 0)))) := if_pos (by simp; omega)
    rw [this, List.map_cons, List.map_map]
    rfl
end DL

/-! M14: picks and rooms that laws draw. -/
namespace DL
open PySem PySem.Spec PyProof.Rows L2
theorem kept_fn {m : Nat} {R : List (List Int)} (h : Rm m R) : Fn F_kept [rmD R] (.list ((keps R m).map .int)) :=
  w_fn (w_then (s_check_room h (i := 0) rfl) (w_ret (a_call (.cons (a_var (i := 0) rfl) .nil) (kept_list_fn h)) fun r hr => ⟨rfl, r, rfl, .inl hr⟩))
theorem ae_Bfz {g : List PyData → Option Out} {ds : List (Dn Rv)} {e e' : List Sl} {xs : List PyData} {z : PyData} (h : AEs ds e xs e') (hg : g xs = some (.fz z)) : dB g ds e = .ok (.fz z) e' := by
  simp only [dB, bnd, aes_eq h, dApp, dats_fz, hg, dOut]
theorem pick_eq {ns : List Int} (hn : ns.length ≤ 63) {t : Nat} (ht : t < 90000) {xs : List PyData} (hx : xs ≠ []) : ∃ x, x ∈ xs ∧ F_law_pick [.fz (sc ns), tw0 t, .fz (.list xs)] = .ok (.fz x) [.fz (sc ns), tw0 (t + 1), .fz (.list xs)] := by
  have hl : 0 < xs.length := List.length_pos_iff.2 hx
  obtain ⟨v, h0, h1, h2⟩ := ae_draw hn (t := t) ht (many := (xs.length : Nat)) (by omega) (e := [.fz (sc ns), tw0 t, .fz (.list xs)]) (i := 0) (j := 1) rfl rfl (d := dB gLen [(dVar 2)]) (a_B1 (a_var (i := 2) rfl).a (gLenL _))
  obtain ⟨k, rfl⟩ := Int.eq_ofNat_of_zero_le h0
  have hk : k < xs.length := by omega
  refine ⟨xs[k], List.getElem_mem hk, ?_⟩
  have r1 := ae_Bfz (g := gIx) (.cons (a_var (i := 2) rfl).ae (.cons h2 .nil)) (gIxL (d := xs[k]) (List.getElem?_eq_getElem hk))
  simp only [F_law_pick, fnD, B_law_pick, List.replicate, List.append_nil, dRet, bnd, r1, ret, fnEnd]
  rfl
theorem pick_call {ns : List Int} (hn : ns.length ≤ 63) {t : Nat} (ht : t < 90000) {xs : List PyData} (hx : xs ≠ []) {e : List Sl} {i j : Nat} {d : Dn Rv} (hi : e[i]? = some (.fz (sc ns))) (hj : e[j]? = some (tw0 t)) (hd : Af d e (.list xs)) :
    ∃ x, x ∈ xs ∧ AE (dCall F_law_pick [(dVar i), (dVar j), d]) e x (e.set j (tw0 (t + 1))) := by
  obtain ⟨x, h1, h2⟩ := pick_eq hn ht hx
  refine ⟨x, h1, .fz x, ?_, rfl⟩
  obtain ⟨r, hr1, hr2⟩ := hd
  have hj' : e[j]? = some (.own (.l (List.replicate t (.int 0)))) := hj
  have h2' : F_law_pick [.fz (sc ns), .own (.l (List.replicate t (.int 0))), .fz (.list xs)] = .ok (.fz x) [.fz (sc ns), tw0 (t + 1), .fz (.list xs)] := h2
  have hh : hold r e = .ok (.fz (.list xs)) e := hold_rf hr2
  have ha : dArgs [(dVar i), (dVar j), d] e = .ok [.fz (sc ns), .bor j, .fz (.list xs)] e := by
    have q1 : dVar i e = .ok (.fz (sc ns)) e := by simp only [dVar, hi]
    have q2 : dVar j e = .ok (.bor j) e := by simp only [dVar, hj']
    have q3 : hold (.fz (sc ns)) e = .ok (.fz (sc ns)) e := rfl
    have q4 : hold (.bor j) e = .ok (.bor j) e := rfl
    simp only [dArgs, bnd, q1, q2, q3, q4, hr1, hh, ret]
  simp only [dCall, bnd, ha, dCl, noTwice, borNot, slotsOf, slotOf, hj', h2', back, Bool.and_true, if_true]
theorem bid_call {ns : List Int} {m k t t1 t' : Nat} {b : List Int} (hb : SB ns m k t1 b t') {e e1 : List Sl} {i j l : Nat} {d : Dn Rv} (hi : e[i]? = some (.fz (sc ns))) (hj : e[j]? = some (tw0 t)) (hl : e[l]? = some (.fz (nI m))) (hd : AE d e (nI k) e1) (hj1 : e1[j]? = some (tw0 t1)) :
    AE (dCall F_law_some_bid [(dVar i), (dVar j), (dVar l), d]) e (tupI b) (e1.set j (tw0 t')) := by
  obtain ⟨_, _, h2⟩ := hb
  refine ⟨.fz (tupI b), ?_, rfl⟩
  obtain ⟨r, hr1, hr2⟩ := hd
  cases rx_int hr2
  have hj' : e[j]? = some (.own (.l (List.replicate t (.int 0)))) := hj
  have hj1' : e1[j]? = some (.own (.l (List.replicate t1 (.int 0)))) := hj1
  have h2' : F_law_some_bid [.fz (sc ns), .own (.l (List.replicate t1 (.int 0))), .fz (nI m), .fz (.int (k : Int))] = .ok (.fz (tupI b)) [.fz (sc ns), tw0 t', .fz (nI m), .fz (nI k)] := h2
  have ha : dArgs [(dVar i), (dVar j), (dVar l), d] e = .ok [.fz (sc ns), .bor j, .fz (nI m), .fz (.int (k : Int))] e1 := by
    have q1 : dVar i e = .ok (.fz (sc ns)) e := by simp only [dVar, hi]
    have q2 : dVar j e = .ok (.bor j) e := by simp only [dVar, hj']
    have q5 : dVar l e = .ok (.fz (nI m)) e := by simp only [dVar, hl]
    have q3 : hold (.fz (sc ns)) e = .ok (.fz (sc ns)) e := rfl
    have q4 : hold (.bor j) e = .ok (.bor j) e := rfl
    have q6 : hold (.fz (nI m)) e = .ok (.fz (nI m)) e := rfl
    have q7 : hold (.fz (.int (k : Int))) e1 = .ok (.fz (.int (k : Int))) e1 := rfl
    simp only [dArgs, bnd, q1, q2, q3, q4, q5, q6, hr1, q7, ret]
  simp only [dCall, bnd, ha, dCl, noTwice, borNot, slotsOf, slotOf, hj1', h2', back, Bool.and_true, if_true]
theorem w_forE {α : Type} {d : Dn (List PyData)} {t : Tg} {body : Dn Fl} {e e1 : List Sl} {Q : Fl → List Sl → Prop} (emb : α → PyData) (I : List α → List Sl → Prop) (xs : List α) (hd : d e = .ok (xs.map emb) e1) (h : I [] e1)
    (hs : ∀ done x rest e, xs = done ++ x :: rest → I done e → ∃ e1, tgD t (emb x) e = .ok () e1 ∧ W (body e1) fun f e2 => f = .nx ∧ I (done ++ [x]) e2) (q : ∀ e', I xs e' → Q .nx e') : W (dFor d t body e) Q := by
  have e0 : dFor d t body e = dFor (ret (xs.map emb)) t body e1 := by simp only [dFor, bnd, hd, ret]
  rw [e0]
  exact w_forI emb I xs rfl h hs q
theorem it_eqE {g : List PyData → Option (List PyData)} {ds : List (Dn Rv)} {e e' : List Sl} {xs ys : List PyData} (h : AEs ds e xs e') (hg : g xs = some ys) : dIt g ds e = .ok ys e' := by
  simp only [dIt, bnd, aes_cmt h, hg, dGiv, ret]
def PK (ks : List Nat) (m : Nat) (b : List Int) : Prop := (1 ∈ ks ∧ ∃ ws : List Int, ws.length = m ∧ (∀ w ∈ ws, 0 ≤ w ∧ w < 4) ∧ b = sumB m ws) ∨ (2 ∈ ks ∧ ∃ ws : List Int, ws.length = m ∧ (∀ w ∈ ws, 0 ≤ w ∧ w < 10) ∧ b = sglB m ws)
theorem PK.bid {ks : List Nat} {m : Nat} (h1 : 1 ≤ m) (h3 : m ≤ 3) {b : List Int} (h : PK ks m b) : Bid m b := by
  rcases h with ⟨_, ws, a, b, rfl⟩ | ⟨_, ws, a, b, rfl⟩
  · exact sumB_bid h1 h3 a b
  · exact sglB_bid h1 h3 a b
theorem some_bid_k {ns : List Int} (hn : ns.length ≤ 63) {ks : List Nat} (hks : ∀ k ∈ ks, k = 1 ∨ k = 2) {m t k : Nat} (h1 : 1 ≤ m) (h3 : m ≤ 3) (ht : t < 80000) (hk : k ∈ ks) : ∃ b t', PK ks m b ∧ SB ns m k t b t' := by
  rcases hks k hk with rfl | rfl
  · obtain ⟨ws, t', a, b, c⟩ := some_bid1 hn (t := t) h1 h3 ht
    exact ⟨_, t', .inl ⟨hk, ws, a, b, rfl⟩, c⟩
  · obtain ⟨ws, t', a, b, c⟩ := some_bid2 hn (t := t) h1 h3 ht
    exact ⟨_, t', .inr ⟨hk, ws, a, b, rfl⟩, c⟩
theorem plain_room_eq {ns : List Int} (hn : ns.length ≤ 63) {ks : List Nat} (hks : ∀ k ∈ ks, k = 1 ∨ k = 2) (hne : ks ≠ []) {t most : Nat} (ht : t < 10000) (hm1 : 1 ≤ most) (hm4 : most ≤ 4) :
    ∃ m R t', Rm m R ∧ R.length ≤ most ∧ (∀ b ∈ R, PK ks m b) ∧ t' ≤ t + 100 ∧ F_law_plain_room [.fz (sc ns), tw0 t, .fz (nI most), .fz (.list (ks.map nI))] = .ok (.fz (rmD R)) [.fz (sc ns), tw0 t', .fz (nI most), .fz (.list (ks.map nI))] := by
  have hne' : ks.map nI ≠ [] := by simpa using hne
  obtain ⟨v, v0, v1, hv⟩ := ae_draw hn (t := t) (by omega) (many := 3) (by decide) (e := [.fz (sc ns), tw0 t, .fz (nI most), .fz (.list (ks.map nI)), .un, .un, .un]) (i := 0) (j := 1) rfl rfl (a_c (x := .int 3))
  obtain ⟨m0, rfl⟩ := Int.eq_ofNat_of_zero_le v0
  let m := 1 + m0
  have hm : 1 ≤ m ∧ m ≤ 3 := by simp only [m]; omega
  have hm' : m < 3 + 1 := by omega
  have s1 := se_parL (i := 5) (j := 6) (ae_B2 (g := gAdd) (z := nI m) (a_c (x := .int 1)).ae hv (by show some (Out.fz (.int (1 + (m0 : Int)))) = _; simp [nI, m]))
  obtain ⟨u, u0, u1, hu⟩ := ae_draw hn (t := t + 1) (by omega) (many := (most : Nat)) (by omega) (e := [.fz (sc ns), tw0 (t + 1), .fz (nI most), .fz (.list (ks.map nI)), .un, .fz (nI m), .own (.l [])]) (i := 0) (j := 1) rfl rfl (a_var (i := 2) rfl)
  obtain ⟨n0, rfl⟩ := Int.eq_ofNat_of_zero_le u0
  let n := 1 + n0
  have hnn : 1 ≤ n ∧ n ≤ most := by simp only [n]; omega
  have key : W (B_law_plain_room [.fz (sc ns), tw0 t, .fz (nI most), .fz (.list (ks.map nI)), .un, .un, .un]) fun f e => ∃ R t', R.length = n ∧ (∀ b ∈ R, PK ks m b) ∧ t' ≤ t + 100 ∧ e.take 4 = [.fz (sc ns), tw0 t', .fz (nI most), .fz (.list (ks.map nI))] ∧ f = .rt (.fz (rmD R)) := by
    refine w_then s1 ?_
    refine w_seq (w_forE nI (fun done e => ∃ R t' x4, R.length = done.length ∧ (∀ b ∈ R, PK ks m b) ∧ t' ≤ t + 2 + 10 * done.length ∧ e = [.fz (sc ns), tw0 t', .fz (nI most), .fz (.list (ks.map nI)), x4, .fz (nI m), .own (.l (R.map tupI))]) (List.range n) (e1 := [.fz (sc ns), tw0 (t + 2), .fz (nI most), .fz (.list (ks.map nI)), .un, .fz (nI m), .own (.l [])]) ?_ ⟨[], t + 2, .un, rfl, by simp, by simp, rfl⟩ ?_ ?_)
    · exact it_eqE (.cons (ae_B2 (g := gAdd) (z := nI n) (a_c (x := .int 1)).ae hu (by show some (Out.fz (.int (1 + (n0 : Int)))) = _; simp [nI, n])) .nil) (rng1 (by omega))
    · rintro done x rest _ hd ⟨R, t', x4, r1, r2, r3, rfl⟩
      have hdl : done.length < n := by have := congrArg List.length hd; simp at this; omega
      refine ⟨_, rfl, ?_⟩
      obtain ⟨p, p1, p2⟩ := pick_call hn (t := t') (by omega) hne' (e := [.fz (sc ns), tw0 t', .fz (nI most), .fz (.list (ks.map nI)), .fz (nI x), .fz (nI m), .own (.l (R.map tupI))]) (i := 0) (j := 1) rfl rfl (a_var (i := 3) rfl)
      obtain ⟨k, hk, rfl⟩ := List.mem_map.1 p1
      obtain ⟨b, t2, hb, sb⟩ := some_bid_k hn hks hm.1 hm.2 (t := t' + 1) (by omega) hk
      have c := bid_call sb (i := 0) (j := 1) (l := 5) (t := t') (e := [.fz (sc ns), tw0 t', .fz (nI most), .fz (.list (ks.map nI)), .fz (nI x), .fz (nI m), .own (.l (R.map tupI))]) rfl rfl rfl p2 rfl
      refine w_ok (se_app (i := 6) (ys := R.map tupI) (xs := R.map tupI) rfl c rfl (by simp; omega)) ⟨rfl, R ++ [b], t2, .fz (nI x), by simp [r1], ?_, ?_, ?_⟩
      · intro z hz
        rcases List.mem_append.1 hz with hz | hz
        · exact r2 z hz
        · simp at hz; exact hz ▸ hb
      · have := sb.2.1; simp; omega
      · simp
    · rintro _ ⟨R, t', x4, r1, r2, r3, rfl⟩
      refine ⟨fun _ => ?_, fun r hr => by cases hr⟩
      rw [List.length_range] at r1 r3
      refine w_ret (a_B1 (g := gTuple) (z := rmD R) (a_own (i := 6) rfl) rfl) fun r hr => ⟨R, t', r1, r2, by omega, rfl, ?_⟩
      rw [rx_tup hr]
      rfl
  cases hb : B_law_plain_room [.fz (sc ns), tw0 t, .fz (nI most), .fz (.list (ks.map nI)), .un, .un, .un] with
  | ok f e =>
    rw [hb] at key
    obtain ⟨R, t', r1, r2, r3, r4, rfl⟩ := key
    refine ⟨m, R, t', ⟨hm.1, hm.2, by omega, by omega, fun b hb => (r2 b hb).bid hm.1 hm.2⟩, by omega, r2, r3, ?_⟩
    unfold F_law_plain_room fnD
    simp only [List.replicate, List.cons_append, List.nil_append, hb, fnEnd, r4]
  | ex c e => rw [hb] at key; exact key.elim
  | bad => rw [hb] at key; exact key.elim
end DL

/-! M15: calls that draw, and small things for laws. -/
namespace DL
open PySem PySem.Spec PyProof.Rows L2
theorem borNot_fz (j : Nat) (xs : List PyData) : borNot j (xs.map .fz) = true := by
  induction xs with
  | nil => rfl
  | cons x xs ih => exact ih
theorem town_call {ns : List Int} {F : Dn Rv} {t t' : Nat} {xs : List PyData} {y : PyData} (hF : F (.fz (sc ns) :: tw0 t :: xs.map .fz) = .ok (.fz y) (.fz (sc ns) :: tw0 t' :: xs.map .fz)) {e : List Sl} {i j : Nat} {ds : List (Dn Rv)} (hi : e[i]? = some (.fz (sc ns))) (hj : e[j]? = some (tw0 t)) (hd : Afs ds e xs) :
    AE (dCall F (dVar i :: dVar j :: ds)) e y (e.set j (tw0 t')) := by
  refine ⟨.fz y, ?_, rfl⟩
  have hj' : e[j]? = some (.own (.l (List.replicate t (.int 0)))) := hj
  have ha : dArgs (dVar i :: dVar j :: ds) e = .ok (.fz (sc ns) :: .bor j :: xs.map .fz) e := by
    have q1 : dVar i e = .ok (.fz (sc ns)) e := by simp only [dVar, hi]
    have q2 : dVar j e = .ok (.bor j) e := by simp only [dVar, hj']
    have q3 : hold (.fz (sc ns)) e = .ok (.fz (sc ns)) e := rfl
    have q4 : hold (.bor j) e = .ok (.bor j) e := rfl
    simp only [dArgs, bnd, q1, q2, q3, q4, afs_eq hd, ret]
  have hs : slotsOf e (.fz (sc ns) :: .bor j :: xs.map .fz) = some (.fz (sc ns) :: tw0 t :: xs.map .fz) := by
    simp only [slotsOf, slotOf, hj', slotsOf_fz]; rfl
  have hb : back e (.fz (sc ns) :: .bor j :: xs.map .fz) (.fz (sc ns) :: tw0 t' :: xs.map .fz) = e.set j (tw0 t') := by
    simp only [back, back_fz]
  have ht : noTwice (.fz (sc ns) :: .bor j :: xs.map .fz) = true := by
    simp only [noTwice, borNot_fz, noTwice_fz, Bool.and_true]
  simp only [dCall, bnd, ha, dCl, ht, hs, hF, hb, if_true]
theorem a_M {T : String} {g : List PyData → Option Out} {d : Dn Rv} {ds : List (Dn Rv)} {e : List Sl} {x z : PyData} {xs : List PyData} (h : Af d e x) (ht : tyOf x = T) (hd : Afs ds e xs) (hg : g (x :: xs) = some (.fz z)) : Af (dM T g d ds) e z := by
  obtain ⟨r, h1, h2⟩ := h
  refine ⟨.fz z, ?_, rfl⟩
  have hx : dats e (.fz x :: xs.map .fz) = some (x :: xs) := dats_fz e (x :: xs)
  simp only [dM, bnd, h1, hold_rf h2, dat, ht, if_true, afs_eq hd, dApp, hx, hg, dOut]
theorem a_things {m : Nat} (h1 : 1 ≤ m) (h3 : m ≤ 3) {d : Dn Rv} {e : List Sl} (hd : Af d e (nI (2 ^ m))) : Af (dB gAdd [(dM "list" gIndex (dLst [(dC (.int 2)), (dC (.int 4)), (dC (.int 8))]) [d]), (dC (.int 1))]) e (nI m) := by
  have L : Af (dLst [(dC (.int 2)), (dC (.int 4)), (dC (.int 8))]) e (.list [.int 2, .int 4, .int 8]) := a_lst (.cons a_c (.cons a_c (.cons a_c .nil)))
  have : m = 1 ∨ m = 2 ∨ m = 3 := by omega
  rcases this with rfl | rfl | rfl
  · exact a_B2 (a_M (z := nI 0) L rfl (.cons hd .nil) rfl).a a_c.a rfl
  · exact a_B2 (a_M (z := nI 1) L rfl (.cons hd .nil) rfl).a a_c.a rfl
  · exact a_B2 (a_M (z := nI 2) L rfl (.cons hd .nil) rfl).a a_c.a rfl
theorem a_size0 {m : Nat} {R : List (List Int)} (h : Rm m R) {e : List Sl} {i : Nat} (hi : e[i]? = some (.fz (rmD R))) : Af (dB gLen [(dB gIx [(dVar i), (dC (.int 0))])]) e (nI (2 ^ m)) := by
  have h1 := h.n1
  refine a_B1 (a_B2 (a_var hi).a (a_c (x := nI 0)).a (rm_ix (by omega))).a ?_
  rw [tupI, gLenT, List.length_map, (h.bid _ (getD_memR (by omega))).len]
theorem rx_true {r : Rv} {b : Bool} (h : Rx [] r (.bool b)) : r = .fz (.bool b) := by
  cases r with
  | fz d => cases h; rfl
  | nw c => cases c <;> simp [Rx] at h
  | bor i => obtain ⟨_, h, _⟩ := h; simp at h
theorem zip2_int (a b : List Int) : zip2L (a.map .int) (b.map .int) = (a.zip b).map fun p => .tuple [.int p.1, .int p.2] := by
  induction a generalizing b with
  | nil => cases b <;> rfl
  | cons x a ih => cases b with
    | nil => rfl
    | cons y b => simp only [List.map_cons, zip2L, ih, List.zip_cons_cons]
theorem gLenR {R : List (List Int)} : gLen [rmD R] = some (.fz (nI R.length)) := by rw [rmD, gLenT, List.length_map]
theorem gEqN (a b : Nat) : gEq [nI a, nI b] = some (.fz (.bool (decide (a = b)))) := by
  rw [nI, nI, gEqI]
  have : decide ((a : Int) = (b : Int)) = decide (a = b) := by rw [decide_eq_decide]; omega
  rw [this]
end DL

/-! MS: rooms of sum and single bids: the best totals of groups grow less and less (plain mathematics). -/
namespace DL
open PySem PySem.Spec PyProof.Rows L2
/-- sums over the first numbers -/
def sg (f : Nat → Int) : Nat → Int
  | 0 => 0
  | n + 1 => sg f n + f n
theorem sg_congr {f g : Nat → Int} {n : Nat} (h : ∀ i, i < n → f i = g i) : sg f n = sg g n := by
  induction n with
  | zero => rfl
  | succ n ih => rw [sg, sg, ih fun i hi => h i (by omega), h n (by omega)]
theorem sg_le {f g : Nat → Int} {n : Nat} (h : ∀ i, i < n → f i ≤ g i) : sg f n ≤ sg g n := by
  induction n with
  | zero => exact Int.le_refl _
  | succ n ih => have := ih fun i hi => h i (by omega); have := h n (by omega); rw [sg, sg]; omega
theorem sg_add (f g : Nat → Int) (n : Nat) : sg (fun i => f i + g i) n = sg f n + sg g n := by
  induction n with
  | zero => rfl
  | succ n ih => rw [sg, sg, sg, ih]; omega
theorem sg_zero (n : Nat) : sg (fun _ => 0) n = 0 := by
  induction n with
  | zero => rfl
  | succ n ih => rw [sg, ih]; rfl
theorem sg_swap (f : Nat → Nat → Int) (n m : Nat) : sg (fun i => sg (f i) m) n = sg (fun j => sg (fun i => f i j) n) m := by
  induction n with
  | zero => simp only [sg]; rw [sg_zero]
  | succ n ih => simp only [sg]; rw [ih, sg_add]
theorem sg_one {n k : Nat} (hk : k < n) (v : Int) : sg (fun i => if k = i then v else 0) n = v := by
  induction n with
  | zero => omega
  | succ n ih =>
    rw [sg]
    by_cases c : k = n
    · subst c
      rw [if_pos rfl, sg_congr (g := fun _ => 0) (fun i hi => if_neg (by omega)), sg_zero]; omega
    · rw [if_neg c, ih (by omega)]; omega
/-- totals, as sums -/
theorem tot_sg (R : List (List Int)) (a : List Int) (h : a.length = R.length) : tot R a = sg (fun i => val (R.getD i []) (a.getD i 0)) R.length := by
  have key : ∀ (R : List (List Int)) (a : List Int), a.length = R.length → ∀ f : Nat → Int, (∀ i, i < R.length → f i = val (R.getD i []) (a.getD i 0)) → tot R a = sg f R.length := by
    intro R
    induction R with
    | nil => intro a h f _; cases a <;> rfl
    | cons b R ih =>
      intro a h f hf
      cases a with
      | nil => simp at h
      | cons x a =>
        have h0 := hf 0 (by simp)
        have := ih a (by simpa using h) (fun i => f (i + 1)) fun i hi => by have := hf (i + 1) (by simp; omega); simpa using this
        rw [tot, this, List.length_cons]
        have sh : ∀ n, sg f (n + 1) = f 0 + sg (fun i => f (i + 1)) n := by
          intro n
          induction n with
          | zero => simp [sg]
          | succ n ih => rw [sg, ih, sg]; omega
        rw [sh, h0]
        rfl
  exact key R a h _ fun _ _ => rfl
/-- who has which thing -/
abbrev Ow := Nat → Option Nat
def sT (T : Nat → Bool) : Nat → Nat
  | 0 => 0
  | n + 1 => sT T n + if T n = true then 2 ^ n else 0
def has (f : Ow) (k t : Nat) : Bool := f t == some k
def alo (f : Ow) (n m : Nat) : List Int := (List.range n).map fun k => ((sT (has f k) m : Nat) : Int)
theorem sT_congr {T U : Nat → Bool} {m : Nat} (h : ∀ t, t < m → T t = U t) : sT T m = sT U m := by
  induction m with
  | zero => rfl
  | succ m ih => rw [sT, sT, ih fun t ht => h t (by omega), h m (by omega)]
theorem alo_congr {f g : Ow} {n m : Nat} (h : ∀ t, t < m → f t = g t) : alo f n m = alo g n m := by
  unfold alo
  apply List.map_congr_left
  intro k _
  rw [sT_congr (U := has g k) fun t ht => by unfold has; rw [h t ht]]
/-- the owners are of the group -/
def By (g : List Nat) (m : Nat) (f : Ow) : Prop := ∀ t k, t < m → f t = some k → k ∈ g
theorem alo_succ_none {f : Ow} {n m : Nat} (h : f m = none) : alo f n (m + 1) = alo f n m := by
  unfold alo
  apply List.map_congr_left
  intro k _
  simp [sT, has, h]
theorem alo_succ_some {f : Ow} {n m i : Nat} (hi : i < n) (h : f m = some i) : alo f n (m + 1) = bump (2 ^ m) (alo f n m) i := by
  rw [bump_eq (by simp [alo, hi])]
  apply List.ext_getElem
  · simp [alo]
  · intro k h1 h2
    simp [alo] at h1
    simp only [alo, List.getElem_map, List.getElem_range, List.getElem_set]
    by_cases c : i = k
    · subst c
      simp [sT, has, h, hi]
    · rw [if_neg c]
      have : has f k m = false := by simp [has, h, c]
      simp [sT, this]
theorem alo_mem {n : Nat} {g : List Nat} (hg : ∀ i ∈ g, i < n) (f : Ow) (m : Nat) (hf : By g m f) : alo f n m ∈ allotK n g m := by
  induction m with
  | zero =>
    have : alo f n 0 = List.replicate n 0 := by
      apply List.ext_getElem
      · simp [alo]
      · intro k h1 h2; simp [alo, sT]
    rw [this]; exact allotK_zero ..
  | succ m ih =>
    have := ih fun t k ht hk => hf t k (by omega) hk
    cases h : f m with
    | none => rw [alo_succ_none h]; exact allotK_up this
    | some i =>
      have hi := hf m i (by omega) h
      rw [alo_succ_some (hg i hi) h, allotK_succ]
      simp only [grow, List.mem_append, List.mem_flatMap, List.mem_map]
      exact .inr ⟨_, this, i, hi, rfl⟩
theorem mem_alo {n : Nat} {g : List Nat} (hg : ∀ i ∈ g, i < n) (m : Nat) : ∀ a ∈ allotK n g m, ∃ f : Ow, By g m f ∧ a = alo f n m := by
  induction m with
  | zero =>
    intro a ha
    refine ⟨fun _ => none, fun t k ht => by omega, ?_⟩
    simp [allotK] at ha
    subst ha
    apply List.ext_getElem
    · simp [alo]
    · intro k h1 h2; simp [alo, sT]
  | succ m ih =>
    intro a ha
    rw [allotK_succ] at ha
    simp only [grow, List.mem_append, List.mem_flatMap, List.mem_map] at ha
    rcases ha with ha | ⟨b, hb, i, hi, rfl⟩
    · obtain ⟨f, h1, rfl⟩ := ih a ha
      refine ⟨fun t => if t = m then none else f t, fun t k ht hk => ?_, ?_⟩
      · by_cases c : t = m
        · simp [c] at hk
        · simp [c] at hk; exact h1 t k (by omega) hk
      · rw [alo_succ_none (by simp)]
        exact alo_congr fun t ht => by simp [Nat.ne_of_lt ht]
    · obtain ⟨f, h1, rfl⟩ := ih b hb
      refine ⟨fun t => if t = m then some i else f t, fun t k ht hk => ?_, ?_⟩
      · by_cases c : t = m
        · simp [c] at hk; exact hk ▸ hi
        · simp [c] at hk; exact h1 t k (by omega) hk
      · rw [alo_succ_some (hg i hi) (f := fun t => if t = m then some i else f t) (by simp)]
        rw [alo_congr (f := fun t => if t = m then some i else f t) (g := f) fun t ht => by simp [Nat.ne_of_lt ht]]
theorem sT_lt (T : Nat → Bool) (m : Nat) : sT T m < 2 ^ m := by
  induction m with
  | zero => simp [sT]
  | succ m ih => rw [sT, Nat.pow_succ]; split <;> omega
theorem inside_sT (T : Nat → Bool) {m : Nat} (hm : m ≤ 3) : inside (sT T m) = (List.range m).filter T := by
  have : m = 0 ∨ m = 1 ∨ m = 2 ∨ m = 3 := by omega
  rcases this with rfl | rfl | rfl | rfl
  · show inside 0 = []; decide
  · cases h0 : T 0 <;> simp [sT, h0, inside, List.range_succ]
  · cases h0 : T 0 <;> cases h1 : T 1 <;> simp [sT, h0, h1, inside, List.range_succ]
  · cases h0 : T 0 <;> cases h1 : T 1 <;> cases h2 : T 2 <;> simp [sT, h0, h1, h2, inside, List.range_succ]
theorem sum_filter (T : Nat → Bool) (w : Nat → Int) (m : Nat) : (((List.range m).filter T).map w).sum = sg (fun t => if T t = true then w t else 0) m := by
  induction m with
  | zero => rfl
  | succ m ih =>
    rw [List.range_succ, List.filter_append, List.map_append, List.sum_append, ih, sg]
    congr 1
    cases h : T m <;> simp [h]
def Pl (m : Nat) (b : List Int) : Prop := (∃ ws : List Int, ws.length = m ∧ (∀ w ∈ ws, 0 ≤ w ∧ w < 4) ∧ b = sumB m ws) ∨ (∃ ws : List Int, ws.length = m ∧ (∀ w ∈ ws, 0 ≤ w ∧ w < 10) ∧ b = sglB m ws)
/-- what a bid says of the things one by one: `un` tells a bid for single things -/
structure Ws (m : Nat) (b : List Int) (w : Nat → Int) (un : Prop) : Prop where
  nn : ∀ t, 0 ≤ w t
  sum : ¬un → ∀ T, val b (sT T m : Nat) = sg (fun t => if T t = true then w t else 0) m
  ge : un → ∀ T t, t < m → T t = true → w t ≤ val b (sT T m : Nat)
  zr : un → ∀ T, 0 ≤ val b (sT T m : Nat)
  pick : un → ∀ T, val b (sT T m : Nat) = 0 ∨ ∃ t, t < m ∧ T t = true ∧ val b (sT T m : Nat) = w t
theorem maxL_cons (a : Int) (l : List Int) : (∀ x ∈ a :: l, x ≤ maxL (a :: l)) ∧ maxL (a :: l) ∈ a :: l := by
  induction l generalizing a with
  | nil => simp [maxL]
  | cons b l ih =>
    obtain ⟨h1, h2⟩ := ih b
    rw [maxL]
    refine ⟨fun x hx => ?_, ?_⟩
    · rcases List.mem_cons.1 hx with rfl | hx
      · omega
      · have := h1 x hx; omega
    · by_cases c : maxL (b :: l) ≤ a
      · rw [Int.max_eq_left c]; simp
      · rw [Int.max_eq_right (by omega)]; exact List.mem_cons_of_mem _ h2
theorem val_map (f : Nat → Int) {m s : Nat} (h : s < 2 ^ m) : val ((List.range (2 ^ m)).map f) (s : Int) = f s := by
  simp [val, List.getD, h]
theorem Pl.ws {m : Nat} (hm : m ≤ 3) {b : List Int} (h : Pl m b) : ∃ w un, Ws m b w un := by
  rcases h with ⟨ws, hl, hw, rfl⟩ | ⟨ws, hl, hw, rfl⟩
  · refine ⟨fun t => ws.getD t 0, False, ⟨fun t => ?_, fun _ T => ?_, fun h => h.elim, fun h => h.elim, fun h => h.elim⟩⟩
    · by_cases c : t < ws.length
      · exact (hw _ (getD_mem c)).1
      · simp [List.getD, List.getElem?_eq_none (Nat.le_of_not_lt c)]
    · rw [sumB, val_map _ (sT_lt T m), inside_sT T hm, sum_filter]
  · refine ⟨fun t => ws.getD t 0, True, ⟨fun t => ?_, fun h => (h trivial).elim, fun _ T t ht hT => ?_, fun _ T => ?_, fun _ T => ?_⟩⟩
    · by_cases c : t < ws.length
      · exact (hw _ (getD_mem c)).1
      · simp [List.getD, List.getElem?_eq_none (Nat.le_of_not_lt c)]
    · rw [sglB, val_map _ (sT_lt T m), inside_sT T hm]
      exact (maxL_cons _ _).1 _ (List.mem_cons_of_mem _ (List.mem_map.2 ⟨t, by simp [ht, hT], rfl⟩))
    · rw [sglB, val_map _ (sT_lt T m)]
      exact (maxL_cons _ _).1 0 (by simp)
    · rw [sglB, val_map _ (sT_lt T m), inside_sT T hm]
      rcases List.mem_cons.1 (maxL_cons 0 (((List.range m).filter T).map fun t => ws.getD t 0)).2 with h | h
      · exact .inl h
      · obtain ⟨t, ht, e⟩ := List.mem_map.1 h
        have := List.mem_filter.1 ht
        exact .inr ⟨t, List.mem_range.1 this.1, this.2, e.symm⟩
end DL

/-! M16: the other kinds of bids that laws draw; rooms of them. -/
namespace DL
open PySem PySem.Spec PyProof.Rows L2
theorem some_bid3 {ns : List Int} (hn : ns.length ≤ 63) {m t : Nat} (h1 : 1 ≤ m) (h3 : m ≤ 3) (ht : t < 80000) : ∃ g w t', 1 ≤ g ∧ g < 2 ^ m ∧ 0 ≤ w ∧ w ≤ 9 ∧ SB ns m 3 t (pkg m g w) t' := by
  have h8 := pow8 h3
  have h2 : 2 ≤ 2 ^ m := Nat.pow_le_pow_right (n := 2) (by decide) h1
  obtain ⟨v, v0, v1, hv⟩ := ae_draw hn (t := t) (by omega) (many := ((2 ^ m : Nat) : Int) - 1) (by omega) (e := [.fz (sc ns), tw0 t, .fz (nI m), .fz (nI 3), .fz (nI (2 ^ m)), .un, .un, .un, .un, .un, .un, .un, .un]) (i := 0) (j := 1) rfl rfl (d := dB gSub [(dVar 4), (dC (.int 1))]) (a_B2 (a_var (i := 4) rfl).a (a_c (x := .int 1)).a rfl)
  obtain ⟨g0, rfl⟩ := Int.eq_ofNat_of_zero_le v0
  obtain ⟨w, w0, w1, hw⟩ := ae_draw hn (t := t + 1) (by omega) (many := 10) (by decide) (e := [.fz (sc ns), tw0 (t + 1), .fz (nI m), .fz (nI 3), .fz (nI (2 ^ m)), .un, .un, .un, .un, .un, .un, .un, .un]) (i := 0) (j := 1) rfl rfl (a_c (x := .int 10))
  have hg2 : 1 + g0 < 2 ^ m := by omega
  refine ⟨1 + g0, w, t + 2, by omega, hg2, w0, by omega, by omega, by omega, sb_fin (e := []) ?_⟩
  generalize hz : 2 ^ m = z at *
  refine w_then (e1 := [.fz (sc ns), tw0 t, .fz (nI m), .fz (nI 3), .fz (nI z), .un, .un, .un, .un, .un, .un, .un, .un]) (s_setF' (i := 4) (hz ▸ a_sizeL h1 h3 (a_var (i := 2) rfl))) ?_
  refine w_then (s_if_skip (t_kind (k := 3) (j := 1) rfl rfl)) ?_
  refine w_then (s_if_skip (t_kind (k := 3) (j := 2) rfl rfl)) ?_
  refine w_seq (w_if (t_kind (k := 3) (j := 3) rfl rfl) (fun _ => ?_) fun h => by cases h)
  refine w_then (e1 := [.fz (sc ns), tw0 (t + 2), .fz (nI m), .fz (nI 3), .fz (nI z), .un, .un, .un, .un, .fz (nI (1 + g0)), .fz (.int w), .un, .un]) (se_parF (i := 9) (j := 10) (ae_B2 (g := gAdd) (z := nI (1 + g0)) (a_c (x := .int 1)).ae hv (by show some (Out.fz (.int (1 + (g0 : Int)))) = _; simp [nI])) hw) ?_
  refine w_then (e1 := [.fz (sc ns), tw0 (t + 2), .fz (nI m), .fz (nI 3), .fz (nI z), .own (.l []), .un, .un, .un, .fz (nI (1 + g0)), .fz (.int w), .un, .un]) (s_setL (i := 5) .nil) ?_
  refine w_seq (w_forI nI (fun done e => ∃ x6, e = [.fz (sc ns), tw0 (t + 2), .fz (nI m), .fz (nI 3), .fz (nI z), .own (.l (done.map fun s => .int (if hld s (1 + g0) = true then w else 0))), x6, .un, .un, .fz (nI (1 + g0)), .fz (.int w), .un, .un]) (List.range z) (i_rng1 (by omega) (a_var (i := 4) rfl)) ⟨_, rfl⟩ ?_ ?_)
  · rintro done s rest _ hd ⟨x6, rfl⟩
    have hdl : done.length < 100000 := by have := congrArg List.length hd; simp at this; omega
    refine ⟨_, rfl, ?_⟩
    have a1 := a_comp (t := .nm 12) (vs := [12]) (di := dIt gSeq [(dCall F_law_inside [(dVar 9)])]) (tt := dTruth (dB gNotIn [(dVar 12), (dCall F_law_inside [(dVar 6)])])) (te := dC (.int 1)) (e := [.fz (sc ns), tw0 (t + 2), .fz (nI m), .fz (nI 3), .fz (nI z), .own (.l (done.map fun s => .int (if hld s (1 + g0) = true then w else 0))), .fz (nI s), .un, .un, .fz (nI (1 + g0)), .fz (.int w), .un, .un]) nI (fun t => decide (t ∉ inside s)) (fun _ => .int 1) (inside (1 + g0)) (i_seqL (a_call (.cons (a_var (i := 9) rfl) .nil) (law_inside_fn _))) (fun t' => [.fz (sc ns), tw0 (t + 2), .fz (nI m), .fz (nI 3), .fz (nI z), .own (.l (done.map fun s => .int (if hld s (1 + g0) = true then w else 0))), .fz (nI s), .un, .un, .fz (nI (1 + g0)), .fz (.int w), .un, .fz (nI t')]) rfl fun t' _ => ⟨rfl, rfl, t_truth (a_B2 (a_var (i := 12) rfl).a (a_call (.cons (a_var (i := 6) rfl) .nil) (law_inside_fn s)).a gNotInI).a, fun _ => a_c⟩
    have T := t_truth (a_B2 (g := gEq) a1.a (a_lst .nil).a (by have := gEqIs (((inside (1 + g0)).filter fun t => decide (t ∉ inside s)).map fun _ => 1) []; rwa [List.map_map] at this)).a
    have e : decide ((((inside (1 + g0)).filter fun t => decide (t ∉ inside s)).map fun _ => (1 : Int)) = []) = hld s (1 + g0) := by
      rw [Bool.eq_iff_iff]
      simp [hld, List.filter_eq_nil_iff]
    rw [e] at T
    refine w_ok (s_app (i := 5) rfl (by simpa using hdl) (a_ife (x := .int (if hld s (1 + g0) = true then w else 0)) T (fun c => ?_) (fun c => ?_))) ⟨rfl, .fz (nI s), ?_⟩
    · rw [if_pos c]; exact a_var (i := 10) rfl
    · rw [if_neg (by simp [c])]; exact a_c
    · simp
  · rintro _ ⟨x6, rfl⟩
    refine ⟨fun _ => ?_, fun r hr => by cases hr⟩
    refine w_ret (a_B1 (g := gTuple) (a_own (i := 5) rfl) rfl) fun r hr => ?_
    cases rx_tup hr
    refine ⟨(fun h => by cases h), (fun r' e' => ?_)⟩
    cases e'
    refine ⟨rfl, ?_⟩
    rw [tupI, pkg, List.map_map, hz]
    rfl
theorem rng2 {n : Nat} (h : n ≤ 1000) : gRng2 [.int 1, nI n] = some ((List.range (n - 1)).map fun i => nI (1 + i)) := by
  have : -1000000 ≤ (1 : Int) ∧ (1 : Int) ≤ 1000000 ∧ -1000000 ≤ (n : Int) ∧ (n : Int) ≤ 1000000 := by omega
  simp only [gRng2, nI]
  rw [if_pos this]
  have e : ((n : Int) - 1).toNat = n - 1 := by omega
  rw [e]
  simp [rangeL]
theorem range_at {n : Nat} {done : List Nat} {x : Nat} {rest : List Nat} (h : List.range n = done ++ x :: rest) : x = done.length := by
  have h1 : (done ++ x :: rest)[done.length]? = some x := by simp
  rw [← h] at h1
  rw [List.getElem?_range] at h1
  · exact (Option.some.inj h1).symm
  · have := congrArg List.length h; simp at this; omega
structure Jn (b : List Int) : Prop where
  bd : ∀ x ∈ b, 0 ≤ x ∧ x ≤ 9
  zero : b[0]? = some 0
  rise : ∀ (s t : Nat) (x y : Int), t < 3 → s / 2 ^ t % 2 = 0 → b[s]? = some x → b[s + 2 ^ t]? = some y → x ≤ y
theorem ins_up : ∀ s t : Fin 8, t.val < 3 → s.val / 2 ^ t.val % 2 = 0 → s.val + 2 ^ t.val < 8 → t.val ∈ inside (s.val + 2 ^ t.val) := by decide +kernel
theorem ins_ne : ∀ k : Fin 8, 1 ≤ k.val → inside k.val ≠ [] := by decide +kernel
theorem ins_le : ∀ k : Fin 8, ∀ t ∈ inside k.val, 2 ^ t ≤ k.val := by decide +kernel
theorem Jn.step {b : List Int} (h : Jn b) (hl : b.length < 8) (h0 : 1 ≤ b.length) {v : Int} (hv : 0 ≤ v ∧ v ≤ 9) (hb : ∀ t ∈ inside b.length, ∀ x, b[b.length - 2 ^ t]? = some x → x ≤ v) : Jn (b ++ [v]) := by
  refine ⟨fun x hx => ?_, ?_, fun s t x y ht hs hx hy => ?_⟩
  · rcases List.mem_append.1 hx with hx | hx
    · exact h.bd x hx
    · simp at hx; exact hx ▸ hv
  · rw [List.getElem?_append_left (by omega)]; exact h.zero
  · have hp := Nat.two_pow_pos t
    have hlt := (List.getElem?_eq_some_iff.1 hy).1
    simp at hlt
    rw [List.getElem?_append_left (by omega)] at hx
    by_cases c : s + 2 ^ t < b.length
    · rw [List.getElem?_append_left c] at hy
      exact h.rise s t x y ht hs hx hy
    · have e : s + 2 ^ t = b.length := by omega
      have hy' : y = v := by rw [e] at hy; simpa using hy.symm
      subst hy'
      have hm := ins_up ⟨s, by omega⟩ ⟨t, by omega⟩ ht hs (by simp; omega)
      simp only at hm
      rw [e] at hm
      refine hb t hm x ?_
      rw [show b.length - 2 ^ t = s by omega]
      exact hx
theorem gMinI (a b : Int) : gMin [.int a, .int b] = some (.fz (.int (min a b))) := by
  simp only [gMin]
  congr 3
  split <;> omega
theorem step_ix {v : Int} (h0 : 0 ≤ v) (h5 : v < 5) : ∃ d : Int, 0 ≤ d ∧ gIx [.list [.int 0, .int 0, .int 1, .int 2, .int 5], .int v] = some (.fz (.int d)) := by
  have : v = 0 ∨ v = 1 ∨ v = 2 ∨ v = 3 ∨ v = 4 := by omega
  rcases this with rfl | rfl | rfl | rfl | rfl
  · exact ⟨0, by decide, rfl⟩
  · exact ⟨0, by decide, rfl⟩
  · exact ⟨1, by decide, rfl⟩
  · exact ⟨2, by decide, rfl⟩
  · exact ⟨5, by decide, rfl⟩
theorem a_pw {t i : Nat} (h : t < 3) {e : List Sl} (hv : e[i]? = some (.fz (nI t))) : Af (dB gIx [(dLst [(dC (.int 1)), (dC (.int 2)), (dC (.int 4))]), (dVar i)]) e (nI (2 ^ t)) := by
  have L : A (dLst [(dC (.int 1)), (dC (.int 2)), (dC (.int 4))]) e (.list [.int 1, .int 2, .int 4]) := (a_lst (.cons a_c (.cons a_c (.cons a_c .nil)))).a
  have : t = 0 ∨ t = 1 ∨ t = 2 := by omega
  rcases this with rfl | rfl | rfl
  · exact a_B2 L (a_var hv).a rfl
  · exact a_B2 L (a_var hv).a rfl
  · exact a_B2 L (a_var hv).a rfl
theorem gSubN {a b : Nat} (h : b ≤ a) : gSub [nI a, nI b] = some (.fz (nI (a - b))) := by
  show some (Out.fz (.int ((a : Int) - (b : Int)))) = _
  rw [nI]
  congr 3
  omega
theorem some_bid0 {ns : List Int} (hn : ns.length ≤ 63) {m t : Nat} (h1 : 1 ≤ m) (h3 : m ≤ 3) (ht : t < 80000) : ∃ b t', Bid m b ∧ SB ns m 0 t b t' := by
  have h8 := pow8 h3
  have h2 : 2 ≤ 2 ^ m := Nat.pow_le_pow_right (n := 2) (by decide) h1
  have key : W (B_law_some_bid [.fz (sc ns), tw0 t, .fz (nI m), .fz (nI 0), .un, .un, .un, .un, .un, .un, .un, .un, .un]) fun f e => ∃ b t', b.length = 2 ^ m ∧ Jn b ∧ t ≤ t' ∧ t' ≤ t + 8 ∧ e.take 4 = [.fz (sc ns), tw0 t', .fz (nI m), .fz (nI 0)] ∧ f = .rt (.fz (tupI b)) := by
    have asz : ∀ e : List Sl, e[2]? = some (.fz (nI m)) → Af (dB gIx [(dLst [(dC (.int 2)), (dC (.int 4)), (dC (.int 8))]), (dB gSub [(dVar 2), (dC (.int 1))])]) e (nI (2 ^ m)) := fun e he => a_sizeL h1 h3 (a_var he)
    generalize hz : 2 ^ m = z at *
    refine w_then (e1 := [.fz (sc ns), tw0 t, .fz (nI m), .fz (nI 0), .fz (nI z), .un, .un, .un, .un, .un, .un, .un, .un]) (s_setF' (i := 4) (asz _ rfl)) ?_
    refine w_then (s_if_skip (t_kind (k := 0) (j := 1) rfl rfl)) ?_
    refine w_then (s_if_skip (t_kind (k := 0) (j := 2) rfl rfl)) ?_
    refine w_then (s_if_skip (t_kind (k := 0) (j := 3) rfl rfl)) ?_
    refine w_then (e1 := [.fz (sc ns), tw0 t, .fz (nI m), .fz (nI 0), .fz (nI z), .own (.l ([0].map .int)), .un, .un, .un, .un, .un, .un, .un]) (s_setL (i := 5) (.cons a_c .nil)) ?_
    refine w_seq (w_forI (fun i => nI (1 + i)) (fun done e => ∃ (b : List Int) (t' : Nat) (x6 x8 : Sl), b.length = 1 + done.length ∧ Jn b ∧ t ≤ t' ∧ t' ≤ t + done.length ∧ e = [.fz (sc ns), tw0 t', .fz (nI m), .fz (nI 0), .fz (nI z), .own (.l (b.map .int)), x6, .un, x8, .un, .un, .un, .un]) (List.range (z - 1)) (it_eq (.cons (a_c (x := .int 1)) (.cons (a_var (i := 4) rfl) .nil)) (rng2 (by omega))) ⟨[0], t, .un, .un, rfl, ⟨by simp, rfl, fun s t' x y ht hs hx hy => ?_⟩, Nat.le_refl _, by simp, rfl⟩ ?_ ?_)
    · have hp := Nat.two_pow_pos t'
      have := (List.getElem?_eq_some_iff.1 hy).1
      simp at this
    · rintro done i rest _ hd ⟨b, t', x6, x8, b1, b2, b3, b4, rfl⟩
      have hi := range_at hd
      have hdl : done.length < z - 1 := by have := congrArg List.length hd; simp at this; omega
      subst hi
      have hk8 : b.length < 8 := by omega
      rw [← b1]
      refine ⟨_, rfl, ?_⟩
      have hle := ins_le ⟨b.length, hk8⟩
      have hne := ins_ne ⟨b.length, hk8⟩ (by simp; omega)
      simp only at hle hne
      have a1 := a_map (t := .nm 12) (vs := [12]) (di := dIt gSeq [(dCall F_law_inside [(dVar 6)])]) (te := dB gIx [(dVar 5), (dB gSub [(dVar 6), (dB gIx [(dLst [(dC (.int 1)), (dC (.int 2)), (dC (.int 4))]), (dVar 12)])])]) (e := [.fz (sc ns), tw0 t', .fz (nI m), .fz (nI 0), .fz (nI z), .own (.l (b.map .int)), .fz (nI b.length), .un, x8, .un, .un, .un, .un]) nI (fun t => .int (b.getD (b.length - 2 ^ t) 0)) (inside b.length) (i_seqL (a_call (.cons (a_var (i := 6) rfl) .nil) (law_inside_fn _))) (fun q => [.fz (sc ns), tw0 t', .fz (nI m), .fz (nI 0), .fz (nI z), .own (.l (b.map .int)), .fz (nI b.length), .un, x8, .un, .un, .un, .fz (nI q)]) rfl fun q hq => ⟨rfl, rfl, a_B2 (a_own (i := 5) rfl) (a_B2 (a_var (i := 6) rfl).a (a_pw (i := 12) (inside_lt hq) rfl).a (gSubN (hle q hq))).a (wsl_ix (by have := Nat.two_pow_pos q; omega))⟩
      obtain ⟨q0, qs, hq⟩ : ∃ q0 qs, inside b.length = q0 :: qs := by
        cases hI : inside b.length with
        | nil => exact absurd hI hne
        | cons a l => exact ⟨a, l, rfl⟩
      have a2 := a_B1 (g := gMax) a1.a (by rw [hq]; have := gMaxL (b.getD (b.length - 2 ^ q0) 0) (qs.map fun t => b.getD (b.length - 2 ^ t) 0); rw [List.map_cons, List.map_map] at this; exact this)
      have mx := maxL_cons (b.getD (b.length - 2 ^ q0) 0) (qs.map fun t => b.getD (b.length - 2 ^ t) 0)
      generalize hlow : maxL (b.getD (b.length - 2 ^ q0) 0 :: qs.map fun t => b.getD (b.length - 2 ^ t) 0) = low at a2 mx
      have hall : ∀ q ∈ inside b.length, b.getD (b.length - 2 ^ q) 0 ≤ low := fun q hq' => by
        rw [hq] at hq'
        rcases List.mem_cons.1 hq' with rfl | hq'
        · exact mx.1 _ (by simp)
        · exact mx.1 _ (List.mem_cons_of_mem _ (List.mem_map.2 ⟨q, hq', rfl⟩))
      have hlow9 : 0 ≤ low ∧ low ≤ 9 := by
        rcases List.mem_cons.1 mx.2 with h | h
        · rw [h]; exact b2.bd _ (getD_mem (by have := Nat.two_pow_pos q0; omega))
        · obtain ⟨q, _, e⟩ := List.mem_map.1 h
          rw [← e]; exact b2.bd _ (getD_mem (by have := Nat.two_pow_pos q; omega))
      refine w_then (s_setF' (i := 8) a2) ?_
      obtain ⟨v, v0, v5, hv⟩ := ae_draw hn (t := t') (by omega) (many := 5) (by decide) (e := [.fz (sc ns), tw0 t', .fz (nI m), .fz (nI 0), .fz (nI z), .own (.l (b.map .int)), .fz (nI b.length), .un, .fz (.int low), .un, .un, .un, .un]) (i := 0) (j := 1) rfl rfl (a_c (x := .int 5))
      obtain ⟨d, d0, hd5⟩ := step_ix v0 v5
      refine w_ok (se_app (i := 5) (ys := b.map .int) (xs := b.map .int) rfl (ae_B2 (g := gMin) (a_c (x := .int 9)).ae (ae_B2 (g := gAdd) (a_var (i := 8) rfl).ae (ae_B2 (g := gIx) (a_lst (.cons (a_c (x := .int 0)) (.cons (a_c (x := .int 0)) (.cons (a_c (x := .int 1)) (.cons (a_c (x := .int 2)) (.cons (a_c (x := .int 5)) .nil)))))).ae hv hd5) rfl) (gMinI _ _)) rfl (by simp; omega)) ⟨rfl, b ++ [min 9 (low + d)], t' + 1, .fz (nI b.length), .fz (.int low), by simp; omega, ?_, by omega, by simp; omega, ?_⟩
      · refine b2.step hk8 (by omega) (by omega) fun q hq' x hx => ?_
        have := hall q hq'
        rw [List.getD_eq_getElem?_getD, hx] at this
        simp at this
        omega
      · simp
    · rintro _ ⟨b, t', x6, x8, b1, b2, b3, b4, rfl⟩
      refine ⟨fun _ => ?_, fun r hr => by cases hr⟩
      rw [List.length_range] at b1 b4
      refine w_ret (a_B1 (g := gTuple) (z := tupI b) (a_own (i := 5) rfl) rfl) fun r hr => ⟨b, t', by omega, b2, b3, by omega, rfl, ?_⟩
      rw [rx_tup hr]; rfl
  cases hb : B_law_some_bid [.fz (sc ns), tw0 t, .fz (nI m), .fz (nI 0), .un, .un, .un, .un, .un, .un, .un, .un, .un] with
  | ok f e =>
    rw [hb] at key
    obtain ⟨b, t', b1, b2, b3, b4, b5, rfl⟩ := key
    refine ⟨b, t', ⟨b1, b2.bd, b2.zero, fun s t x y ht => b2.rise s t x y (by omega)⟩, b3, b4, sb_fin (e := []) ?_⟩
    rw [hb]; exact ⟨b5, rfl⟩
  | ex c e => rw [hb] at key; exact key.elim
  | bad => rw [hb] at key; exact key.elim
theorem some_bid_any {ns : List Int} (hn : ns.length ≤ 63) {m t k : Nat} (h1 : 1 ≤ m) (h3 : m ≤ 3) (ht : t < 80000) (hk : k < 4) : ∃ b t', Bid m b ∧ SB ns m k t b t' := by
  have : k = 0 ∨ k = 1 ∨ k = 2 ∨ k = 3 := by omega
  rcases this with rfl | rfl | rfl | rfl
  · exact some_bid0 hn h1 h3 ht
  · obtain ⟨ws, t', a, b, c⟩ := some_bid1 hn (t := t) h1 h3 ht
    exact ⟨_, t', sumB_bid h1 h3 a b, c⟩
  · obtain ⟨ws, t', a, b, c⟩ := some_bid2 hn (t := t) h1 h3 ht
    exact ⟨_, t', sglB_bid h1 h3 a b, c⟩
  · obtain ⟨g, w, t', a, b, c, d, e⟩ := some_bid3 hn (t := t) h1 h3 ht
    exact ⟨_, t', pkg_bid h1 h3 a b c d, e⟩
theorem some_room_eq {ns : List Int} (hn : ns.length ≤ 63) {t most : Nat} (ht : t < 10000) (hm1 : 1 ≤ most) (hm4 : most ≤ 4) :
    ∃ m R t', Rm m R ∧ R.length ≤ most ∧ t' ≤ t + 100 ∧ F_law_some_room [.fz (sc ns), tw0 t, .fz (nI most)] = .ok (.fz (rmD R)) [.fz (sc ns), tw0 t', .fz (nI most)] := by
  obtain ⟨v, v0, v1, hv⟩ := ae_draw hn (t := t) (by omega) (many := 3) (by decide) (e := [.fz (sc ns), tw0 t, .fz (nI most), .un, .un, .un]) (i := 0) (j := 1) rfl rfl (a_c (x := .int 3))
  obtain ⟨m0, rfl⟩ := Int.eq_ofNat_of_zero_le v0
  let m := 1 + m0
  have hm : 1 ≤ m ∧ m ≤ 3 := by simp only [m]; omega
  have s1 := se_parL (i := 4) (j := 5) (ae_B2 (g := gAdd) (z := nI m) (a_c (x := .int 1)).ae hv (by show some (Out.fz (.int (1 + (m0 : Int)))) = _; simp [nI, m]))
  obtain ⟨u, u0, u1, hu⟩ := ae_draw hn (t := t + 1) (by omega) (many := (most : Nat)) (by omega) (e := [.fz (sc ns), tw0 (t + 1), .fz (nI most), .un, .fz (nI m), .own (.l [])]) (i := 0) (j := 1) rfl rfl (a_var (i := 2) rfl)
  obtain ⟨n0, rfl⟩ := Int.eq_ofNat_of_zero_le u0
  let n := 1 + n0
  have hnn : 1 ≤ n ∧ n ≤ most := by simp only [n]; omega
  have key : W (B_law_some_room [.fz (sc ns), tw0 t, .fz (nI most), .un, .un, .un]) fun f e => ∃ R t', R.length = n ∧ (∀ b ∈ R, Bid m b) ∧ t' ≤ t + 100 ∧ e.take 3 = [.fz (sc ns), tw0 t', .fz (nI most)] ∧ f = .rt (.fz (rmD R)) := by
    refine w_then s1 ?_
    refine w_seq (w_forE nI (fun done e => ∃ R t' x4, R.length = done.length ∧ (∀ b ∈ R, Bid m b) ∧ t' ≤ t + 2 + 10 * done.length ∧ e = [.fz (sc ns), tw0 t', .fz (nI most), x4, .fz (nI m), .own (.l (R.map tupI))]) (List.range n) (e1 := [.fz (sc ns), tw0 (t + 2), .fz (nI most), .un, .fz (nI m), .own (.l [])]) ?_ ⟨[], t + 2, .un, rfl, by simp, by simp, rfl⟩ ?_ ?_)
    · exact it_eqE (.cons (ae_B2 (g := gAdd) (z := nI n) (a_c (x := .int 1)).ae hu (by show some (Out.fz (.int (1 + (n0 : Int)))) = _; simp [nI, n])) .nil) (rng1 (by omega))
    · rintro done x rest _ hd ⟨R, t', x4, r1, r2, r3, rfl⟩
      have hdl : done.length < n := by have := congrArg List.length hd; simp at this; omega
      refine ⟨_, rfl, ?_⟩
      obtain ⟨p, p0, p1, p2⟩ := ae_draw hn (t := t') (by omega) (many := 4) (by decide) (e := [.fz (sc ns), tw0 t', .fz (nI most), .fz (nI x), .fz (nI m), .own (.l (R.map tupI))]) (i := 0) (j := 1) rfl rfl (a_c (x := .int 4))
      obtain ⟨k, rfl⟩ := Int.eq_ofNat_of_zero_le p0
      obtain ⟨b, t2, hb, sb⟩ := some_bid_any hn hm.1 hm.2 (t := t' + 1) (k := k) (by omega) (by omega)
      have c := bid_call sb (i := 0) (j := 1) (l := 4) (t := t') (e := [.fz (sc ns), tw0 t', .fz (nI most), .fz (nI x), .fz (nI m), .own (.l (R.map tupI))]) rfl rfl rfl p2 rfl
      refine w_ok (se_app (i := 5) (ys := R.map tupI) (xs := R.map tupI) rfl c rfl (by simp; omega)) ⟨rfl, R ++ [b], t2, .fz (nI x), by simp [r1], ?_, ?_, ?_⟩
      · intro z hz
        rcases List.mem_append.1 hz with hz | hz
        · exact r2 z hz
        · simp at hz; exact hz ▸ hb
      · have := sb.2.1; simp; omega
      · simp
    · rintro _ ⟨R, t', x4, r1, r2, r3, rfl⟩
      refine ⟨fun _ => ?_, fun r hr => by cases hr⟩
      rw [List.length_range] at r1 r3
      refine w_ret (a_B1 (g := gTuple) (z := rmD R) (a_own (i := 5) rfl) rfl) fun r hr => ⟨R, t', r1, r2, by omega, rfl, ?_⟩
      rw [rx_tup hr]
      rfl
  cases hb : B_law_some_room [.fz (sc ns), tw0 t, .fz (nI most), .un, .un, .un] with
  | ok f e =>
    rw [hb] at key
    obtain ⟨R, t', r1, r2, r3, r4, rfl⟩ := key
    refine ⟨m, R, t', ⟨hm.1, hm.2, by omega, by omega, r2⟩, by omega, r3, ?_⟩
    unfold F_law_some_room fnD
    simp only [List.replicate, List.cons_append, List.nil_append, hb, fnEnd, r4]
  | ex c e => rw [hb] at key; exact key.elim
  | bad => rw [hb] at key; exact key.elim
end DL

/-! M17: the shares that laws count themselves. -/
namespace DL
open PySem PySem.Spec PyProof.Rows L2
def dsj (s u : Nat) : Bool := decide (((inside s).filter fun t => decide (t ∈ inside u)) = [])
def exts (m : Nat) (own : List Nat) : List (List Nat) := ((List.range (2 ^ m)).filter fun s => dsj s own.sum).map fun s => own ++ [s]
def shrN (m : Nat) : Nat → List (List Nat)
  | 0 => [[]]
  | n + 1 => (shrN m n).flatMap (exts m)
def shr (n m : Nat) : List (List Int) := (shrN m n).map zg
theorem shrN_len : ∀ m, m ≤ 3 → ∀ n, n ≤ 4 → (shrN m n).length ≤ 125 := by
  intro m hm n hn
  have a : m = 0 ∨ m = 1 ∨ m = 2 ∨ m = 3 := by omega
  have b : n = 0 ∨ n = 1 ∨ n = 2 ∨ n = 3 ∨ n = 4 := by omega
  rcases a with rfl | rfl | rfl | rfl <;> rcases b with rfl | rfl | rfl | rfl | rfl <;> decide +kernel
theorem shr_all : ∀ m, 1 ≤ m → m ≤ 3 → ∀ n, n ≤ 4 → (∀ a ∈ shr n m, a ∈ allotK n (List.range n) m) ∧ (∀ a ∈ allotK n (List.range n) m, a ∈ shr n m) ∧ (shr n m).Pairwise (fun a b => a ≤ b) := by
  intro m h1 hm n hn
  have a : m = 1 ∨ m = 2 ∨ m = 3 := by omega
  have b : n = 0 ∨ n = 1 ∨ n = 2 ∨ n = 3 ∨ n = 4 := by omega
  rcases a with rfl | rfl | rfl <;> rcases b with rfl | rfl | rfl | rfl | rfl <;> decide +kernel
theorem zg_sum (own : List Nat) : (zg own).sum = ((own.sum : Nat) : Int) := by
  induction own with
  | nil => rfl
  | cons a l ih => simp [zg] at ih ⊢; rw [ih]
theorem gSumT (own : List Nat) : gSum [gT own] = some (.fz (nI own.sum)) := by
  have : gSum [.tuple ((zg own).map .int)] = some (.fz (.int (zg own).sum)) := by simp only [gSum, intsOf_map, Option.map_some]
  rw [gT_eq, tupI, this, zg_sum]
  rfl
theorem exts_len (m : Nat) (own : List Nat) : (exts m own).length ≤ 2 ^ m := by
  have := List.length_filter_le (fun s => dsj s own.sum) (List.range (2 ^ m))
  simpa [exts] using this
theorem flat_len (m : Nat) (l : List (List Nat)) : (l.flatMap (exts m)).length ≤ l.length * 2 ^ m := by
  induction l with
  | nil => simp
  | cons a l ih => have := exts_len m a; simp [Nat.succ_mul] at ih ⊢; omega
theorem shrN_row (m n : Nat) : ∀ own ∈ shrN m n, own.length = n := by
  induction n with
  | zero => intro own h; simp [shrN] at h; simp [h]
  | succ n ih =>
    intro own h
    obtain ⟨o, h1, h2⟩ := List.mem_flatMap.1 h
    obtain ⟨s, _, rfl⟩ := List.mem_map.1 h2
    simp [ih o h1]
theorem shares_fn {m : Nat} {R : List (List Int)} (h : Rm m R) : Fn F_law_shares [rmD R] (.list ((shr R.length m).map tupI)) := by
  have h4 := h.n4
  have hm3 := h.m3
  have h8 := pow8 hm3
  have hg : ∀ n, (shr n m).map tupI = (shrN m n).map gT := fun n => by rw [shr, List.map_map]; apply List.map_congr_left; intro g _; exact (gT_eq g).symm
  rw [hg]
  refine w_fn ?_
  refine w_then (e1 := [.fz (rmD R), .fz (.list ((shrN m 0).map gT)), .un, .un, .un, .un, .un, .un]) (s_setF' (i := 1) (a_lst (.cons (a_tup .nil) .nil))) ?_
  refine w_seq (w_forI tupI (fun done e => ∃ x2 x3 x4 x5 x6, e = [.fz (rmD R), .fz (.list ((shrN m done.length).map gT)), x2, x3, x4, x5, x6, .un]) R (i_seqT (a_var (i := 0) rfl)) ⟨_, _, _, _, _, rfl⟩ ?_ ?_)
  · rintro done b rest _ hd ⟨x2, x3, x4, x5, x6, rfl⟩
    have hbR : b ∈ R := by rw [hd]; simp
    have hbl := (h.bid b hbR).len
    have hdl : done.length < R.length := by have := congrArg List.length hd; simp at this; omega
    have hsl := shrN_len m hm3 done.length (by omega)
    refine ⟨_, rfl, ?_⟩
    refine w_then (e1 := [.fz (rmD R), .fz (.list ((shrN m done.length).map gT)), .fz (tupI b), .own (.l []), x4, x5, x6, .un]) (s_setL (i := 3) .nil) ?_
    rw [List.length_append, List.length_singleton]
    rw [show shrN m (done.length + 1) = (shrN m done.length).flatMap (exts m) from rfl]
    have hrow := shrN_row m done.length
    generalize shrN m done.length = S at *
    refine w_seq (w_forI gT (fun dn e => ∃ x4 x5 x6, e = [.fz (rmD R), .fz (.list (S.map gT)), .fz (tupI b), .own (.l ((dn.flatMap (exts m)).map gT)), x4, x5, x6, .un]) S (i_seqL (a_var (i := 1) rfl)) ⟨_, _, _, rfl⟩ ?_ ?_)
    · rintro dn own rs _ hdn ⟨x4, x5, x6, rfl⟩
      have hdnl : dn.length < S.length := by have := congrArg List.length hdn; simp at this; omega
      have hfl := flat_len m dn
      have hfl2 : dn.length * 2 ^ m ≤ 125 * 8 := Nat.mul_le_mul (by omega) h8
      refine ⟨_, rfl, ?_⟩
      refine w_then (s_setF' (i := 5) (a_B1 (a_var (i := 4) rfl).a (gSumT own))) ?_
      refine w_forI nI (fun ds e => ∃ x6, e = [.fz (rmD R), .fz (.list (S.map gT)), .fz (tupI b), .own (.l ((dn.flatMap (exts m) ++ ((ds.filter fun s => dsj s own.sum).map fun s => own ++ [s])).map gT)), .fz (gT own), .fz (nI own.sum), x6, .un]) (List.range (2 ^ m)) (i_rng1 (by omega) (a_B1 (a_var (i := 2) rfl).a (by rw [tupI, gLenT, List.length_map, hbl]; rfl))) ⟨x6, by simp⟩ ?_ ?_
      · rintro ds s rss _ hds ⟨x6, rfl⟩
        have hdsl : ds.length < 2 ^ m := by have := congrArg List.length hds; simp at this; omega
        refine ⟨_, rfl, ?_⟩
        have a1 := a_comp (t := .nm 7) (vs := [7]) (di := dIt gSeq [(dCall F_law_inside [(dVar 6)])]) (tt := dTruth (dB gIn [(dVar 7), (dCall F_law_inside [(dVar 5)])])) (te := dC (.int 1)) (e := [.fz (rmD R), .fz (.list (S.map gT)), .fz (tupI b), .own (.l ((dn.flatMap (exts m) ++ ((ds.filter fun s => dsj s own.sum).map fun s => own ++ [s])).map gT)), .fz (gT own), .fz (nI own.sum), .fz (nI s), .un]) nI (fun t => decide (t ∈ inside own.sum)) (fun _ => .int 1) (inside s) (i_seqL (a_call (.cons (a_var (i := 6) rfl) .nil) (law_inside_fn _))) (fun t => [.fz (rmD R), .fz (.list (S.map gT)), .fz (tupI b), .own (.l ((dn.flatMap (exts m) ++ ((ds.filter fun s => dsj s own.sum).map fun s => own ++ [s])).map gT)), .fz (gT own), .fz (nI own.sum), .fz (nI s), .fz (nI t)]) rfl fun t _ => ⟨rfl, rfl, t_truth (a_B2 (a_var (i := 7) rfl).a (a_call (.cons (a_var (i := 5) rfl) .nil) (law_inside_fn _)).a gInN).a, fun _ => a_c⟩
        have T := t_truth (a_B2 (g := gEq) a1.a (a_lst .nil).a (by have := gEqIs (((inside s).filter fun t => decide (t ∈ inside own.sum)).map fun _ => 1) []; rwa [List.map_map] at this)).a
        have e : decide ((((inside s).filter fun t => decide (t ∈ inside own.sum)).map fun _ => (1 : Int)) = []) = dsj s own.sum := by
          rw [Bool.eq_iff_iff]
          simp [dsj]
        rw [e] at T
        refine w_if T (fun c => ?_) (fun c => w_next ⟨rfl, .fz (nI s), ?_⟩)
        · have hol : own.length = done.length := hrow own (by rw [hdn]; simp)
          refine w_ok (s_app (i := 3) rfl ?_ (x := gT (own ++ [s])) ?_) ⟨rfl, .fz (nI s), ?_⟩
          · have := List.length_filter_le (fun s => dsj s own.sum) ds
            simp only [List.length_map, List.length_append]; omega
          · have eo : gT (own ++ [s]) = .tuple (own.map nI ++ [nI s]) := by simp [gT]
            rw [eo]
            refine a_B2 (a_var (i := 4) rfl).a (a_tup (.cons (a_var (i := 6) rfl) .nil)).a (gAddT ?_)
            simp; omega
          · simp [List.filter_append, c]
        · simp [List.filter_append, c]
      · rintro _ ⟨x6, rfl⟩
        refine ⟨rfl, .fz (gT own), .fz (nI own.sum), x6, ?_⟩
        rw [flatMap_snoc]
        rfl
    · rintro _ ⟨x4, x5, x6, rfl⟩
      refine ⟨fun _ => ?_, fun r hr => by cases hr⟩
      exact w_ok (s_setFown (i := 1) (j := 3) rfl) ⟨rfl, .fz (tupI b), .fz (.list ((S.flatMap (exts m)).map gT)), x4, x5, x6, rfl⟩
  · rintro _ ⟨x2, x3, x4, x5, x6, rfl⟩
    exact ⟨fun _ => w_ret (a_var (i := 1) rfl) fun r hr => ⟨rfl, r, rfl, .inl hr⟩, fun r hr => by cases hr⟩
end DL

/-! M18: first best, most for a group and payments, as laws count them. -/
namespace DL
open PySem PySem.Spec PyProof.Rows L2
theorem shr_iff {m n : Nat} (h1 : 1 ≤ m) (h3 : m ≤ 3) (h4 : n ≤ 4) (a : List Int) : a ∈ shr n m ↔ a ∈ allotK n (List.range n) m :=
  ⟨(shr_all m h1 h3 n h4).1 a, (shr_all m h1 h3 n h4).2.1 a⟩
theorem worth_of_fn {m : Nat} {R : List (List Int)} (h : ∀ b ∈ R, b.length = 2 ^ m) {n : Nat} {a : List Int} (ha : Row n m a) : Fn F_law_worth_of [rmD R, tupI a] (.int (tot R a)) := total_of_fn h ha
theorem shr_row {m n : Nat} (h1 : 1 ≤ m) (h3 : m ≤ 3) (h4 : n ≤ 4) {a : List Int} (ha : a ∈ shr n m) : Row n m a := allotK_Row range_lt m a ((shr_iff h1 h3 h4 a).1 ha)
def fstep (T : List Int → Int) (o : Option (List Int)) (a : List Int) : Option (List Int) := match o with
  | none => some a
  | some b => if T b < T a then some a else some b
def aD : Option (List Int) → PyData
  | none => .none
  | some b => tupI b
theorem ffold_eq (T : List Int → Int) (L : List (List Int)) (o : Option (List Int)) : L.foldl (bstep T) (o.map fun b => (T b, b)) = (L.foldl (fstep T) o).map fun b => (T b, b) := by
  induction L generalizing o with
  | nil => rfl
  | cons a L ih =>
    rw [List.foldl_cons, List.foldl_cons, ← ih]
    congr 1
    cases o with
    | none => rfl
    | some b =>
      simp only [Option.map_some, bstep, fstep]
      split <;> rfl
theorem shr_first {m : Nat} {R : List (List Int)} (h : Rm m R) : (shr R.length m).foldl (fstep (tot R)) none = some (opA R m) := by
  have hm : ∀ a, a ∈ shr R.length m ↔ a ∈ allotK R.length (List.range R.length) m := shr_iff h.m1 h.m3 h.n4
  have hs := (shr_all m h.m1 h.m3 R.length h.n4).2.2
  have e := ffold_eq (tot R) (shr R.length m) none
  simp only [Option.map_none] at e
  cases hf : (shr R.length m).foldl (fstep (tot R)) none with
  | none =>
    rw [hf] at e
    cases hL : shr R.length m with
    | nil =>
      have := (hm _).2 (opA_mem R m)
      rw [hL] at this
      simp at this
    | cons a L =>
      rw [hL] at e
      obtain ⟨v', b', h1, _⟩ := bfold_some (tot R) L (tot R a) a rfl
      have e2 : (a :: L).foldl (bstep (tot R)) none = some (v', b') := h1
      rw [e2] at e
      cases e
  | some b =>
    rw [hf] at e
    obtain ⟨pre, post, h1, h2, h3⟩ := bfold_split _ _ _ _ e
    rw [h1] at hs
    have hbm : b ∈ allotK R.length (List.range R.length) m := (hm b).1 (by rw [h1]; simp)
    have hmax : ∀ a ∈ shr R.length m, tot R a ≤ tot R b := by
      obtain ⟨v, hv⟩ : ∃ v, v = tot R b := ⟨_, rfl⟩
      intro a ha
      -- the best of the fold is the greatest
      cases hL : shr R.length m with
      | nil => rw [hL] at ha; simp at ha
      | cons c L =>
        rw [hL] at e ha
        obtain ⟨v', b', g1, g2, _, g4, g5⟩ := bfold_some (tot R) L (tot R c) c rfl
        have e2 : (c :: L).foldl (bstep (tot R)) none = some (v', b') := g1
        rw [e2] at e
        simp at e
        obtain ⟨e3, e4⟩ := e
        rcases List.mem_cons.1 ha with rfl | ha
        · omega
        · have := g5 a ha; omega
    have hVb : tot R b = Vb R m (List.range R.length) := Int.le_antisymm (Vb_ge hbm) (Vb_le fun a ha => hmax a ((hm a).2 ha))
    rw [Option.some.injEq]
    symm
    refine opt_eq hbm hVb fun a ha hv => ?_
    have ham := (hm a).2 ha
    rw [h1] at ham
    rcases List.mem_append.1 ham with q | q
    · have := h3 a q; omega
    · rcases List.mem_cons.1 q with rfl | q
      · exact List.le_refl _
      · exact (List.pairwise_cons.1 (List.pairwise_append.1 hs).2.1).1 a q
theorem first_best_fn {m : Nat} {R : List (List Int)} (h : Rm m R) : Fn F_law_first_best [rmD R] (tupI (opA R m)) := by
  have hb := shr_first h
  have hl : ∀ b ∈ R, b.length = 2 ^ m := fun b hb => (h.bid b hb).len
  refine w_fn ?_
  refine w_then (s_setF' (i := 1) a_c) ?_
  refine w_seq (w_for tupI (fun o e => (∀ b, o = some b → b ∈ shr R.length m) ∧ ∃ x2, e = [.fz (rmD R), .fz (aD o), x2]) (fstep (tot R)) (shr R.length m) none (i_seqL (a_call (.cons (a_var (i := 0) rfl) .nil) (shares_fn h))) ⟨(fun b hb => by cases hb), _, rfl⟩ ?_ ?_)
  · rintro o a _ ha ⟨ho, x2, rfl⟩
    have har := shr_row h.m1 h.m3 h.n4 ha
    refine ⟨_, rfl, ?_⟩
    show W (dIfS _ _ _ [.fz (rmD R), .fz (aD o), .fz (tupI a)]) _
    cases o with
    | none =>
      refine w_if (c := true) (t_orT (t_truth (a_B2 (a_var (i := 1) rfl).a a_c.a rfl).a)) (fun _ => w_ok (s_setF' (i := 1) (a_var (i := 2) rfl)) ⟨rfl, (fun b hb => by cases hb; exact ha), _, rfl⟩) fun h => by cases h
    | some b =>
      have hbr := shr_row h.m1 h.m3 h.n4 (ho b rfl)
      have T := t_or (b := false) (u := dTruth (dB gGt [(dCall F_law_worth_of [(dVar 0), (dVar 2)]), (dCall F_law_worth_of [(dVar 0), (dVar 1)])])) (t_truth (a_B2 (g := gIs) (e := [.fz (rmD R), .fz (aD (some b)), .fz (tupI a)]) (a_var (i := 1) rfl).a (a_c (x := .none)).a rfl).a) fun _ => t_truth (a_B2 (a_call (.cons (a_var (i := 0) rfl) (.cons (a_var (i := 2) rfl) .nil)) (worth_of_fn hl har)).a (a_call (.cons (a_var (i := 0) rfl) (.cons (a_var (i := 1) rfl) .nil)) (worth_of_fn hl hbr)).a gGtI).a
      rw [Bool.false_or] at T
      refine w_if T (fun c => w_ok (s_setF' (i := 1) (a_var (i := 2) rfl)) ⟨rfl, ?_, .fz (tupI a), ?_⟩) fun c => w_next ⟨rfl, ?_, .fz (tupI a), ?_⟩
      · have e : fstep (tot R) (some b) a = some a := if_pos (of_decide_eq_true c)
        rw [e]; intro x hx; cases hx; exact ha
      · have e : fstep (tot R) (some b) a = some a := if_pos (of_decide_eq_true c)
        rw [e]; rfl
      · have e : fstep (tot R) (some b) a = some b := if_neg (of_decide_eq_false c)
        rw [e]; exact ho
      · have e : fstep (tot R) (some b) a = some b := if_neg (of_decide_eq_false c)
        rw [e]
  · rintro _ ⟨_, x2, rfl⟩
    refine ⟨fun _ => w_ret (a_var (i := 1) rfl) fun r hr => ⟨rfl, r, rfl, .inl ?_⟩, fun r hr => by cases hr⟩
    rw [hb] at hr
    exact hr
/-- who stands outside gets nothing -/
def outB (g : List Nat) (a : List Int) : Bool := decide (((List.range a.length).filter fun i => decide (0 < a.getD i 0) && decide (i ∉ g)) = [])
theorem out_mem {n m : Nat} {g : List Nat} (hg : ∀ i ∈ g, i < n) {a : List Int} (ha : a ∈ allotK n (List.range n) m) (h : outB g a = true) : a ∈ allotK n g m := by
  obtain ⟨f, hf, rfl⟩ := mem_alo range_lt m a ha
  refine alo_mem hg f m fun t k ht e => ?_
  have hk := List.mem_range.1 (hf t k ht e)
  by_cases c : k ∈ g
  · exact c
  · exfalso
    have h := of_decide_eq_true h
    rw [List.filter_eq_nil_iff] at h
    have := h k (by simp [alo, hk])
    have hp : ∀ (T : Nat → Bool) (m : Nat), t < m → T t = true → 0 < sT T m := by
      intro T m
      induction m with
      | zero => intro h; omega
      | succ m ih =>
        intro h1 h2
        rw [sT]
        by_cases q : t = m
        · subst q; rw [if_pos h2]; have := Nat.two_pow_pos t; omega
        · have := ih (by omega) h2; omega
    have h0 := hp (has f k) m ht (by simp [has, e])
    simp [alo, hk, c] at this
    omega
theorem mem_out {n m : Nat} {g : List Nat} (hg : ∀ i ∈ g, i < n) {a : List Int} (ha : a ∈ allotK n g m) : a ∈ allotK n (List.range n) m ∧ outB g a = true := by
  refine ⟨allotK_mono (fun i hi => List.mem_range.2 (hg i hi)) m a ha, ?_⟩
  refine decide_eq_true ?_
  rw [List.filter_eq_nil_iff]
  intro i hi hc
  simp only [Bool.and_eq_true, decide_eq_true_eq] at hc
  have := allotK_off hg i m hc.2 a ha
  omega
theorem gMaxI2 (a b : Int) : gMax [.int a, .int b] = some (.fz (.int (max a b))) := by
  simp only [gMax]
  congr 3
  split <;> omega
theorem most_for_fn {m : Nat} {R : List (List Int)} (h : Rm m R) {g : List Nat} (hg : ∀ i ∈ g, i < R.length) : Fn F_law_most_for [rmD R, .list (g.map nI)] (.int (Vb R m g)) := by
  have hl : ∀ b ∈ R, b.length = 2 ^ m := fun b hb => (h.bid b hb).len
  have hm : ∀ a, a ∈ shr R.length m ↔ a ∈ allotK R.length (List.range R.length) m := shr_iff h.m1 h.m3 h.n4
  refine w_fn ?_
  refine w_then (s_setF' (i := 2) a_c) ?_
  refine w_seq (w_forI tupI (fun done e => ∃ v x3, (0 ≤ v ∧ (∀ a ∈ done, outB g a = true → tot R a ≤ v) ∧ v ≤ Vb R m g) ∧ e = [.fz (rmD R), .fz (.list (g.map nI)), .fz (.int v), x3, .un, .un]) (shr R.length m) (i_seqL (a_call (.cons (a_var (i := 0) rfl) .nil) (shares_fn h))) ⟨0, _, ⟨Int.le_refl _, by simp, Vb_nonneg h g⟩, rfl⟩ ?_ ?_)
  · rintro done a rest _ hd ⟨v, x3, ⟨v0, v1, v2⟩, rfl⟩
    have ha : a ∈ shr R.length m := by rw [hd]; simp
    have har := shr_row h.m1 h.m3 h.n4 ha
    refine ⟨_, rfl, ?_⟩
    have a1 := a_comp (t := .tp [4, 5]) (vs := [4, 5]) (di := dIt gEnum [(dVar 3)]) (tt := dAndT (dTruth (dB gGt [(dVar 5), (dC (.int 0))])) (dTruth (dB gNotIn [(dVar 4), (dVar 1)]))) (te := dC (.int 1)) (e := [.fz (rmD R), .fz (.list (g.map nI)), .fz (.int v), .fz (tupI a), .un, .un]) (fun i : Nat => .tuple [nI i, .int (a.getD i 0)]) (fun i => decide (0 < a.getD i 0) && decide (i ∉ g)) (fun _ => .int 1) (List.range a.length) (it_eq (.cons (a_var (i := 3) rfl) .nil) (by show some (enumL 0 _) = _; rw [enumL_eq]; simp)) (fun i => [.fz (rmD R), .fz (.list (g.map nI)), .fz (.int v), .fz (tupI a), .fz (nI i), .fz (.int (a.getD i 0))]) rfl fun i _ => ⟨rfl, rfl, t_and (t_truth (a_B2 (a_var (i := 5) rfl).a (a_c (x := .int 0)).a gGtI).a) (fun _ => t_truth (a_B2 (a_var (i := 4) rfl).a (a_var (i := 1) rfl).a gNotInI).a), fun _ => a_c⟩
    have T := t_truth (a_B2 (g := gEq) a1.a (a_lst .nil).a (by have := gEqIs (((List.range a.length).filter fun i => decide (0 < a.getD i 0) && decide (i ∉ g)).map fun _ => 1) []; rwa [List.map_map] at this)).a
    have e : decide ((((List.range a.length).filter fun i => decide (0 < a.getD i 0) && decide (i ∉ g)).map fun _ => (1 : Int)) = []) = outB g a := by
      rw [Bool.eq_iff_iff]
      simp [outB]
    rw [e] at T
    refine w_if T (fun c => ?_) (fun c => w_next ⟨rfl, v, .fz (tupI a), ⟨v0, ?_, v2⟩, rfl⟩)
    · refine w_ok (s_setF' (i := 2) (a_B2 (a_var (i := 2) rfl).a (a_call (.cons (a_var (i := 0) rfl) (.cons (a_var (i := 3) rfl) .nil)) (worth_of_fn hl har)).a (gMaxI2 _ _))) ⟨rfl, max v (tot R a), .fz (tupI a), ⟨by omega, ?_, ?_⟩, rfl⟩
      · intro x hx ox
        rcases List.mem_append.1 hx with hx | hx
        · have := v1 x hx ox; omega
        · simp at hx; subst hx; omega
      · have := Vb_ge (out_mem hg ((hm a).1 ha) c); omega
    · intro x hx ox
      rcases List.mem_append.1 hx with hx | hx
      · exact v1 x hx ox
      · simp at hx; subst hx; rw [c] at ox; cases ox
  · rintro _ ⟨v, x3, ⟨v0, v1, v2⟩, rfl⟩
    refine ⟨fun _ => w_ret (a_var (i := 2) rfl) fun r hr => ⟨rfl, r, rfl, .inl ?_⟩, fun r hr => by cases hr⟩
    have : v = Vb R m g := by
      refine Int.le_antisymm v2 (Vb_le fun a ha => ?_)
      have := mem_out hg ha
      exact v1 a ((hm a).2 this.1) this.2
    rw [← this]; exact hr
end DL

namespace DL
open PySem PySem.Spec PyProof.Rows L2
open Classical in
/-- from a thing of the last one, along the single ones -/
inductive Rc (m : Nat) (f h : Ow) (un : Nat → Prop) (j : Nat) : Nat → Prop
  | base {a : Nat} : a < m → f a = some j → Rc m f h un j a
  | step {a b k : Nat} : a < m → b < m → f a = some k → un k → h b = some k → Rc m f h un j b → Rc m f h un j a
def Red (m : Nat) (un : Nat → Prop) (f : Ow) : Prop := ∀ t u k, t < m → u < m → t ≠ u → f t = some k → f u = some k → ¬un k
def oms (w : Nat → Nat → Int) (f : Ow) (t : Nat) : Int := match f t with
  | some k => w k t
  | none => 0
def om (w : Nat → Nat → Int) (m : Nat) (f : Ow) : Int := sg (oms w f) m
theorem om_k {w : Nat → Nat → Int} {n m : Nat} {f : Ow} (hf : ∀ t k, t < m → f t = some k → k < n) : sg (fun k => sg (fun t => if has f k t = true then w k t else 0) m) n = om w m f := by
  rw [sg_swap]
  apply sg_congr
  intro t ht
  unfold oms
  cases h : f t with
  | none => simp only [has, h]; simp; exact sg_zero n
  | some k0 =>
    simp only
    rw [← sg_one (hf t k0 ht h) (w k0 t)]
    apply sg_congr
    intro k _
    simp only [has, h]
    by_cases c : k0 = k
    · simp [c]
    · simp [c]
theorem sg_nonneg {f : Nat → Int} {n : Nat} (h : ∀ i, i < n → 0 ≤ f i) : 0 ≤ sg f n := by
  have := sg_le (f := fun _ => 0) (g := f) (n := n) h
  rwa [sg_zero] at this
theorem sg_term {f : Nat → Int} {n i : Nat} (h : ∀ i, 0 ≤ f i) (hi : i < n) : f i ≤ sg f n := by
  induction n with
  | zero => omega
  | succ n ih =>
    rw [sg]
    by_cases c : i = n
    · subst c; have := sg_nonneg (f := f) (n := i) fun i _ => h i; omega
    · have := ih (by omega); have := h n; omega
section
variable {R : List (List Int)} {m : Nat} {w : Nat → Nat → Int} {un : Nat → Prop} (hW : ∀ k, k < R.length → Ws m (R.getD k []) (w k) (un k))
include hW
theorem alo_tot (f : Ow) : tot R (alo f R.length m) = sg (fun k => val (R.getD k []) (sT (has f k) m : Nat)) R.length := by
  rw [tot_sg R _ (by simp [alo])]
  apply sg_congr
  intro k hk
  simp [alo, hk]
theorem red_le {g : List Nat} (hg : ∀ i ∈ g, i < R.length) {f : Ow} (hf : By g m f) (hr : Red m un f) : om w m f ≤ tot R (alo f R.length m) := by
  rw [alo_tot hW, ← om_k (n := R.length) fun t k ht h => hg k (hf t k ht h)]
  apply sg_le
  intro k hk
  have W := hW k hk
  by_cases u : un k
  · by_cases c : ∃ t, t < m ∧ has f k t = true
    · obtain ⟨t, ht, h⟩ := c
      rw [sg_congr (g := fun i => if t = i then w k t else 0), sg_one ht]
      · exact W.ge u _ t ht h
      · intro i hi
        by_cases e : t = i
        · subst e; rw [if_pos h, if_pos rfl]
        · rw [if_neg e, if_neg]
          intro h2
          exact hr t i k ht hi e (by simpa [has] using h) (by simpa [has] using h2) u
    · rw [sg_congr (g := fun _ => 0), sg_zero]
      · exact W.zr u _
      · intro i hi
        exact if_neg fun h => c ⟨i, hi, h⟩
  · rw [W.sum u]; exact Int.le_refl _
open Classical in
theorem ex_red {g : List Nat} (hg : ∀ i ∈ g, i < R.length) {f : Ow} (hf : By g m f) : ∃ f' : Ow, By g m f' ∧ Red m un f' ∧ tot R (alo f R.length m) ≤ om w m f' := by
  let c : Nat → Option Nat := fun k => if h : un k ∧ ∃ t, t < m ∧ has f k t = true ∧ val (R.getD k []) (sT (has f k) m : Nat) = w k t then some (Classical.choose h.2) else none
  let f' : Ow := fun t => match f t with
    | some k => if ¬un k ∨ c k = some t then some k else none
    | none => none
  have hsub : ∀ t k, f' t = some k → f t = some k ∧ (¬un k ∨ c k = some t) := by
    intro t k h
    show f t = some k ∧ _
    have h : (match f t with | some k => if ¬un k ∨ c k = some t then some k else none | none => none) = some k := h
    cases e : f t with
    | none => rw [e] at h; cases h
    | some k' =>
      rw [e] at h
      simp only at h
      by_cases q : ¬un k' ∨ c k' = some t
      · rw [if_pos q] at h; cases h; exact ⟨rfl, q⟩
      · rw [if_neg q] at h; cases h
  have hsup : ∀ t k, f t = some k → (¬un k ∨ c k = some t) → f' t = some k := by
    intro t k h q
    show (match f t with | some k => if ¬un k ∨ c k = some t then some k else none | none => none) = some k
    rw [h]
    simp only
    rw [if_pos q]
  have hby : By g m f' := fun t k ht h => hf t k ht (hsub t k h).1
  refine ⟨f', hby, ?_, ?_⟩
  · intro t u k ht hu htu h1 h2 hun
    rcases (hsub t k h1).2 with q | q
    · exact q hun
    · rcases (hsub u k h2).2 with q2 | q2
      · exact q2 hun
      · rw [q] at q2; exact htu (Option.some.inj q2)
  · rw [alo_tot hW, ← om_k (n := R.length) fun t k ht h => hg k (hby t k ht h)]
    apply sg_le
    intro k hk
    have W := hW k hk
    have tn : ∀ t, 0 ≤ (if has f' k t = true then w k t else 0) := fun t => by split; exact W.nn t; exact Int.le_refl _
    by_cases u : un k
    · rcases W.pick u (has f k) with h | ⟨t, ht, h1, h2⟩
      · rw [h]; exact sg_nonneg fun i _ => tn i
      · have hex : un k ∧ ∃ t, t < m ∧ has f k t = true ∧ val (R.getD k []) (sT (has f k) m : Nat) = w k t := ⟨u, t, ht, h1, h2⟩
        have hc : c k = some (Classical.choose hex.2) := dif_pos hex
        have sp := Classical.choose_spec hex.2
        have := sg_term (f := fun t => if has f' k t = true then w k t else 0) (n := m) tn sp.1
        rw [if_pos (by have q := hsup _ k (by simpa [has] using sp.2.1) (.inr hc); show (f' _ == some k) = true; rw [q]; simp)] at this
        rw [sp.2.2]
        exact this
    · rw [W.sum u]
      apply Int.le_of_eq
      apply sg_congr
      intro t ht
      have : has f' k t = has f k t := by
        unfold has
        by_cases e : f t = some k
        · rw [hsup t k e (.inl u), e]
        · have : f' t ≠ some k := fun h => e (hsub t k h).1
          rw [beq_eq_false_iff_ne.2 this, beq_eq_false_iff_ne.2 e]
      rw [this]
open Classical in
theorem exch {g : List Nat} {i j : Nat} (hg : ∀ x ∈ g, x < R.length) (hi : i < R.length) (hj : j < R.length) (hij : i ≠ j) (hig : i ∉ g) (hjg : j ∉ g) : Vb R m (i :: j :: g) + Vb R m g ≤ Vb R m (i :: g) + Vb R m (j :: g) := by
  have hgij : ∀ x ∈ i :: j :: g, x < R.length := by intro x hx; simp at hx; rcases hx with rfl | rfl | hx; exact hi; exact hj; exact hg x hx
  have hgi : ∀ x ∈ i :: g, x < R.length := by intro x hx; simp at hx; rcases hx with rfl | hx; exact hi; exact hg x hx
  have hgj : ∀ x ∈ j :: g, x < R.length := by intro x hx; simp at hx; rcases hx with rfl | hx; exact hj; exact hg x hx
  obtain ⟨f0, hf0, e0⟩ := mem_alo hgij m _ (best_spec R m (i :: j :: g)).2.2.1
  obtain ⟨h0, hh0, e1⟩ := mem_alo hg m _ (best_spec R m g).2.2.1
  obtain ⟨f, hf, rf, lf⟩ := ex_red hW hgij hf0
  obtain ⟨h, hh, rh, lh⟩ := ex_red hW hg hh0
  rw [← e0, ← (best_spec R m _).2.1] at lf
  rw [← e1, ← (best_spec R m _).2.1] at lh
  let S : Nat → Prop := Rc m f h un j
  have Si : ∀ t, t < m → f t = some i → ¬S t := by
    intro t ht e s
    cases s with
    | base _ e2 => rw [e] at e2; exact hij (Option.some.inj e2)
    | step _ hb e2 _ e3 _ =>
      rw [e] at e2
      cases e2
      exact hig (hh _ _ hb e3)
  have link : ∀ a b k, a < m → b < m → un k → f a = some k → h b = some k → (S a ↔ S b) := by
    intro a b k ha hb u ea eb
    refine ⟨fun s => ?_, fun s => .step ha hb ea u eb s⟩
    cases s with
    | base _ e2 =>
      rw [ea] at e2
      cases e2
      exact absurd (hh _ _ hb eb) hjg
    | @step _ b' _ _ hb' e2 _ e3 s =>
      rw [ea] at e2
      cases e2
      by_cases q : b = b'
      · rw [q]; exact s
      · exact absurd u (rh b b' _ hb hb' q eb e3)
  let f' : Ow := fun t => if S t then h t else f t
  let h' : Ow := fun t => if S t then f t else h t
  have bf : By (i :: g) m f' := by
    intro t k ht e
    by_cases s : S t
    · have e : h t = some k := by simpa [f', s] using e
      exact List.mem_cons_of_mem _ (hh t k ht e)
    · have e2 : f t = some k := by simpa [f', s] using e
      have q := hf t k ht e2
      rcases List.mem_cons.1 q with q | q
      · exact List.mem_cons.2 (.inl q)
      · rcases List.mem_cons.1 q with q | q
        · exact absurd (Rc.base ht (q ▸ e2)) s
        · exact List.mem_cons_of_mem _ q
  have bh : By (j :: g) m h' := by
    intro t k ht e
    by_cases s : S t
    · have e2 : f t = some k := by simpa [h', s] using e
      have q := hf t k ht e2
      rcases List.mem_cons.1 q with q | q
      · exact absurd s (Si t ht (q ▸ e2))
      · exact q
    · have e : h t = some k := by simpa [h', s] using e
      exact List.mem_cons_of_mem _ (hh t k ht e)
  have rf' : Red m un f' := by
    intro t u k ht hu htu e1 e2 un
    by_cases s1 : S t <;> by_cases s2 : S u
    · exact rh t u k ht hu htu (by simpa [f', s1] using e1) (by simpa [f', s2] using e2) un
    · exact s2 ((link u t k hu ht un (by simpa [f', s2] using e2) (by simpa [f', s1] using e1)).2 s1)
    · exact s1 ((link t u k ht hu un (by simpa [f', s1] using e1) (by simpa [f', s2] using e2)).2 s2)
    · exact rf t u k ht hu htu (by simpa [f', s1] using e1) (by simpa [f', s2] using e2) un
  have rh' : Red m un h' := by
    intro t u k ht hu htu e1 e2 un
    by_cases s1 : S t <;> by_cases s2 : S u
    · exact rf t u k ht hu htu (by simpa [h', s1] using e1) (by simpa [h', s2] using e2) un
    · exact s2 ((link t u k ht hu un (by simpa [h', s1] using e1) (by simpa [h', s2] using e2)).1 s1)
    · exact s1 ((link u t k hu ht un (by simpa [h', s2] using e2) (by simpa [h', s1] using e1)).1 s2)
    · exact rh t u k ht hu htu (by simpa [h', s1] using e1) (by simpa [h', s2] using e2) un
  have l1 := Int.le_trans (red_le hW hgi bf rf') (Vb_ge (alo_mem hgi f' m bf))
  have l2 := Int.le_trans (red_le hW hgj bh rh') (Vb_ge (alo_mem hgj h' m bh))
  have e : om w m f' + om w m h' = om w m f + om w m h := by
    unfold om
    rw [← sg_add, ← sg_add]
    apply sg_congr
    intro t _
    by_cases s : S t
    · have a1 : f' t = h t := by simp [f', s]
      have a2 : h' t = f t := by simp [h', s]
      simp only [oms, a1, a2]; omega
    · have a1 : f' t = f t := by simp [f', s]
      have a2 : h' t = h t := by simp [h', s]
      simp only [oms, a1, a2]
  omega
end
end DL

namespace DL
open PySem PySem.Spec PyProof.Rows L2
theorem Vb_congr {R : List (List Int)} {m : Nat} {g g' : List Nat} (h : ∀ i, i ∈ g ↔ i ∈ g') : Vb R m g = Vb R m g' :=
  Int.le_antisymm (Vb_mono fun i hi => (h i).1 hi) (Vb_mono fun i hi => (h i).2 hi)
theorem Pl.all {R : List (List Int)} {m : Nat} (hm : m ≤ 3) (h : ∀ b ∈ R, Pl m b) : ∃ (w : Nat → Nat → Int) (un : Nat → Prop), ∀ k, k < R.length → Ws m (R.getD k []) (w k) (un k) := by
  have : ∀ k, ∃ p : (Nat → Int) × Prop, k < R.length → Ws m (R.getD k []) p.1 p.2 := by
    intro k
    by_cases c : k < R.length
    · obtain ⟨w, un, hw⟩ := (h _ (getD_memR c)).ws hm
      exact ⟨(w, un), fun _ => hw⟩
    · exact ⟨(fun _ => 0, False), fun h => absurd h c⟩
  refine ⟨fun k => (Classical.choose (this k)).1, fun k => (Classical.choose (this k)).2, fun k hk => Classical.choose_spec (this k) hk⟩
section
variable {R : List (List Int)} {m : Nat} (hm : m ≤ 3) (hP : ∀ b ∈ R, Pl m b)
include hm hP
/-- what one more brings falls as the group grows -/
theorem marg {x : Nat} (hx : x < R.length) {A : List Nat} (hA : ∀ i ∈ A, i < R.length) (l : List Nat) (hl : ∀ i ∈ l, i < R.length) : Vb R m (x :: (l ++ A)) + Vb R m A ≤ Vb R m (x :: A) + Vb R m (l ++ A) := by
  obtain ⟨w, un, hW⟩ := Pl.all hm hP
  induction l with
  | nil => exact Int.le_refl _
  | cons y l ih =>
    have ih := ih fun i hi => hl i (by simp [hi])
    have hy := hl y (by simp)
    have mA : Vb R m A ≤ Vb R m (x :: A) := Vb_mono fun i hi => by simp [hi]
    by_cases c1 : x ∈ y :: (l ++ A)
    · have : Vb R m (x :: (y :: l ++ A)) = Vb R m (y :: l ++ A) := Vb_congr fun i => by simp at c1 ⊢; grind
      omega
    · by_cases c2 : y ∈ l ++ A
      · have e1 : Vb R m (x :: (y :: l ++ A)) = Vb R m (x :: (l ++ A)) := Vb_congr fun i => by simp at c2 ⊢; grind
        have e2 : Vb R m (y :: l ++ A) = Vb R m (l ++ A) := Vb_congr fun i => by simp at c2 ⊢; grind
        omega
      · have hB : ∀ i ∈ l ++ A, i < R.length := by
          intro i hi
          rcases List.mem_append.1 hi with hi | hi
          · exact hl i (by simp [hi])
          · exact hA i hi
        have := exch hW hB hx hy (fun e => c1 (by simp [e])) (fun h => c1 (List.mem_cons_of_mem _ h)) c2
        show Vb R m (x :: y :: (l ++ A)) + _ ≤ _ + Vb R m (y :: (l ++ A))
        omega
theorem marg' {x : Nat} (hx : x < R.length) {A B : List Nat} (hB : ∀ i ∈ B, i < R.length) (hAB : ∀ i ∈ A, i ∈ B) : Vb R m (x :: B) + Vb R m A ≤ Vb R m (x :: A) + Vb R m B := by
  have := marg hm hP hx (A := A) (fun i hi => hB i (hAB i hi)) B hB
  have e1 : Vb R m (x :: (B ++ A)) = Vb R m (x :: B) := Vb_congr fun i => by simp; grind
  have e2 : Vb R m (B ++ A) = Vb R m B := Vb_congr fun i => by simp; grind
  omega
theorem mem_oth {n i j : Nat} : j ∈ oth n i ↔ j < n ∧ j ≠ i := by simp [oth]
theorem calm_up {g : List Nat} (hg : ∀ i ∈ g, i < R.length) (l : List Nat) (hl : ∀ i ∈ l, i < R.length) (hn : (l ++ g).Nodup) : Vb R m g + (l.map (kep R m)).sum ≤ Vb R m (l ++ g) := by
  induction l with
  | nil => simp
  | cons x l ih =>
    have hx := hl x (by simp)
    have hn' : x ∉ l ++ g ∧ (l ++ g).Nodup := by simpa using hn
    have ih := ih (fun i hi => hl i (by simp [hi])) hn'.2
    have hsub : ∀ i ∈ l ++ g, i ∈ oth R.length x := by
      intro i hi
      refine (mem_oth hm hP).2 ⟨?_, fun e => hn'.1 (e ▸ hi)⟩
      rcases List.mem_append.1 hi with hi | hi
      · exact hl i (by simp [hi])
      · exact hg i hi
    have := marg' hm hP hx (A := l ++ g) (B := oth R.length x) oth_lt hsub
    have e : Vb R m (x :: oth R.length x) = Va R m := Vb_congr fun i => by
      simp only [List.mem_cons, mem_oth hm hP, List.mem_range]
      by_cases c : i = x
      · subst c; simp [hx]
      · simp [c]
    have hk : kep R m x = Va R m - Vb R m (oth R.length x) := rfl
    rw [List.map_cons, List.sum_cons]
    show _ ≤ Vb R m (x :: (l ++ g))
    omega
end
/-- the payments together -/
theorem sum_sub (l : List Nat) (f g h : Nat → Int) (c : ∀ i, f i = g i - h i) : (l.map f).sum = (l.map g).sum - (l.map h).sum := by
  induction l with
  | nil => rfl
  | cons a l ih => simp only [List.map_cons, List.sum_cons, ih, c]; omega
theorem sg_range (f : Nat → Int) (n : Nat) : ((List.range n).map f).sum = sg f n := by
  induction n with
  | zero => rfl
  | succ n ih => rw [List.range_succ, List.map_append, List.sum_append, ih]; simp [sg]
theorem pays_sum {m : Nat} {R : List (List Int)} : (pays R m).sum = Va R m - (keps R m).sum := by
  have e : Va R m = ((List.range R.length).map fun i => val (R.getD i []) ((opA R m).getD i 0)).sum := by
    rw [sg_range, ← tot_sg R _ (opA_row (m := m)).1, Va_tot]
  unfold pays keps
  have := sum_sub (List.range R.length) (pay R m) (fun i => val (R.getD i []) ((opA R m).getD i 0)) (kep R m) (fun i => by unfold pay kep; omega)
  rw [this, ← e]
theorem subs_filter : ∀ n, n ≤ 4 → ∀ g ∈ subs n, (List.range n).filter (fun i => decide (i ∈ g)) = g := by
  intro n hn
  have : n = 0 ∨ n = 1 ∨ n = 2 ∨ n = 3 ∨ n = 4 := by omega
  rcases this with rfl | rfl | rfl | rfl | rfl <;> decide +kernel
theorem sum_filter2 (l : List Nat) (p : Nat → Bool) (f : Nat → Int) : (l.map f).sum = ((l.filter p).map f).sum + ((l.filter fun i => !p i).map f).sum := by
  induction l with
  | nil => rfl
  | cons a l ih => cases h : p a <;> simp [List.filter_cons, h, ih] <;> omega
theorem calm {m : Nat} {R : List (List Int)} (hR : Rm m R) (hP : ∀ b ∈ R, Pl m b) : objs R m = [] := by
  have hn : ∀ g ∈ subs R.length, gn R m g = false := by
    intro g hg
    have hf := subs_filter R.length hR.n4 g hg
    have hgl : ∀ i ∈ g, i < R.length := fun i hi => by rw [← hf] at hi; exact List.mem_range.1 (List.mem_filter.1 hi).1
    let l := (List.range R.length).filter fun i => !decide (i ∈ g)
    have hll : ∀ i ∈ l, i < R.length := fun i hi => List.mem_range.1 (List.mem_filter.1 hi).1
    have nd : (l ++ g).Nodup := by
      rw [List.nodup_append]
      refine ⟨List.nodup_range.filter _, hf ▸ List.nodup_range.filter _, fun a ha b hb e => ?_⟩
      subst e
      have := (List.mem_filter.1 ha).2
      simp [hb] at this
    have h1 := calm_up hR.m3 hP hgl l hll nd
    have h2 : Vb R m (l ++ g) = Va R m := Vb_congr fun i => by
      simp only [List.mem_append, List.mem_range, l, List.mem_filter]
      refine ⟨fun h => ?_, fun h => ?_⟩
      · rcases h with h | h
        · exact h.1
        · exact hgl i h
      · by_cases c : i ∈ g
        · exact .inr c
        · exact .inl ⟨h, by simp [c]⟩
    have h3 := sum_filter2 (List.range R.length) (fun i => decide (i ∈ g)) (kep R m)
    rw [hf] at h3
    have h4 := @pays_sum m R
    unfold keps at h4
    simp only [gn]
    rw [decide_eq_false]
    show ¬(_ < _)
    simp only [l] at h1 h2
    omega
  have : (subs R.length).filter (gn R m) = [] := by
    rw [List.filter_eq_nil_iff]
    intro g hg
    simp [hn g hg]
  simp [objs, this, sortR]
/-! one more bidder -/
theorem allotK_ext {n : Nat} {g : List Nat} (hg : ∀ i ∈ g, i < n) (m : Nat) : allotK (n + 1) g m = (allotK n g m).map (· ++ [0]) := by
  induction m with
  | zero => simp [allotK, List.replicate_succ']
  | succ m ih =>
    rw [allotK_succ, allotK_succ, ih]
    simp only [grow, List.map_append, List.flatMap_map, List.map_flatMap]
    congr 1
    have hr := allotK_row hg m
    generalize allotK n g m = S at hr
    induction S with
    | nil => rfl
    | cons a S ih2 =>
      simp only [List.flatMap_cons]
      rw [ih2 fun b hb => hr b (by simp [hb])]
      congr 1
      rw [List.map_map]
      apply List.map_congr_left
      intro i hi
      have hal : i < a.length := by rw [hr a (by simp)]; exact hg i hi
      simp only [Function.comp]
      rw [bump_eq (by simp; omega), bump_eq hal, List.set_append_left _ _ hal]
      congr 2
      simp only [List.getD_eq_getElem?_getD]
      rw [List.getElem?_append_left hal]
theorem tot_ext (R : List (List Int)) (a : List Int) (h : a.length = R.length) (b : List Int) (s : Int) : tot (R ++ [b]) (a ++ [s]) = tot R a + val b s := by
  induction R generalizing a with
  | nil => cases a with
    | nil => simp [tot]
    | cons x a => simp at h
  | cons c R ih => cases a with
    | nil => simp at h
    | cons x a => simp only [List.cons_append, tot]; rw [ih a (by simpa using h)]; omega
theorem Vb_ext {m : Nat} {R : List (List Int)} {b : List Int} (hb : Bid m b) {g : List Nat} (hg : ∀ i ∈ g, i < R.length) : Vb (R ++ [b]) m g = Vb R m g := by
  have e : allotK (R ++ [b]).length g m = (allotK R.length g m).map (· ++ [0]) := by rw [List.length_append]; exact allotK_ext hg m
  have ht : ∀ a ∈ allotK R.length g m, tot (R ++ [b]) (a ++ [0]) = tot R a := fun a ha => by rw [tot_ext R a (allotK_row hg m a ha), val_zero hb]; omega
  refine Vb_eq (opt R m g ++ [0]) ?_ ?_ ?_
  · rw [e]; exact List.mem_map.2 ⟨_, (best_spec R m g).2.2.1, rfl⟩
  · rw [ht _ (best_spec R m g).2.2.1, ← (best_spec R m g).2.1]
  · rw [e]
    intro a ha
    obtain ⟨a', h1, rfl⟩ := List.mem_map.1 ha
    rw [ht a' h1]; exact Vb_ge h1
theorem more_kep {m : Nat} {R : List (List Int)} {b : List Int} (hm : m ≤ 3) (hb : Bid m b) (hP : ∀ x ∈ R ++ [b], Pl m x) {i : Nat} (hi : i < R.length) : kep (R ++ [b]) m i ≤ kep R m i := by
  have e1 : Va R m = Vb (R ++ [b]) m (List.range R.length) := (Vb_ext hb range_lt).symm
  have e2 : Vo R m i = Vb (R ++ [b]) m (oth R.length i) := (Vb_ext hb oth_lt).symm
  have hl : (R ++ [b]).length = R.length + 1 := by simp
  have := marg' hm hP (x := i) (by rw [hl]; omega) (A := oth R.length i) (B := oth (R ++ [b]).length i) oth_lt (fun j hj => by
    have := (mem_oth hm hP).1 hj
    exact (mem_oth hm hP).2 ⟨by rw [hl]; omega, this.2⟩)
  have f1 : Vb (R ++ [b]) m (i :: oth (R ++ [b]).length i) = Va (R ++ [b]) m := Vb_congr fun j => by
    simp only [List.mem_cons, mem_oth hm hP, List.mem_range, hl]
    by_cases c : j = i
    · subst c; simp; omega
    · simp [c]
  have f2 : Vb (R ++ [b]) m (i :: oth R.length i) = Vb (R ++ [b]) m (List.range R.length) := Vb_congr fun j => by
    simp only [List.mem_cons, mem_oth hm hP, List.mem_range]
    by_cases c : j = i
    · subst c; simp [hi]
    · simp [c]
  unfold kep
  rw [e1, e2, ← f1, ← f2]
  unfold Vo
  omega
theorem more_pays {m : Nat} {R : List (List Int)} {b : List Int} (hm : m ≤ 3) (hb : Bid m b) (hP : ∀ x ∈ R ++ [b], Pl m x) : (pays R m).sum ≤ (pays (R ++ [b]) m).sum := by
  rw [pays_sum, pays_sum]
  have hl : (R ++ [b]).length = R.length + 1 := by simp
  have e : (keps (R ++ [b]) m).sum = sg (kep (R ++ [b]) m) R.length + kep (R ++ [b]) m R.length := by
    unfold keps; rw [hl, sg_range]; rfl
  have e2 : (keps R m).sum = sg (kep R m) R.length := by unfold keps; rw [sg_range]
  have le : sg (kep (R ++ [b]) m) R.length ≤ sg (kep R m) R.length := sg_le fun i hi => more_kep hm hb hP hi
  have hk : kep (R ++ [b]) m R.length = Va (R ++ [b]) m - Va R m := by
    unfold kep
    congr 1
    have : Va R m = Vb (R ++ [b]) m (List.range R.length) := (Vb_ext hb range_lt).symm
    rw [this]
    exact Vb_congr fun j => by simp only [mem_oth hm hP, List.mem_range, hl]; omega
  omega
end DL

/-! M19: payments as laws count them. -/
namespace DL
open PySem PySem.Spec PyProof.Rows L2
theorem filter_one (n i : Nat) (h : i < n) : (List.range n).filter (fun j => decide (j = i)) = [i] := by
  induction n with
  | zero => omega
  | succ n ih =>
    rw [List.range_succ, List.filter_append]
    by_cases c : i = n
    · subst c
      rw [List.filter_eq_nil_iff.2 (by intro a ha; have := List.mem_range.1 ha; simp; omega)]
      simp
    · rw [ih (by omega)]
      have : ¬(n = i) := fun e => c e.symm
      simp [this]
theorem oth_sum {n i : Nat} (h : i < n) (f : Nat → Int) : ((oth n i).map f).sum = ((List.range n).map f).sum - f i := by
  have := sum_filter2 (List.range n) (fun j => decide (j = i)) f
  rw [filter_one n i h] at this
  simp only [List.map_cons, List.map_nil, List.sum_cons, List.sum_nil] at this
  unfold oth
  omega
theorem Va_sum {m : Nat} {R : List (List Int)} : ((List.range R.length).map fun i => val (R.getD i []) ((opA R m).getD i 0)).sum = Va R m := by
  rw [sg_range, ← tot_sg R _ (opA_row (m := m)).1, Va_tot]
theorem row_ix {n m : Nat} {a : List Int} (ha : Row n m a) {i : Nat} (hi : i < n) : gIx [tupI a, nI i] = some (.fz (.int (a.getD i 0))) := ws_ix (by rw [ha.1]; exact hi)
theorem room_val {m : Nat} {R : List (List Int)} (h : Rm m R) {a : List Int} (ha : Row R.length m a) {i : Nat} (hi : i < R.length) : gIx [tupI (R.getD i []), .int (a.getD i 0)] = some (.fz (.int (val (R.getD i []) (a.getD i 0)))) := by
  have := ha.2 _ (getD_mem (i := i) (by rw [ha.1]; exact hi))
  refine val_ix this.1 ?_
  rw [(h.bid _ (getD_memR hi)).len, tw]
  exact this.2
theorem law_pays_fn {m : Nat} {R : List (List Int)} (h : Rm m R) : Fn F_law_pays [rmD R] (.list ((pays R m).map .int)) := by
  have h4 := h.n4
  have hr := @opA_row m R
  refine w_fn ?_
  refine w_then (e1 := [.fz (rmD R), .un, .fz (tupI (opA R m)), .own (.l []), .un, .un]) (se_parL (i := 2) (j := 3) (a_call (.cons (a_var (i := 0) rfl) .nil) (first_best_fn h)).ae) ?_
  have rl : ∀ e : List Sl, e[0]? = some (.fz (rmD R)) → dIt gRng1 [(dB gLen [(dVar 0)])] e = .ok ((List.range R.length).map nI) e := fun e he => i_rng1 (by omega) (a_B1 (a_var he).a gLenR)
  refine w_seq (w_forI nI (fun done e => ∃ x1 x4, e = [.fz (rmD R), x1, .fz (tupI (opA R m)), .own (.l ((done.map (pay R m)).map .int)), x4, .un]) (List.range R.length) (rl _ rfl) ⟨_, _, rfl⟩ ?_ ?_)
  · rintro done i rest _ hd ⟨x1, x4, rfl⟩
    have hi : i < R.length := List.mem_range.1 (by rw [hd]; simp)
    have hdl : done.length < 100000 := by have := congrArg List.length hd; simp at this; omega
    refine ⟨_, rfl, ?_⟩
    have a1 := a_comp (t := .nm 5) (vs := [5]) (di := dIt gRng1 [(dB gLen [(dVar 0)])]) (tt := dTruth (dB gNe [(dVar 5), (dVar 1)])) (te := dVar 5) (e := [.fz (rmD R), .fz (nI i), .fz (tupI (opA R m)), .own (.l ((done.map (pay R m)).map .int)), x4, .un]) nI (fun j => !decide (j = i)) nI (List.range R.length) (rl _ rfl) (fun j => [.fz (rmD R), .fz (nI i), .fz (tupI (opA R m)), .own (.l ((done.map (pay R m)).map .int)), x4, .fz (nI j)]) rfl fun j hj => ⟨rfl, rfl, ?_, fun _ => a_var rfl⟩
    · refine w_then (s_setF' (i := 4) a1) ?_
      have a2 := a_map (t := .nm 5) (vs := [5]) (di := dIt gSeq [(dVar 4)]) (te := dB gIx [(dB gIx [(dVar 0), (dVar 5)]), (dB gIx [(dVar 2), (dVar 5)])]) (e := [.fz (rmD R), .fz (nI i), .fz (tupI (opA R m)), .own (.l ((done.map (pay R m)).map .int)), .fz (.list ((oth R.length i).map nI)), .un]) nI (fun j => .int (val (R.getD j []) ((opA R m).getD j 0))) (oth R.length i) (i_seqL (a_var (i := 4) rfl)) (fun j => [.fz (rmD R), .fz (nI i), .fz (tupI (opA R m)), .own (.l ((done.map (pay R m)).map .int)), .fz (.list ((oth R.length i).map nI)), .fz (nI j)]) rfl fun j hj => ⟨rfl, rfl, a_B2 (a_B2 (a_var (i := 0) rfl).a (a_var (i := 5) rfl).a (rm_ix (oth_lt j hj))).a (a_B2 (a_var (i := 2) rfl).a (a_var (i := 5) rfl).a (row_ix hr (oth_lt j hj))).a (room_val h hr (oth_lt j hj))⟩
      refine w_ok (s_app (i := 3) rfl (by simpa using hdl) (a_B2 (g := gSub) (z := .int (pay R m i)) (a_call (.cons (a_var (i := 0) rfl) (.cons (a_var (i := 4) rfl) .nil)) (most_for_fn h oth_lt)).a (a_B1 (g := gSum) a2.a (by have := gSumL ((oth R.length i).map fun j => val (R.getD j []) ((opA R m).getD j 0)); rwa [List.map_map] at this)).a ?_)) ⟨rfl, .fz (nI i), .fz (.list ((oth R.length i).map nI)), ?_⟩
      · show some (Out.fz (.int (Vb R m (oth R.length i) - _))) = _
        rw [oth_sum hi, Va_sum]
        rfl
      · simp [oth]
    · have := t_truth (a_B2 (g := gNe) (e := [.fz (rmD R), .fz (nI i), .fz (tupI (opA R m)), .own (.l ((done.map (pay R m)).map .int)), x4, .fz (nI j)]) (a_var (i := 5) rfl).a (a_var (i := 1) rfl).a (gNeI _ _)).a
      have e : decide ((j : Int) = (i : Int)) = decide (j = i) := by rw [decide_eq_decide]; omega
      rwa [e] at this
  · rintro _ ⟨x1, x4, rfl⟩
    exact ⟨fun _ => w_ok (a := .rt (.bor 3)) rfl ⟨rfl, .bor 3, rfl, .inr ⟨3, _, rfl, by decide, rfl, rfl⟩⟩, fun r hr => by cases hr⟩
end DL

/-! M20: prices. -/
namespace DL
open PySem PySem.Spec PyProof.Rows L2
theorem w_forTest {α : Type} {d : Dn (List PyData)} {t : Tg} {body : Dn Fl} {e : List Sl} {Q : Fl → List Sl → Prop} (emb : α → PyData) (I : List Sl → Prop) (test : α → Bool) (xs : List α) (hd : d e = .ok (xs.map emb) e) (h : I e)
    (hs : ∀ x e, x ∈ xs → I e → ∃ e1, tgD t (emb x) e = .ok () e1 ∧ W (body e1) fun f e2 => I e2 ∧ (test x = false → f = .nx) ∧ (test x = true → f = .rt (.fz (.bool false))))
    (q1 : xs.any test = false → ∀ e', I e' → Q .nx e') (q2 : xs.any test = true → ∀ e', I e' → Q (.rt (.fz (.bool false))) e') : W (dFor d t body e) Q := by
  simp only [dFor, bnd, hd]
  clear hd
  induction xs generalizing e with
  | nil => exact q1 rfl e h
  | cons x xs ih =>
    obtain ⟨e1, h1, h2⟩ := hs x e (List.mem_cons_self ..) h
    simp only [List.map_cons, forL, bnd, h1]
    cases hb : body e1 with
    | ok f e2 =>
      rw [hb] at h2
      obtain ⟨i2, n, y⟩ := h2
      cases c : test x with
      | false =>
        cases n c
        exact ih i2 (fun y e hy hi => hs y e (List.mem_cons_of_mem _ hy) hi) (fun a => q1 (by simp [c, a])) (fun a => q2 (by simp [a]))
      | true =>
        cases y c
        exact q2 (by simp [c]) e2 i2
    | ex c e => rw [hb] at h2; exact h2.elim
    | bad => rw [hb] at h2; exact h2.elim
theorem ins_full : ∀ m : Fin 4, inside (2 ^ m.val - 1) = List.range m.val := by decide +kernel
theorem count_things_fn {m : Nat} {R : List (List Int)} (h : Rm m R) : Fn F_count_things [rmD R] (nI m) := by
  have hp := Nat.two_pow_pos m
  have hm := ins_full ⟨m, by have := h.m3; omega⟩
  simp only at hm
  refine fn_ret rfl (a_B1 (a_call (.cons (a_B2 (g := gSub) (a_size0 h (i := 0) rfl).a (a_c (x := nI 1)).a (gSubN (by omega))) .nil) (things_in_fn _)).a ?_)
  rw [gLenL, List.length_map, hm, List.length_range]
def prc (p : List Int) (s : Nat) : Int := ((inside s).map fun t => p.getD t 0).sum
theorem price_of_fn {m : Nat} {p : List Int} (hp : p.length = m) {s : Nat} (hs : s < 2 ^ m) : Fn F_price_of [tupI p, nI s] (.int (prc p s)) := by
  refine fn_ret rfl ?_
  have a1 := a_map (t := .nm 2) (vs := [2]) (di := dIt gSeq [(dCall F_things_in [(dVar 1)])]) (te := dB gIx [(dVar 0), (dVar 2)]) (e := [.fz (tupI p), .fz (nI s), .un]) nI (fun t => .int (p.getD t 0)) (inside s) (i_seqL (a_call (.cons (a_var (i := 1) rfl) .nil) (things_in_fn s))) (fun t => [.fz (tupI p), .fz (nI s), .fz (nI t)]) rfl fun t ht => ⟨rfl, rfl, a_B2 (a_var (i := 0) rfl).a (a_var (i := 2) rfl).a (ws_ix (by rw [hp]; exact inside_m hs ht))⟩
  exact a_B1 a1.a (by have := gSumL ((inside s).map fun t => p.getD t 0); rwa [List.map_map] at this)
/-- the sum of an allotment -/
theorem sum_set (a : List Int) (i : Nat) (h : i < a.length) (v : Int) : (a.set i v).sum = a.sum - a.getD i 0 + v := by
  induction a generalizing i with
  | nil => simp at h
  | cons x a ih => cases i with
    | zero => simp; omega
    | succ i => have := ih i (by simpa using h); simp at this ⊢; omega
theorem allotK_sum {n : Nat} {g : List Nat} (hg : ∀ i ∈ g, i < n) (k : Nat) : ∀ a ∈ allotK n g k, 0 ≤ a.sum ∧ a.sum < 2 ^ k := by
  induction k with
  | zero =>
    intro a ha
    simp [allotK] at ha
    subst ha
    have : (List.replicate n (0 : Int)).sum = 0 := by induction n with
      | zero => rfl
      | succ n ih => simp [List.replicate_succ] 
    rw [this]; decide
  | succ k ih =>
    intro a ha
    have hp : (2 : Int) ^ (k + 1) = 2 ^ k + 2 ^ k := by rw [Int.pow_succ]; omega
    have hp0 : (0 : Int) < 2 ^ k := Int.pow_pos (by decide)
    rw [allotK_succ] at ha
    simp only [grow, List.mem_append, List.mem_flatMap, List.mem_map] at ha
    rcases ha with ha | ⟨b, hb, i, hi, rfl⟩
    · have := ih a ha; omega
    · have hib : i < b.length := by rw [allotK_row hg k b hb]; exact hg i hi
      rw [bump_eq hib, sum_set b i hib]
      have := ih b hb
      omega
def left (m : Nat) (a : List Int) : Nat := 2 ^ m - 1 - a.sum.toNat
def mst (m : Nat) (b : List Int) (p : List Int) : Int := maxL ((List.range (2 ^ m)).map fun o => val b (o : Nat) - prc p o)
def bdP (m : Nat) (p : List Int) (q : List Int × Int) : Bool := decide (val q.1 q.2 - prc p q.2.toNat < mst m q.1 p)
def prt (R : List (List Int)) (m : Nat) (a p : List Int) : Bool := decide (prc p (left m a) ≤ 0) && !((R.zip a).any (bdP m p))
theorem parts_fn {m : Nat} {R : List (List Int)} (h : Rm m R) {a : List Int} (ha : a ∈ allotK R.length (List.range R.length) m) {p : List Int} (hp : p.length = m) : Fn F_parts [rmD R, tupI a, tupI p] (.bool (prt R m a p)) := by
  have hrow := allotK_Row range_lt m a ha
  have hsum := allotK_sum range_lt m a ha
  have h2 := Nat.two_pow_pos m
  have tw2 := tw m
  have hleft : left m a < 2 ^ m := by unfold left; omega
  refine w_fn ?_
  have T : Te (dTruth (dB gGt [(dCall F_price_of [(dVar 2), (dB gSub [(dB gSub [(dB gLen [(dB gIx [(dVar 0), (dC (.int 0))])]), (dC (.int 1))]), (dB gSum [(dVar 1)])])]), (dC (.int 0))])) [.fz (rmD R), .fz (tupI a), .fz (tupI p), .un, .un, .un, .un, .un] (decide (0 < prc p (left m a))) := by
    have a1 : Af (dB gSub [(dB gSub [(dB gLen [(dB gIx [(dVar 0), (dC (.int 0))])]), (dC (.int 1))]), (dB gSum [(dVar 1)])]) [.fz (rmD R), .fz (tupI a), .fz (tupI p), .un, .un, .un, .un, .un] (nI (left m a)) := by
      refine a_B2 (a_B2 (g := gSub) (a_size0 h (i := 0) rfl).a (a_c (x := nI 1)).a (gSubN (by omega))).a (a_B1 (g := gSum) (z := .int a.sum) (a_var (i := 1) rfl).a (by show (intsOf (a.map .int)).map _ = _; rw [intsOf_map]; rfl)).a ?_
      show some (Out.fz (.int (((2 ^ m - 1 : Nat) : Int) - a.sum))) = _
      rw [nI, left]
      congr 3
      omega
    exact t_truth (a_B2 (a_call (.cons (a_var (i := 2) rfl) (.cons a1 .nil)) (price_of_fn hp hleft)).a (a_c (x := .int 0)).a gGtI).a
  by_cases c0 : 0 < prc p (left m a)
  · rw [decide_eq_true c0] at T
    refine w_seq (w_if T (fun _ => w_ret a_c fun r hr => ⟨(fun h => by cases h), (fun r' e' => ?_)⟩) fun h => by cases h)
    cases e'
    refine ⟨rfl, r, rfl, .inl ?_⟩
    have : prt R m a p = false := by simp only [prt]; rw [decide_eq_false (by omega)]; rfl
    rw [this]; exact hr
  · rw [decide_eq_false c0] at T
    refine w_then (s_if_skip T) ?_
    have hle : prc p (left m a) ≤ 0 := by omega
    refine w_seq (w_forTest zp (fun e => ∃ x3 x4 x5, e = [.fz (rmD R), .fz (tupI a), .fz (tupI p), x3, x4, x5, .un, .un]) (bdP m p) (R.zip a) (it_eq (.cons (a_var (i := 0) rfl) (.cons (a_var (i := 1) rfl) .nil)) (by show some (zip2L (R.map tupI) (a.map .int)) = _; rw [zip2_eq])) ⟨_, _, _, rfl⟩ ?_ ?_ ?_)
    · rintro ⟨b, s⟩ _ hq ⟨x3, x4, x5, rfl⟩
      have hm := List.of_mem_zip hq
      have hs := hrow.2 s hm.2
      have hbl := (h.bid b hm.1).len
      obtain ⟨s, rfl⟩ := Int.eq_ofNat_of_zero_le hs.1
      have hs2 : s < 2 ^ m := by omega
      refine ⟨_, rfl, ?_⟩
      have a1 := a_map (t := .tp [6, 7]) (vs := [6, 7]) (di := dIt gEnum [(dVar 3)]) (te := dB gSub [(dVar 7), (dCall F_price_of [(dVar 2), (dVar 6)])]) (e := [.fz (rmD R), .fz (tupI a), .fz (tupI p), .fz (tupI b), .fz (nI s), x5, .un, .un]) (fun i : Nat => .tuple [nI i, .int (b.getD i 0)]) (fun o => .int (val b (o : Nat) - prc p o)) (List.range (2 ^ m)) (it_eq (.cons (a_var (i := 3) rfl) .nil) (by show some (enumL 0 _) = _; rw [enumL_eq, hbl]; simp)) (fun o => [.fz (rmD R), .fz (tupI a), .fz (tupI p), .fz (tupI b), .fz (nI s), x5, .fz (nI o), .fz (.int (b.getD o 0))]) rfl fun o ho => ⟨rfl, rfl, ?_⟩
      · obtain ⟨n0, hn0⟩ : ∃ k, 2 ^ m = k + 1 := ⟨2 ^ m - 1, by omega⟩
        have a2 := a_B1 (g := gMax) (z := .int (mst m b p)) a1.a (by
          unfold mst
          rw [hn0, List.range_succ_eq_map, List.map_cons, List.map_cons]
          have := gMaxL (val b (0 : Nat) - prc p 0) ((List.map Nat.succ (List.range n0)).map fun o => val b (o : Nat) - prc p o)
          rw [List.map_cons, List.map_map] at this
          exact this)
        refine w_then (s_setF' (i := 5) a2) ?_
        have T2 := t_truth (a_B2 (g := gGt) (e := [.fz (rmD R), .fz (tupI a), .fz (tupI p), .fz (tupI b), .fz (nI s), .fz (.int (mst m b p)), .un, .un]) (a_var (i := 5) rfl).a (a_B2 (g := gSub) (a_B2 (g := gIx) (a_var (i := 3) rfl).a (a_var (i := 4) rfl).a (val_ix hs.1 (by rw [hbl]; omega))).a (a_call (.cons (a_var (i := 2) rfl) (.cons (a_var (i := 4) rfl) .nil)) (price_of_fn hp hs2)).a rfl).a gGtI).a
        refine w_if T2 (fun c => w_ret a_c fun r hr => ⟨⟨_, _, _, rfl⟩, fun c2 => ?_, fun _ => by rw [rx_true hr]⟩) (fun c => w_next ⟨⟨_, _, _, rfl⟩, fun _ => rfl, fun c2 => ?_⟩)
        · have : bdP m p (b, ((s : Nat) : Int)) = true := c
          rw [this] at c2; cases c2
        · have : bdP m p (b, ((s : Nat) : Int)) = false := c
          rw [this] at c2; cases c2
      · have ho := List.mem_range.1 ho
        have e : val b (o : Nat) = b.getD o 0 := by simp [val]
        rw [e]
        exact a_B2 (a_var (i := 7) rfl).a (a_call (.cons (a_var (i := 2) rfl) (.cons (a_var (i := 6) rfl) .nil)) (price_of_fn hp ho)).a rfl
    · rintro hz _ ⟨x3, x4, x5, rfl⟩
      refine ⟨fun _ => w_ret a_c fun r hr => ⟨rfl, r, rfl, .inl ?_⟩, fun r hr => by cases hr⟩
      have : prt R m a p = true := by simp only [prt]; rw [decide_eq_true hle, hz]; rfl
      rw [this]; exact hr
    · rintro hz _ ⟨x3, x4, x5, rfl⟩
      refine ⟨(fun h => by cases h), (fun r hr => ?_)⟩
      cases hr
      have : prt R m a p = false := by simp only [prt]; rw [hz]; simp
      exact ⟨rfl, _, rfl, .inl (by rw [this]; rfl)⟩
end DL

/-! M21: lists of prices. -/
namespace DL
open PySem PySem.Spec PyProof.Rows L2
theorem s_ext {i : Nat} {d : Dn Rv} {e : List Sl} {xs ys : List PyData} (hi : e[i]? = some (.own (.l xs))) (hl : xs.length + ys.length ≤ 100000) (h : Af d e (.list ys)) : dExtend i d e = .ok .nx (e.set i (.own (.l (xs ++ ys)))) := by
  obtain ⟨r, h1, h2⟩ := h
  simp only [dExtend, onL, hi, bnd, h1, cmt_rf h2, putL, hl, if_true]
def digs : List Nat := List.range 10
def prsN : Nat → List (List Nat)
  | 0 => [[]]
  | k + 1 => (prsN k).flatMap fun p => digs.map fun o => p ++ [o]
def prs (m : Nat) : List (List Int) := (prsN m).map zg
theorem prsN_len (k : Nat) : (prsN k).length = 10 ^ k := by
  induction k with
  | zero => rfl
  | succ k ih =>
    have : ∀ l : List (List Nat), (l.flatMap fun p => digs.map fun o => p ++ [o]).length = l.length * 10 := by
      intro l
      induction l with
      | nil => rfl
      | cons a l ih2 => rw [List.flatMap_cons, List.length_append, ih2]; simp [digs]; omega
    rw [prsN, this, ih, Nat.pow_succ]
theorem prsN_row (k : Nat) : ∀ p ∈ prsN k, p.length = k ∧ ∀ x ∈ p, x < 10 := by
  induction k with
  | zero => intro p h; simp [prsN] at h; simp [h]
  | succ k ih =>
    intro p h
    obtain ⟨o, h1, h2⟩ := List.mem_flatMap.1 h
    obtain ⟨s, hs, rfl⟩ := List.mem_map.1 h2
    have := ih o h1
    have hs : s < 10 := by simpa [digs] using hs
    refine ⟨by simp [this.1], fun x hx => ?_⟩
    rcases List.mem_append.1 hx with hx | hx
    · exact this.2 x hx
    · simp at hx; omega
theorem prs_row {m : Nat} {p : List Int} (h : p ∈ prs m) : p.length = m ∧ ∀ x ∈ p, 0 ≤ x ∧ x ≤ 9 := by
  obtain ⟨q, hq, rfl⟩ := List.mem_map.1 h
  have := prsN_row m q hq
  refine ⟨by simp [zg, this.1], fun x hx => ?_⟩
  obtain ⟨y, hy, rfl⟩ := List.mem_map.1 hx
  have := this.2 y hy
  omega
theorem mem_prs {m : Nat} {p : List Int} (h1 : p.length = m) (h2 : ∀ x ∈ p, 0 ≤ x ∧ x ≤ 9) : p ∈ prs m := by
  have key : ∀ (k : Nat) (q : List Nat), q.length = k → (∀ x ∈ q, x < 10) → q ∈ prsN k := by
    intro k
    induction k with
    | zero => intro q h _; simp at h; simp [h, prsN]
    | succ k ih =>
      intro q hq hx
      have hne : q ≠ [] := fun e => by rw [e] at hq; simp at hq
      rw [← List.dropLast_concat_getLast hne]
      refine List.mem_flatMap.2 ⟨q.dropLast, ih _ (by simp [hq]) (fun x h => hx x ((List.dropLast_sublist q).subset h)), List.mem_map.2 ⟨q.getLast hne, ?_, rfl⟩⟩
      simp [digs, hx _ (List.getLast_mem hne)]
  refine List.mem_map.2 ⟨p.map Int.toNat, key m _ (by simp [h1]) (fun x hx => ?_), ?_⟩
  · obtain ⟨y, hy, rfl⟩ := List.mem_map.1 hx
    have := h2 y hy
    omega
  · unfold zg
    rw [List.map_map]
    conv => rhs; rw [← List.map_id p]
    apply List.map_congr_left
    intro x hx
    have := h2 x hx
    simp; omega
def plst (R : List (List Int)) (m : Nat) : List (List Int) := (prs m).filter (prt R m (opA R m))
theorem prs_gT (m : Nat) : (prs m).map tupI = (prsN m).map gT := by rw [prs, List.map_map]; apply List.map_congr_left; intro g _; exact (gT_eq g).symm
def Fzy (x : Sl) : Prop := x = .un ∨ ∃ d, x = .fz d
theorem price_list_fn {m : Nat} {R : List (List Int)} (h : Rm m R) : Fn F_price_list [rmD R] (.list ((plst R m).map tupI)) := by
  have hm3 := h.m3
  refine w_fn ?_
  refine w_then (e1 := [.fz (rmD R), .fz (.list ((prsN 0).map gT)), .un, .un, .un, .un, .un]) (s_setF' (i := 1) (a_lst (.cons (a_tup .nil) .nil))) ?_
  refine w_seq (w_forI nI (fun done e => ∃ x2 x4 x5, Fzy x5 ∧ e = [.fz (rmD R), .fz (.list ((prsN done.length).map gT)), x2, .un, x4, x5, .un]) (List.range m) (i_rng1 (by omega) (a_call (.cons (a_var (i := 0) rfl) .nil) (count_things_fn h))) ⟨_, _, _, .inl rfl, rfl⟩ ?_ ?_)
  · rintro done i rest _ hd ⟨x2, x4, x5, z5, rfl⟩
    have hdl : done.length < m := by have := congrArg List.length hd; simp at this; omega
    have hlen := prsN_len done.length
    have hpow : 10 ^ done.length ≤ 100 := Nat.le_trans (Nat.pow_le_pow_right (by decide) (show done.length ≤ 2 by omega)) (by decide)
    have hrow := prsN_row done.length
    refine ⟨_, rfl, ?_⟩
    rw [List.length_append, List.length_singleton, show prsN (done.length + 1) = (prsN done.length).flatMap (fun p => digs.map fun o => p ++ [o]) from rfl]
    generalize prsN done.length = S at *
    refine w_then (e1 := [.fz (rmD R), .fz (.list (S.map gT)), .fz (nI i), .un, .own (.l []), x5, .un]) (s_setL (i := 4) .nil) ?_
    refine w_seq (w_forI gT (fun dn e => ∃ x5, Fzy x5 ∧ e = [.fz (rmD R), .fz (.list (S.map gT)), .fz (nI i), .un, .own (.l ((dn.flatMap (fun p => digs.map fun o => p ++ [o])).map gT)), x5, .un]) S (i_seqL (a_var (i := 1) rfl)) ⟨_, z5, rfl⟩ ?_ ?_)
    · rintro dn p rs _ hdn ⟨x5, _, rfl⟩
      have hdnl : dn.length < S.length := by have := congrArg List.length hdn; simp at this; omega
      have hpl := (hrow p (by rw [hdn]; simp)).1
      refine ⟨_, rfl, ?_⟩
      have a1 := a_map (t := .nm 6) (vs := [6]) (di := dIt gRng1 [(dC (.int 10))]) (te := dB gAdd [(dVar 5), (dTup [(dVar 6)])]) (e := [.fz (rmD R), .fz (.list (S.map gT)), .fz (nI i), .un, .own (.l ((dn.flatMap (fun p => digs.map fun o => p ++ [o])).map gT)), .fz (gT p), .un]) nI (fun o => gT (p ++ [o])) (List.range 10) (i_rng1 (by decide) a_c) (fun o => [.fz (rmD R), .fz (.list (S.map gT)), .fz (nI i), .un, .own (.l ((dn.flatMap (fun p => digs.map fun o => p ++ [o])).map gT)), .fz (gT p), .fz (nI o)]) rfl fun o ho => ⟨rfl, rfl, ?_⟩
      · have fl : ∀ l : List (List Nat), (l.flatMap fun p => digs.map fun o => p ++ [o]).length = l.length * 10 := by
          intro l
          induction l with
          | nil => rfl
          | cons a l ih2 => rw [List.flatMap_cons, List.length_append, ih2]; simp [digs]; omega
        refine w_ok (s_ext (i := 4) rfl (by rw [List.length_map, fl, List.length_map, List.length_range]; omega) a1) ⟨rfl, .fz (gT p), .inr ⟨_, rfl⟩, ?_⟩
        rw [flatMap_snoc, List.map_append, List.map_map]
        rfl
      · have eo : gT (p ++ [o]) = .tuple (p.map nI ++ [nI o]) := by simp [gT]
        rw [eo]
        refine a_B2 (a_var (i := 5) rfl).a (a_tup (.cons (a_var (i := 6) rfl) .nil)).a (gAddT ?_)
        simp; omega
    · rintro _ ⟨x5, z5, rfl⟩
      refine ⟨fun _ => ?_, fun r hr => by cases hr⟩
      exact w_ok (s_setFown (i := 1) (j := 4) rfl) ⟨rfl, .fz (nI i), .fz (.list ((S.flatMap (fun p => digs.map fun o => p ++ [o])).map gT)), x5, z5, rfl⟩
  · rintro _ ⟨x2, x4, x5, z5, rfl⟩
    refine ⟨fun _ => ?_, fun r hr => by cases hr⟩
    rw [List.length_range, ← prs_gT]
    refine w_then (s_setF' (i := 3) (a_B2 (a_call (.cons (a_var (i := 0) rfl) (.cons (a_call (.cons (a_var (i := 0) rfl) .nil) (everyone_fn h.n4)) .nil)) (best_for_fn h range_lt (by simpa using h.n4))).a (a_c (x := nI 1)).a (gIxT (d := tupI (opA R m)) rfl))) ?_
    have a1 := a_comp (t := .nm 5) (vs := [5]) (di := dIt gSeq [(dVar 1)]) (tt := dTruth (dCall F_parts [(dVar 0), (dVar 3), (dVar 5)])) (te := dVar 5) (e := [.fz (rmD R), .fz (.list ((prs m).map tupI)), x2, .fz (tupI (opA R m)), x4, x5, .un]) tupI (prt R m (opA R m)) tupI (prs m) (i_seqL (a_var (i := 1) rfl)) (fun p => [.fz (rmD R), .fz (.list ((prs m).map tupI)), x2, .fz (tupI (opA R m)), x4, .fz (tupI p), .un]) (by rcases z5 with rfl | ⟨d, rfl⟩ <;> rfl) fun p hp => ⟨rfl, rfl, t_truth (a_call (.cons (a_var (i := 0) rfl) (.cons (a_var (i := 3) rfl) (.cons (a_var (i := 5) rfl) .nil))) (parts_fn h (opA_mem R m) (prs_row hp).1)).a, fun _ => a_var rfl⟩
    exact w_ret a1 fun r hr => ⟨rfl, r, rfl, .inl hr⟩
theorem all_prices_fn {m : Nat} {R : List (List Int)} (h : Rm m R) : Fn F_all_prices [rmD R] (.list ((plst R m).map tupI)) :=
  w_fn (w_then (s_check_room h (i := 0) rfl) (w_ret (a_call (.cons (a_var (i := 0) rfl) .nil) (price_list_fn h)) fun r hr => ⟨rfl, r, rfl, .inl hr⟩))
theorem do_part_fn {m : Nat} {R : List (List Int)} (h : Rm m R) {p : List Int} (hp : p.length = m) (h9 : ∀ x ∈ p, 0 ≤ x ∧ x ≤ 9) : Fn F_do_part [rmD R, tupI p] (.bool (prt R m (opA R m) p)) := by
  refine w_fn (w_then (s_check_room h (i := 0) rfl) ?_)
  have T1 := t_or (e := [.fz (rmD R), .fz (tupI p), .un]) (t_not (b := true) (t_truth (a_B1 (g := gIsi "tuple") (x := tupI p) (z := .bool true) (a_var (i := 1) rfl).a rfl).a)) fun _ => t_truth (a_B2 (g := gNe) (a_B1 (g := gLen) (z := nI m) (a_var (i := 1) rfl).a (by rw [tupI, gLenT, List.length_map, hp])).a (a_call (.cons (a_var (i := 0) rfl) .nil) (count_things_fn h)).a (gNeI _ _)).a
  rw [decide_eq_true rfl] at T1
  refine w_then (s_if_skip T1) ?_
  have a1 := a_map (t := .nm 2) (vs := [2]) (di := dIt gSeq [(dVar 1)]) (te := dCall F_is_integer [(dVar 2), (dC (.int 0)), (dC (.int 9))]) (e := [.fz (rmD R), .fz (tupI p), .un]) PyData.int (fun _ => .bool true) p (i_seqT (a_var rfl)) (fun v => [.fz (rmD R), .fz (tupI p), .fz (.int v)]) rfl fun v hv => ⟨rfl, rfl, ?_⟩
  · have a2 := a_B1 (g := gAll) a1.a (by have := gAllL (p.map fun _ => true); rwa [List.map_map] at this)
    rw [show (p.map fun _ => true).all id = true by simp] at a2
    refine w_then (s_if_skip (t_not (t_truth a2.a))) ?_
    exact w_ret (a_call (.cons (a_var (i := 0) rfl) (.cons (a_B2 (a_call (.cons (a_var (i := 0) rfl) (.cons (a_call (.cons (a_var (i := 0) rfl) .nil) (everyone_fn h.n4)) .nil)) (best_for_fn h range_lt (by simpa using h.n4))).a (a_c (x := nI 1)).a (gIxT (d := tupI (opA R m)) rfl)) (.cons (a_var (i := 1) rfl) .nil))) (parts_fn h (opA_mem R m) hp)) fun r hr => ⟨rfl, r, rfl, .inl hr⟩
  · have := a_call (e := [.fz (rmD R), .fz (tupI p), .fz (.int v)]) (.cons (a_var (i := 2) rfl) (.cons (a_c (x := .int 0)) (.cons (a_c (x := .int 9)) .nil))) (is_integer_fn v 0 9)
    rw [show (decide ((0 : Int) ≤ v) && decide (v ≤ 9)) = true by have := h9 v hv; simp; omega] at this
    exact this
def lst (R : List (List Int)) (m : Nat) : List Int := (List.range m).map fun t => minL ((plst R m).map fun p => p.getD t 0)
theorem gMinL (n : Int) (ns : List Int) : gMin [.list ((n :: ns).map .int)] = some (.fz (.int (minL (n :: ns)))) := by simp only [gMin, intsOf_map]
theorem gInR (a : List Int) (L : List (List Int)) : gIn [tupI a, .list (L.map tupI)] = some (.fz (.bool (decide (a ∈ L)))) := by
  have h1 : (L.map tupI).all (okD 7) = true := by simp [okD_tupI]
  have h2 : ((L.map tupI).any fun z => PyData.eqv z (tupI a)) = decide (a ∈ L) := by
    rw [Bool.eq_iff_iff]
    simp [eqv_tupI]
  simp only [gIn, gInG]
  rw [if_pos ⟨okD_tupI _ _, h1⟩, h2]
  simp [inB]
theorem least_prices_fn {m : Nat} {R : List (List Int)} (h : Rm m R) (hne : plst R m ≠ []) : Fn F_least_prices [rmD R] (if lst R m ∈ plst R m then tupI (lst R m) else .none) := by
  have hm3 := h.m3
  refine w_fn (w_then (s_check_room h (i := 0) rfl) (w_then (s_setF' (i := 1) (a_call (.cons (a_var (i := 0) rfl) .nil) (price_list_fn h))) ?_))
  have T1 := t_truth (a_B2 (g := gEq) (e := [.fz (rmD R), .fz (.list ((plst R m).map tupI)), .un, .un, .un]) (a_var (i := 1) rfl).a (a_lst .nil).a (gEqR _ [])).a
  rw [decide_eq_false hne] at T1
  refine w_then (s_if_skip T1) ?_
  have a1 := a_map (t := .nm 3) (vs := [3]) (di := dIt gRng1 [(dCall F_count_things [(dVar 0)])]) (te := dB gMin [(dComp (dIt gSeq [(dVar 1)]) (.nm 4) dYes (dB gIx [(dVar 4), (dVar 3)]) [4])]) (e := [.fz (rmD R), .fz (.list ((plst R m).map tupI)), .un, .un, .un]) nI (fun t => .int (minL ((plst R m).map fun p => p.getD t 0))) (List.range m) (i_rng1 (by omega) (a_call (.cons (a_var (i := 0) rfl) .nil) (count_things_fn h))) (fun t => [.fz (rmD R), .fz (.list ((plst R m).map tupI)), .un, .fz (nI t), .un]) rfl fun t ht => ⟨rfl, rfl, ?_⟩
  · refine w_then (e1 := [.fz (rmD R), .fz (.list ((plst R m).map tupI)), .fz (tupI (lst R m)), .un, .un]) ?_ ?_
    · refine s_setF' (i := 2) (a_B1 (g := gTuple) a1.a ?_)
      rw [tupI, lst, List.map_map]; rfl
    · refine w_ret (x := if lst R m ∈ plst R m then tupI (lst R m) else .none) (a_ife (t_truth (a_B2 (g := gIn) (a_var (i := 2) rfl).a (a_var (i := 1) rfl).a (gInR _ _)).a) (fun c => ?_) (fun c => ?_)) fun r hr => ⟨rfl, r, rfl, .inl hr⟩
      · rw [if_pos (of_decide_eq_true c)]; exact a_var (i := 2) rfl
      · rw [if_neg (of_decide_eq_false c)]; exact a_c
  · have ht := List.mem_range.1 ht
    have a2 := a_map (t := .nm 4) (vs := [4]) (di := dIt gSeq [(dVar 1)]) (te := dB gIx [(dVar 4), (dVar 3)]) (e := [.fz (rmD R), .fz (.list ((plst R m).map tupI)), .un, .fz (nI t), .un]) tupI (fun p => .int (p.getD t 0)) (plst R m) (i_seqL (a_var (i := 1) rfl)) (fun p => [.fz (rmD R), .fz (.list ((plst R m).map tupI)), .un, .fz (nI t), .fz (tupI p)]) rfl fun p hp => ⟨rfl, rfl, a_B2 (a_var (i := 4) rfl).a (a_var (i := 3) rfl).a (ws_ix (by rw [(prs_row (List.mem_filter.1 hp).1).1]; exact ht))⟩
    obtain ⟨q, qs, hq⟩ : ∃ q qs, plst R m = q :: qs := by
      cases hI : plst R m with
      | nil => exact absurd hI hne
      | cons a l => exact ⟨a, l, rfl⟩
    refine a_B1 a2.a ?_
    rw [hq]
    have := gMinL (q.getD t 0) (qs.map fun p => p.getD t 0)
    rw [List.map_cons, List.map_map] at this
    exact this
end DL

/-! M22: kept_by, sum_bid, total. -/
namespace DL
open PySem PySem.Spec PyProof.Rows L2
theorem sum_bid_fn {m : Nat} {ws : List Int} (h1 : 1 ≤ m) (h3 : m ≤ 3) (hl : ws.length = m) (hw : ∀ w ∈ ws, 0 ≤ w ∧ w ≤ 3) : Fn F_sum_bid [tupI ws] (tupI (sumB m ws)) := by
  have h8 := pow8 h3
  refine w_fn (w_then (s_check_worths (by omega) (by omega) hw (i := 0) rfl a_c) (w_then (s_setF' (i := 1) (a_size h1 h3 (a_B1 (z := nI m) (a_var (i := 0) rfl).a (by rw [tupI, gLenT, List.length_map, hl])))) ?_))
  have a1 := a_map (t := .nm 2) (vs := [2]) (di := dIt gRng1 [(dVar 1)]) (te := dB gSum [(dComp (dIt gSeq [(dCall F_things_in [(dVar 2)])]) (.nm 3) dYes (dB gIx [(dVar 0), (dVar 3)]) [3])]) (e := [.fz (tupI ws), .fz (nI (2 ^ m)), .un, .un]) nI (fun s => .int ((inside s).map (fun t => ws.getD t 0)).sum) (List.range (2 ^ m)) (i_rng1 (by omega) (a_var rfl)) (fun s => [.fz (tupI ws), .fz (nI (2 ^ m)), .fz (nI s), .un]) rfl fun s hs => ⟨rfl, rfl, ?_⟩
  · refine w_ret (a_B1 (g := gTuple) a1.a rfl) fun r hr => ⟨rfl, r, rfl, .inl ?_⟩
    rw [tupI, sumB, List.map_map]
    exact hr
  · have hs := List.mem_range.1 hs
    have a2 := a_map (t := .nm 3) (vs := [3]) (di := dIt gSeq [(dCall F_things_in [(dVar 2)])]) (te := dB gIx [(dVar 0), (dVar 3)]) (e := [.fz (tupI ws), .fz (nI (2 ^ m)), .fz (nI s), .un]) nI (fun t => .int (ws.getD t 0)) (inside s) (i_seqL (a_call (.cons (a_var (i := 2) rfl) .nil) (things_in_fn s))) (fun t => [.fz (tupI ws), .fz (nI (2 ^ m)), .fz (nI s), .fz (nI t)]) rfl fun t ht => ⟨rfl, rfl, a_B2 (a_var (i := 0) rfl).a (a_var (i := 3) rfl).a (ws_ix (by rw [hl]; exact inside_m hs ht))⟩
    exact a_B1 a2.a (by have := gSumL ((inside s).map fun t => ws.getD t 0); rwa [List.map_map] at this)
/-- another bid at a place -/
def repl (R : List (List Int)) (i : Nat) (b : List Int) : List (List Int) := R.take i ++ [b] ++ R.drop (i + 1)
theorem repl_eq {R : List (List Int)} {i : Nat} (h : i < R.length) (b : List Int) : repl R i b = R.set i b := by
  rw [repl, List.set_eq_take_append_cons_drop, if_pos h]; simp
theorem repl_rm {m : Nat} {R : List (List Int)} (h : Rm m R) {i : Nat} (hi : i < R.length) {b : List Int} (hb : Bid m b) : Rm m (repl R i b) := by
  rw [repl_eq hi]
  refine ⟨h.m1, h.m3, by simp; exact h.n1, by simp; exact h.n4, fun x hx => ?_⟩
  rcases List.mem_or_eq_of_mem_set hx with q | q
  · exact h.bid x q
  · exact q ▸ hb
theorem a_repl {m : Nat} {R : List (List Int)} (h : Rm m R) {i : Nat} (hi : i < R.length) {b : List Int} {e : List Sl} {j k : Nat} {d : Dn Rv} (hj : e[j]? = some (.fz (rmD R))) (hk : e[k]? = some (.fz (nI i))) (hd : Af d e (tupI b)) :
    Af (dB gAdd [(dB gAdd [(dB (gHi gCut) [(dVar j), (dVar k)]), (dTup [d])]), (dB (gLo gCut) [(dVar j), (dB gAdd [(dVar k), (dC (.int 1))])])]) e (rmD (repl R i b)) := by
  have h4 := h.n4
  have e1 : rmD (repl R i b) = .tuple (((R.map tupI).take i ++ [tupI b]) ++ (R.map tupI).drop (i + 1)) := by simp [rmD, repl]
  rw [e1]
  refine a_B2 (a_B2 (a_B2 (a_var hj).a (a_var hk).a (gHiT _ _ (by simp; omega))).a (a_tup (.cons hd .nil)).a (gAddT ?_)).a (a_B2 (a_var hj).a (a_B2 (a_var hk).a (a_c (x := nI 1)).a gAddN).a (gLoT _ _ (by simp; omega))).a (gAddT ?_)
  · simp; omega
  · simp; omega
def kby (R : List (List Int)) (m i : Nat) (b : List Int) : Int := val (R.getD i []) ((opA (repl R i b) m).getD i 0) - pay (repl R i b) m i
theorem kept_by_fn {m : Nat} {R : List (List Int)} (h : Rm m R) {i : Nat} (hi : i < R.length) {b : List Int} (hb : Bid m b) : Fn F_kept_by [rmD R, nI i, tupI b] (.int (kby R m i b)) := by
  have hR := repl_rm h hi hb
  have hlen : (repl R i b).length = R.length := by rw [repl_eq hi]; simp
  have hr := @opA_row m (repl R i b)
  rw [hlen] at hr
  refine w_fn (w_then (s_check_room h (i := 0) rfl) ?_)
  have a1 := a_call (e := [.fz (rmD R), .fz (nI i), .fz (tupI b), .un, .un]) (.cons (a_var (i := 1) rfl) (.cons (a_c (x := .int 0)) (.cons (a_B2 (g := gSub) (a_B1 (g := gLen) (a_var (i := 0) rfl).a gLenR).a (a_c (x := .int 1)).a rfl) .nil))) (is_integer_fn (i : Int) 0 _)
  rw [show (decide ((0 : Int) ≤ (i : Int)) && decide ((i : Int) ≤ (R.length : Int) - 1)) = true by simp; omega] at a1
  refine w_then (s_if_skip (t_not (t_truth a1.a))) ?_
  have a2 := a_call (e := [.fz (rmD R), .fz (nI i), .fz (tupI b), .un, .un]) (.cons (a_var (i := 2) rfl) (.cons (a_size0 h (i := 0) rfl) .nil)) (bids_for_fn h.m3 hb m h.m3)
  rw [decide_eq_true rfl] at a2
  refine w_then (s_if_skip (t_not (t_truth a2.a))) ?_
  refine w_then (e1 := [.fz (rmD R), .fz (nI i), .fz (tupI b), .fz (tupI (opA (repl R i b) m)), .fz (.list ((pays (repl R i b) m).map .int))]) (s_setT' (a_call (.cons (a_repl h hi (j := 0) (k := 1) rfl rfl (a_var (i := 2) rfl)) .nil) (outcome_fn hR)) rfl) ?_
  refine w_ret (a_B2 (g := gSub) (a_B2 (g := gIx) (a_B2 (g := gIx) (a_var (i := 0) rfl).a (a_var (i := 1) rfl).a (rm_ix hi)).a (a_B2 (g := gIx) (a_var (i := 3) rfl).a (a_var (i := 1) rfl).a (row_ix hr hi)).a (room_val h hr hi)).a (a_B2 (g := gIx) (a_var (i := 4) rfl).a (a_var (i := 1) rfl).a (gIxL (d := .int (pay (repl R i b) m i)) ?_)).a rfl) fun r hr => ⟨rfl, r, rfl, .inl hr⟩
  simp [pays, hlen, hi]
end DL

/-! M23: total. -/
namespace DL
open PySem PySem.Spec PyProof.Rows L2
def givs (a : List Int) : List Nat := a.flatMap fun s => inside s.toNat
theorem inside_len (s : Nat) : (inside s).length ≤ 3 := by have := List.length_filter_le (fun t => decide (s / 2 ^ t % 2 = 1)) (List.range 3); simpa [inside] using this
theorem givs_len (a : List Int) : (givs a).length ≤ 3 * a.length := by
  induction a with
  | nil => simp [givs]
  | cons x a ih => have := inside_len x.toNat; simp [givs] at ih ⊢; omega
theorem nI_zg (l : List Nat) : l.map nI = (zg l).map .int := by simp [zg, nI, Function.comp_def]
theorem gLenSetN {l : List Nat} (h : l.length ≤ 4000) : gLenSet [.list (l.map nI)] = some (.fz (nI (fmet (zg l)).length)) := by
  rw [nI_zg]
  simp only [gLenSet, intsOf_map]
  rw [if_pos (by simpa [zg] using h)]
  rfl
def totO (R : List (List Int)) (a : List Int) : PyData := if (fmet (zg (givs a))).length = (givs a).length then .int (tot R a) else .none
theorem total_fn {m : Nat} {R : List (List Int)} (h : Rm m R) {a : List Int} (ha : Row R.length m a) : Fn F_total [rmD R, tupI a] (totO R a) := by
  have h4 := h.n4
  have al := ha.1
  have tw2 := tw m
  refine w_fn (w_then (s_check_room h (i := 0) rfl) ?_)
  have T1 := t_or (e := [.fz (rmD R), .fz (tupI a), .un, .un]) (t_not (b := true) (t_truth (a_B1 (g := gIsi "tuple") (x := tupI a) (z := .bool true) (a_var (i := 1) rfl).a rfl).a)) fun _ => t_truth (a_B2 (g := gNe) (a_B1 (g := gLen) (z := nI R.length) (a_var (i := 1) rfl).a (by rw [tupI, gLenT, List.length_map, al])).a (a_B1 (g := gLen) (a_var (i := 0) rfl).a gLenR).a (gNeI _ _)).a
  rw [decide_eq_true rfl] at T1
  refine w_then (s_if_skip T1) ?_
  have a1 := a_map (t := .nm 3) (vs := [3]) (di := dIt gSeq [(dVar 1)]) (te := dCall F_is_integer [(dVar 3), (dC (.int 0)), (dB gSub [(dB gLen [(dB gIx [(dVar 0), (dC (.int 0))])]), (dC (.int 1))])]) (e := [.fz (rmD R), .fz (tupI a), .un, .un]) PyData.int (fun _ => .bool true) a (i_seqT (a_var rfl)) (fun v => [.fz (rmD R), .fz (tupI a), .un, .fz (.int v)]) rfl fun v hv => ⟨rfl, rfl, ?_⟩
  · have a2 := a_B1 (g := gAll) a1.a (by have := gAllL (a.map fun _ => true); rwa [List.map_map] at this)
    rw [show (a.map fun _ => true).all id = true by simp] at a2
    refine w_then (s_if_skip (t_not (t_truth a2.a))) ?_
    refine w_then (e1 := [.fz (rmD R), .fz (tupI a), .own (.l []), .un]) (s_setL (i := 2) .nil) ?_
    refine w_seq (w_forI PyData.int (fun done e => ∃ x3, e = [.fz (rmD R), .fz (tupI a), .own (.l ((givs done).map nI)), x3]) a (i_seqT (a_var (i := 1) rfl)) ⟨_, rfl⟩ ?_ ?_)
    · rintro done s rest _ hd ⟨x3, rfl⟩
      have hs := ha.2 s (by rw [hd]; simp)
      obtain ⟨k, rfl⟩ := Int.eq_ofNat_of_zero_le hs.1
      have hdl : done.length < a.length := by have := congrArg List.length hd; simp at this; omega
      have g1 := givs_len done
      have g2 := inside_len k
      refine ⟨_, rfl, w_ok (s_ext (i := 2) rfl (by simp; omega) (a_call (.cons (a_var (i := 3) rfl) .nil) (things_in_fn k))) ⟨rfl, .fz (nI k), ?_⟩⟩
      rw [show givs (done ++ [(k : Int)]) = givs done ++ inside k by simp [givs], List.map_append]
      rfl
    · rintro _ ⟨x3, rfl⟩
      refine ⟨fun _ => ?_, fun r hr => by cases hr⟩
      have g1 := givs_len a
      have T := t_truth (a_B2 (g := gEq) (e := [.fz (rmD R), .fz (tupI a), .own (.l ((givs a).map nI)), x3]) (a_B1 (g := gLenSet) (a_own (i := 2) rfl) (gLenSetN (by omega))).a (a_B1 (g := gLen) (z := nI (givs a).length) (a_own (i := 2) rfl) (by rw [gLenL, List.length_map])).a (gEqN _ _)).a
      refine w_ret (x := totO R a) (a_ife T (fun c => ?_) (fun c => ?_)) fun r hr => ⟨rfl, r, rfl, .inl hr⟩
      · rw [totO, if_pos (of_decide_eq_true c)]
        exact a_call (.cons (a_var (i := 0) rfl) (.cons (a_var (i := 1) rfl) .nil)) (total_of_fn (fun b hb => (h.bid b hb).len) ha)
      · rw [totO, if_neg (of_decide_eq_false c)]; exact a_c
  · have hp := Nat.two_pow_pos m
    have hv := ha.2 v hv
    have := a_call (e := [.fz (rmD R), .fz (tupI a), .un, .fz (.int v)]) (.cons (a_var (i := 3) rfl) (.cons (a_c (x := .int 0)) (.cons (a_B2 (g := gSub) (a_size0 h (i := 0) rfl).a (a_c (x := nI 1)).a (gSubN (by omega))) .nil))) (is_integer_fn v 0 _)
    rw [show (decide ((0 : Int) ≤ v) && decide (v ≤ ((2 ^ m - 1 : Nat) : Int))) = true by rw [Bool.and_eq_true]; exact ⟨decide_eq_true hv.1, decide_eq_true (by omega)⟩] at this
    exact this
end DL

/-! N0: rules for an evaluation by search; what raises. -/
namespace DL
open PySem PySem.Spec PyProof.Rows L2
/-- an operator's answer -/
def GO (o : Option Out) (z : PyData) : Prop := o = some (.fz z) ∨ ∃ zs, z = .list zs ∧ o = some (.nl zs)
theorem go_fz {o : Option Out} {z : PyData} (h : o = some (.fz z)) : GO o z := .inl h
theorem go_nl {o : Option Out} {zs : List PyData} (h : o = some (.nl zs)) : GO o (.list zs) := .inr ⟨zs, rfl, h⟩
theorem b_1 {g : List PyData → Option Out} {a : Dn Rv} {e : List Sl} {x z : PyData} (h : A a e x) (hg : GO (g [x]) z) : Af (dB g [a]) e z := by
  rcases hg with hg | ⟨zs, rfl, hg⟩
  · exact a_B1 h hg
  · exact a_B1l h hg
theorem b_2 {g : List PyData → Option Out} {a b : Dn Rv} {e : List Sl} {x y z : PyData} (h : A a e x) (h2 : A b e y) (hg : GO (g [x, y]) z) : Af (dB g [a, b]) e z := by
  rcases hg with hg | ⟨zs, rfl, hg⟩
  · exact a_B2 h h2 hg
  · exact a_B2l h h2 hg
theorem te_is {t : Dn Bool} {e : List Sl} {b c : Bool} (h : Te t e b) (hb : b = c) : Te t e c := hb ▸ h
theorem af_is {d : Dn Rv} {e : List Sl} {x y : PyData} (h : Af d e x) (hb : x = y) : Af d e y := hb ▸ h
theorem fn_is {F : Dn Rv} {xs : List PyData} {x y : PyData} (h : Fn F xs x) (hb : x = y) : Fn F xs y := hb ▸ h
theorem a_ife1 {t : Dn Bool} {a b : Dn Rv} {e : List Sl} {c : Bool} {x y : PyData} (h : Te t e c) (h1 : Af a e x) (h2 : Af b e y) : Af (dIfE t a b) e (if c = true then x else y) := by
  refine a_ife h (fun hc => ?_) fun hc => ?_
  · rw [if_pos hc]; exact h1
  · rw [if_neg (by rw [hc]; decide)]; exact h2
/-! ### what raises -/
def FnX (F : Dn Rv) (xs : List PyData) (c : Str) : Prop := F (xs.map .fz) = .ex c (xs.map .fz)
theorem x_call {F : Dn Rv} {ds : List (Dn Rv)} {e : List Sl} {xs : List PyData} {c : Str} (h : Afs ds e xs) (hF : FnX F xs c) : dCall F ds e = .ex c e := by
  unfold FnX at hF
  simp only [dCall, bnd, afs_eq h, dCl, noTwice_fz, slotsOf_fz, hF, if_true, back_fz]
theorem x_fn {np nl : Nat} {B : Dn Fl} {xs : List PyData} {c : Str} {e : List Sl} (h : B (xs.map .fz ++ List.replicate nl .un) = .ex c e) (ht : e.take np = xs.map .fz) : FnX (fnD np nl B) xs c := by
  unfold FnX fnD; rw [h]; simp only [ht]
theorem x_expr {d : Dn Rv} {e e1 : List Sl} {c : Str} (h : d e = .ex c e1) : dExpr d e = .ex c e1 := by simp only [dExpr, bnd, h]
theorem x_ret {d : Dn Rv} {e e1 : List Sl} {c : Str} (h : d e = .ex c e1) : dRet d e = .ex c e1 := by simp only [dRet, bnd, h]
theorem x_seq1 {a b : Dn Fl} {e e1 : List Sl} {c : Str} (h : a e = .ex c e1) : dSeq a b e = .ex c e1 := by simp only [dSeq, bnd, h]
theorem x_seq2 {a b : Dn Fl} {e e1 e2 : List Sl} {c : Str} (h : a e = .ok .nx e1) (h2 : b e1 = .ex c e2) : dSeq a b e = .ex c e2 := by simp only [dSeq, bnd, h, h2]
theorem x_if {t : Dn Bool} {a b : Dn Fl} {e : List Sl} (h : Te t e true) : dIfS t a b e = a e := by unfold Te at h; simp only [dIfS, bnd, h, if_true]
theorem x_ifF {t : Dn Bool} {a b : Dn Fl} {e : List Sl} (h : Te t e false) : dIfS t a b e = b e := by unfold Te at h; simp only [dIfS, bnd, h]; rfl
theorem x_raise {t : Dn Bool} {b : Dn Fl} {e : List Sl} {c : Str} (h : Te t e true) : dIfS t (dRaise c) b e = .ex c e := x_if h
/-! ### try -/
theorem try_ok {np nl i : Nat} {B : Dn Fl} {xs : List PyData} {y : PyData} (h : Fn (fnD np nl B) xs y) : Fn (fnD np nl (dTry i B)) xs y := by
  obtain ⟨r, h1, h2⟩ := h
  refine ⟨r, ?_, h2⟩
  unfold fnD at h1 ⊢
  cases e : B (xs.map .fz ++ List.replicate nl .un) with
  | ok f e' => rw [e] at h1; simp only [dTry, e]; exact h1
  | ex c e' => rw [e] at h1; cases h1
  | bad => rw [e] at h1; cases h1
theorem try_ex {np nl i j : Nat} {B : Dn Fl} {xs : List PyData} {c : Str} (h : FnX (fnD np nl B) xs c) (hi : ∀ e, B (xs.map .fz ++ List.replicate nl .un) = .ex c e → i < e.length) (hj : whichIx c = some j) : Fn (fnD np nl (dTry i B)) xs (raisedD j) := by
  refine ⟨.fz (raisedD j), ?_, rfl⟩
  unfold FnX fnD at h
  unfold fnD
  cases e : B (xs.map .fz ++ List.replicate nl .un) with
  | ok f e' =>
    rw [e] at h
    cases f with
    | nx => cases h
    | rt r =>
      cases r with
      | fz d => cases h
      | nw c => cases h
      | bor i =>
        simp only [fnEnd] at h
        split at h
        · cases h
        · split at h <;> cases h
        · cases h
  | bad => rw [e] at h; cases h
  | ex c' e' =>
    rw [e] at h
    have hc : c' = c ∧ List.take np e' = xs.map .fz := by
      injection h with h1 h2
      exact ⟨h1, h2⟩
    obtain ⟨rfl, ht⟩ := hc
    simp only [dTry, e, hj, hi e' e, if_true, fnEnd, ht]
/-- the def: try: return f(..) -/
theorem try_call {np nl i j : Nat} {F : Dn Rv} {ds : List (Dn Rv)} {xs ys : List PyData} {c : Str} (ha : Afs ds (xs.map .fz ++ List.replicate nl .un) ys) (hF : FnX F ys c) (hn : xs.length = np) (hi : i < np + nl) (hj : whichIx c = some j) : Fn (fnD np nl (dTry i (dRet (dCall F ds)))) xs (raisedD j) := by
  have h := x_ret (x_call ha hF)
  exact try_ex (x_fn h (by simp [← hn])) (fun e he => by rw [h] at he; cases he; simp; omega) hj
theorem try_callOk {np nl i : Nat} {F : Dn Rv} {ds : List (Dn Rv)} {xs ys : List PyData} {y : PyData} (ha : Afs ds (xs.map .fz ++ List.replicate nl .un) ys) (hF : Fn F ys y) (hn : xs.length = np) : Fn (fnD np nl (dTry i (dRet (dCall F ds)))) xs y :=
  try_ok (fn_ret hn (a_call ha hF))
end DL

/-! N1: the checks at any data. -/
namespace DL
open PySem PySem.Spec PyProof.Rows L2
local macro_rules | `(tactic| walk_at "G") => `(tactic| first | (with_reducible assumption) | exact go_fz gAddN | exact go_fz (gSubN (by omega)) | exact go_fz gLtN | exact go_fz (gEqN _ _) | exact go_fz (gEqI _ _) | exact go_fz (gNeI _ _) | exact go_fz (gEqT _ _) | exact go_fz (gNeT _ _) | exact go_fz (gEqIs _ _) | exact go_fz (gNeIs _ _) | exact go_fz (gEqR _ _) | exact go_fz (gNeR _ _) | exact go_fz (gEqB _ _) | exact go_fz (gNeB _ _) | exact go_fz (gMaxI2 _ _) | exact go_fz (gMinI _ _) | exact go_fz gLenR | exact go_fz (gLenT _) | exact go_fz (gLenL _) | exact go_fz gInN | exact go_fz rfl | exact go_nl rfl)
local macro_rules | `(tactic| walk_at "As") => `(tactic| first | (with_reducible exact Afs.nil) | ((with_reducible refine' Afs.cons ?h1 ?h2); (case h1 => walk_at "A"); (case h2 => walk_at "As")))
local macro_rules | `(tactic| walk_at "V") => `(tactic| first | (with_reducible assumption) | ((with_reducible refine' a_own ?h); (case h => exact rfl)) | ((with_reducible refine' Af.a ?h); (case h => walk_at "A")))
local macro_rules | `(tactic| walk_at "F") => `(tactic| first | (with_reducible assumption) | assumption)
local macro_rules | `(tactic| walk_at "A") => `(tactic| first | (with_reducible assumption) | ((with_reducible refine' a_var ?h); (case h => exact rfl)) | (with_reducible exact a_c) | ((with_reducible refine' a_call ?h1 ?h2); (case h1 => walk_at "As"); (case h2 => walk_at "F")) | ((with_reducible refine' a_tup ?h); (case h => walk_at "As")) | ((with_reducible refine' a_lst ?h); (case h => walk_at "As")) | ((with_reducible refine' b_1 ?h1 ?h2); (case h1 => walk_at "V"); (case h2 => walk_at "G")) | ((with_reducible refine' b_2 ?h1 ?h2 ?h3); (case h1 => walk_at "V"); (case h2 => walk_at "V"); (case h3 => walk_at "G")) | ((with_reducible refine' a_and ?h1 (fun _ => ?h2)); (case h1 => walk_at "V"); (case h2 => walk_at "A")) | ((with_reducible refine' a_or ?h1 (fun _ => ?h2)); (case h1 => walk_at "V"); (case h2 => walk_at "A")) | ((with_reducible refine' a_not ?h1); (case h1 => walk_at "V")) | ((with_reducible refine' a_ife1 ?h1 ?h2 ?h3); (case h1 => walk_at "T"); (case h2 => walk_at "A"); (case h3 => walk_at "A")) | ((with_reducible refine' a_chain ?h1 ?h2 ?h3 ?h4 ?h5); (case h1 => walk_at "A"); (case h2 => walk_at "A"); (case h3 => walk_at "A"); (case h4 => exact rfl); (case h5 => exact rfl)))
local macro_rules | `(tactic| walk_at "T") => `(tactic| first | (with_reducible assumption) | ((with_reducible refine' t_truth ?h); (case h => walk_at "V")) | ((with_reducible refine' t_not ?h); (case h => walk_at "T")) | ((with_reducible refine' t_or ?h1 (fun _ => ?h2)); (case h1 => walk_at "T"); (case h2 => walk_at "T")) | ((with_reducible refine' t_and ?h1 (fun _ => ?h2)); (case h1 => walk_at "T"); (case h2 => walk_at "T")) | (with_reducible exact t_yes))

def isIB (lo hi : Int) : PyData → Bool
  | .int v => decide (lo ≤ v) && decide (v ≤ hi)
  | _ => false
theorem is_integer_any (d : PyData) (lo hi : Int) : Fn F_is_integer [d, .int lo, .int hi] (.bool (isIB lo hi d)) := by
  cases d with
  | int v => exact is_integer_fn v lo hi
  | bool b =>
    refine fn_ret rfl ?_
    refine af_is (a_and (x := true) (y := false) (a_B1 (a_var (i := 0) rfl).a rfl).a (fun _ => a_and (x := false) (y := false) (a_not (x := true) (a_B1 (a_var (i := 0) rfl).a rfl).a).a (fun h => by cases h))) rfl
  | _ =>
    refine fn_ret rfl ?_
    refine af_is (a_and (x := false) (y := false) (a_B1 (a_var (i := 0) rfl).a rfl).a (fun h => by cases h)) rfl
/-- all([is_integer(one, lo, hi) for one in d]) -/
theorem all_ints {lo hi : Int} {ds : List PyData} {e : List Sl} {v i : Nat} {dl dh : Dn Rv} (hr : restE e (wipeE e [v]) [v] = e) (hv : v < e.length) (hiv : i ≠ v) (hd : e[i]? = some (.tuple ds |> Sl.fz))
    (hl : ∀ x, Af dl ((e.set v .un).set v (.fz x)) (.int lo)) (hh : ∀ x, Af dh ((e.set v .un).set v (.fz x)) (.int hi)) :
    Af (dB gAll [(dComp (dIt gSeq [(dVar i)]) (.nm v) dYes (dCall F_is_integer [(dVar v), dl, dh]) [v])]) e (.bool (ds.all (isIB lo hi))) := by
  have a1 := a_map (t := .nm v) (vs := [v]) (di := dIt gSeq [(dVar i)]) (te := dCall F_is_integer [(dVar v), dl, dh]) (e := e) id (fun x => .bool (isIB lo hi x)) ds (by rw [List.map_id]; exact i_seqT (a_var hd)) (fun x => (e.set v .un).set v (.fz x)) hr fun x hx => ⟨rfl, by simp [wipeE], a_call (.cons (a_var (by simp [hv])) (.cons (hl x) (.cons (hh x) .nil))) (is_integer_any x lo hi)⟩
  have := gAllL (ds.map (isIB lo hi))
  rw [List.map_map, List.all_map] at this
  exact a_B1 a1.a this

theorem w_forT {α : Type} {d : Dn (List PyData)} {t : Tg} {body : Dn Fl} {e : List Sl} {Q : Fl → List Sl → Prop} (b : PyData) (emb : α → PyData) (I : List Sl → Prop) (test : α → Bool) (xs : List α) (hd : d e = .ok (xs.map emb) e) (h : I e)
    (hs : ∀ x e, x ∈ xs → I e → ∃ e1, tgD t (emb x) e = .ok () e1 ∧ W (body e1) fun f e2 => I e2 ∧ (test x = false → f = .nx) ∧ (test x = true → f = .rt (.fz b)))
    (q1 : xs.any test = false → ∀ e', I e' → Q .nx e') (q2 : xs.any test = true → ∀ e', I e' → Q (.rt (.fz b)) e') : W (dFor d t body e) Q := by
  simp only [dFor, bnd, hd]
  clear hd
  induction xs generalizing e with
  | nil => exact q1 rfl e h
  | cons x xs ih =>
    obtain ⟨e1, h1, h2⟩ := hs x e (List.mem_cons_self ..) h
    simp only [List.map_cons, forL, bnd, h1]
    cases hb : body e1 with
    | ok f e2 =>
      rw [hb] at h2
      obtain ⟨i2, n, y⟩ := h2
      cases c : test x with
      | false =>
        cases n c
        exact ih i2 (fun z e hz hi => hs z e (List.mem_cons_of_mem _ hz) hi) (fun h => q1 (by simp [c, h])) (fun h => q2 (by simp [c, h]))
      | true =>
        cases y c
        exact q2 (by simp [c]) e2 i2
    | ex c e => rw [hb] at h2; exact h2.elim
    | bad => rw [hb] at h2; exact h2.elim
/-- a set has a greater worth than one with one more thing -/
def risX (v : List Int) : Bool := (List.range v.length).any fun s => (List.range 3).any fun t => decide (2 ^ t < v.length) && (decide (t ∉ inside s) && decide (v.getD (s + 2 ^ t) 0 < v.getD s 0))
theorem rises_any {k : Nat} (hk : k ≤ 3) {v : List Int} (hl : v.length = 2 ^ k) : Fn F_rises [tupI v] (.bool (!risX v)) := by
  have h8 : v.length ≤ 8 := by rw [hl]; exact pow8 hk
  refine w_fn (w_seq (w_forT (.bool false) nI (fun e => ∃ a b' c, e = [.fz (tupI v), a, b', c]) (fun s => (List.range 3).any fun t => decide (2 ^ t < v.length) && (decide (t ∉ inside s) && decide (v.getD (s + 2 ^ t) 0 < v.getD s 0))) (List.range v.length) ?_ ⟨_, _, _, rfl⟩ ?_ ?_ ?_))
  · exact i_rng1 (by omega) (a_B1 (a_var (i := 0) rfl).a (by rw [tupI, gLenT, List.length_map]; rfl))
  · rintro s _ hs ⟨x, y, z, rfl⟩
    have hs := List.mem_range.1 hs
    refine ⟨_, rfl, w_forT (.bool false) nI (fun e => ∃ b' c, e = [.fz (tupI v), .fz (nI s), b', c]) (fun t => decide (2 ^ t < v.length) && (decide (t ∉ inside s) && decide (v.getD (s + 2 ^ t) 0 < v.getD s 0))) (List.range 3) (i_rng1 (by decide) a_c) ⟨_, _, rfl⟩ ?_ ?_ ?_⟩
    · rintro t _ ht ⟨y, z, rfl⟩
      have ht := List.mem_range.1 ht
      refine ⟨_, rfl, ?_⟩
      refine w_then (s_setF' (a_power (i := 2) ht rfl)) ?_
      have T1 : Te (dTruth (dB gLt [(dVar 3), (dB gLen [(dVar 0)])])) [.fz (tupI v), .fz (nI s), .fz (nI t), .fz (nI (2 ^ t))] (decide (2 ^ t < v.length)) := t_truth (a_B2 (a_var (i := 3) rfl).a (a_B1 (a_var (i := 0) rfl).a (gLenT _)).a (by rw [List.length_map]; exact gLtN)).a
      have T2 : Te (dTruth (dB gNotIn [(dVar 2), (dCall F_things_in [(dVar 1)])])) [.fz (tupI v), .fz (nI s), .fz (nI t), .fz (nI (2 ^ t))] (decide (t ∉ inside s)) := t_truth (a_B2 (a_var (i := 2) rfl).a (a_call (.cons (a_var (i := 1) rfl) .nil) (things_in_fn s)).a gNotInI).a
      refine w_if (c := decide (2 ^ t < v.length) && (decide (t ∉ inside s) && decide (v.getD (s + 2 ^ t) 0 < v.getD s 0))) (t_and T1 fun c1 => t_and T2 fun c2 => ?_) (fun h => w_ret a_c fun r hr => ⟨⟨_, _, rfl⟩, (fun z => by rw [h] at z; cases z), fun _ => by rw [rx_true hr]⟩) (fun h => w_next ⟨⟨_, _, rfl⟩, fun _ => rfl, (fun z => by rw [h] at z; cases z)⟩)
      have c1 := of_decide_eq_true c1
      have c2 := of_decide_eq_true c2
      have htm : t < k := by
        rw [hl] at c1
        exact (Nat.pow_lt_pow_iff_right (by decide)).1 c1
      have hz : s / 2 ^ t % 2 = 0 := by rw [mem_inside ht] at c2; omega
      have hlt : s + 2 ^ t < v.length := by
        rw [hl] at hs ⊢
        have q1 : t = 0 ∨ t = 1 ∨ t = 2 := by omega
        have q2 : k = 1 ∨ k = 2 ∨ k = 3 := by omega
        clear T1 T2 c1 h8 c2 hl
        rcases q1 with rfl | rfl | rfl <;> rcases q2 with rfl | rfl | rfl <;> simp at hs hz htm ⊢ <;> omega
      exact t_truth (a_B2 (a_B2 (a_var (i := 0) rfl).a (a_var (i := 1) rfl).a (ws_ix hs)).a (a_B2 (a_var (i := 0) rfl).a (a_B2 (a_var (i := 1) rfl).a (a_var (i := 3) rfl).a gAddN).a (ws_ix hlt)).a gGtI).a
    · rintro h _ ⟨_, _, rfl⟩
      exact ⟨⟨_, _, _, rfl⟩, fun _ => rfl, fun z => by rw [h] at z; cases z⟩
    · rintro h _ ⟨_, _, rfl⟩
      exact ⟨⟨_, _, _, rfl⟩, fun z => (by rw [h] at z; cases z), fun _ => rfl⟩
  · rintro h _ ⟨_, _, _, rfl⟩
    refine ⟨fun _ => w_ret a_c fun r hr => ⟨rfl, r, rfl, .inl ?_⟩, fun r hr => by cases hr⟩
    rw [show risX v = false from h]; exact hr
  · rintro h _ ⟨_, _, _, rfl⟩
    refine ⟨(fun z => by cases z), fun r hr => ?_⟩
    cases hr
    refine ⟨rfl, _, rfl, .inl ?_⟩
    rw [show risX v = true from h]; rfl
def intD : PyData → Int
  | .int v => v
  | _ => 0
theorem ints_of_all {lo hi : Int} : ∀ {ds : List PyData}, ds.all (isIB lo hi) = true → ds = (ds.map intD).map .int ∧ ∀ v ∈ ds.map intD, lo ≤ v ∧ v ≤ hi
  | [], _ => ⟨rfl, by simp⟩
  | d :: ds, h => by
    rw [List.all_cons, Bool.and_eq_true] at h
    obtain ⟨h1, h2⟩ := ints_of_all h.2
    cases d with
    | int v =>
      have hv : lo ≤ v ∧ v ≤ hi := by have := h.1; simp [isIB] at this; exact this
      refine ⟨by rw [List.map_cons, List.map_cons, ← h1]; rfl, fun w hw => ?_⟩
      rcases List.mem_cons.1 hw with rfl | hw
      · exact hv
      · exact h2 w hw
    | _ => simp [isIB] at h
def bidB (k : Nat) : PyData → Bool
  | .tuple ds => decide (ds.length = 2 ^ k) && (ds.all (isIB 0 9) && (decide ((ds.map intD).getD 0 0 = 0) && !risX (ds.map intD)))
  | _ => false
theorem isTup_of {d : PyData} (h : isTy "tuple" d = true) : ∃ ds, d = .tuple ds := by
  cases d with
  | tuple ds => exact ⟨ds, rfl⟩
  | _ => exact absurd (show false = true from h) (by decide)
theorem ret_false {np : Nat} {xs : List PyData} {e : List Sl} {b : Bool} (ht : e.take np = xs.map .fz) (hb : b = false) {Q : Fl → List Sl → Prop} (hQ : ∀ f e', (e'.take np = xs.map .fz ∧ ∃ r, f = .rt r ∧ (Rx [] r (.bool b) ∨ ∃ i ys, r = .bor i ∧ np ≤ i ∧ e'[i]? = some (.own (.l ys)) ∧ PyData.bool b = .list ys)) → Q f e') : W (dRet (dC (.bool false)) e) Q :=
  w_ret a_c fun r hr => hQ _ _ ⟨ht, r, rfl, .inl (by rw [hb]; exact hr)⟩
theorem bids_for_any {k : Nat} (k1 : 1 ≤ k) (k3 : k ≤ 3) (d : PyData) : Fn F_bids_for [d, nI (2 ^ k)] (.bool (bidB k d)) := by
  refine w_fn ?_
  by_cases ht : isTy "tuple" d = true
  case neg =>
    have hb : bidB k d = false := by cases d <;> first | rfl | exact absurd rfl ht
    have ht : isTy "tuple" d = false := by simpa using ht
    refine w_seq (w_if (c := true) (t_orT (t_not (b := false) (t_truth (a_B1 (a_var (i := 0) rfl).a (by show some (Out.fz (.bool (isTy "tuple" d))) = _; rw [ht])).a))) (fun _ => ?_) (fun h => by cases h))
    exact w_ret a_c fun r hr => ⟨fun h => (by cases h), fun r' h => by cases h; exact ⟨rfl, r, rfl, .inl (by rw [hb]; exact hr)⟩⟩
  case pos =>
    obtain ⟨ds, rfl⟩ : ∃ ds, d = .tuple ds := isTup_of ht
    have T1 : Te (dNotT (dTruth (dB (gIsi "tuple") [(dVar 0)]))) [.fz (.tuple ds), .fz (nI (2 ^ k)), .un] false := t_not (b := true) (t_truth (a_B1 (a_var (i := 0) rfl).a rfl).a)
    have T2 : Te (dTruth (dB gNe [(dB gLen [(dVar 0)]), (dVar 1)])) [.fz (.tuple ds), .fz (nI (2 ^ k)), .un] (!decide (ds.length = 2 ^ k)) := by
      have := t_truth (a_B2 (g := gNe) (e := [.fz (.tuple ds), .fz (nI (2 ^ k)), .un]) (a_B1 (a_var (i := 0) rfl).a (gLenT _)).a (a_var (i := 1) rfl).a (gNeI _ _)).a
      rwa [show decide (((ds.length : Nat) : Int) = ((2 ^ k : Nat) : Int)) = decide (ds.length = 2 ^ k) by rw [decide_eq_decide, Int.natCast_inj]] at this
    have T3 : Te (dNotT (dTruth (dB gAll [(dComp (dIt gSeq [(dVar 0)]) (.nm 2) dYes (dCall F_is_integer [(dVar 2), (dC (.int 0)), (dC (.int 9))]) [2])]))) [.fz (.tuple ds), .fz (nI (2 ^ k)), .un] (!ds.all (isIB 0 9)) :=
      t_not (t_truth (all_ints (lo := 0) (hi := 9) (ds := ds) (i := 0) (v := 2) rfl (by show 2 < 3; decide) (by decide) rfl (fun _ => a_c) (fun _ => a_c)).a)
    have T := t_or T1 fun _ => t_or T2 fun _ => T3
    by_cases c1 : ds.length = 2 ^ k
    case neg =>
      rw [decide_eq_false c1] at T
      refine w_seq (w_if T (fun _ => ?_) (fun h => by cases h))
      have hb : bidB k (.tuple ds) = false := by show (decide _ && _) = false; rw [decide_eq_false c1]; rfl
      exact w_ret a_c fun r hr => ⟨fun h => (by cases h), fun r' h => by cases h; exact ⟨rfl, r, rfl, .inl (by rw [hb]; exact hr)⟩⟩
    case pos =>
      cases c2 : ds.all (isIB 0 9) with
      | false =>
        rw [decide_eq_true c1, c2] at T
        refine w_seq (w_if T (fun _ => ?_) (fun h => by cases h))
        have hb : bidB k (.tuple ds) = false := by show (decide _ && (ds.all (isIB 0 9) && _)) = false; rw [c2, Bool.false_and, Bool.and_false]
        exact w_ret a_c fun r hr => ⟨fun h => (by cases h), fun r' h => by cases h; exact ⟨rfl, r, rfl, .inl (by rw [hb]; exact hr)⟩⟩
      | true =>
        rw [decide_eq_true c1, c2] at T
        refine w_then (s_if_skip T) ?_
        obtain ⟨e1, e2⟩ := ints_of_all c2
        have hl : (ds.map intD).length = 2 ^ k := by rw [List.length_map, c1]
        have h0 : 0 < (ds.map intD).length := by rw [hl]; exact Nat.pow_pos (by decide)
        have R := rises_any k3 hl
        have e3 : PyData.tuple ds = tupI (ds.map intD) := by unfold tupI; rw [← e1]
        have a1 := a_and (e := [.fz (tupI (ds.map intD)), .fz (nI (2 ^ k)), .un]) (a_B2 (g := gEq) (a_B2 (g := gIx) (a_var (i := 0) rfl).a (a_c (x := nI 0)).a (ws_ix h0)).a (a_c (x := .int 0)).a (gEqI _ _)).a fun _ => a_call (.cons (a_var (i := 0) rfl) .nil) R
        rw [e3]
        refine w_ret a1 fun r hr => ⟨rfl, r, rfl, .inl ?_⟩
        have hb : bidB k (tupI (ds.map intD)) = (decide ((ds.map intD).getD 0 0 = 0) && !risX (ds.map intD)) := by
          rw [← e3]
          show (decide _ && (ds.all (isIB 0 9) && _)) = _
          rw [c2, decide_eq_true c1]; rfl
        rw [hb]
        exact hr
end DL

/-! N2: rooms, groups, bidders, prices at any data. -/
namespace DL
open PySem PySem.Spec PyProof.Rows L2
local macro_rules | `(tactic| walk_at "G") => `(tactic| first | (with_reducible assumption) | exact go_fz gAddN | exact go_fz (gSubN (by omega)) | exact go_fz gLtN | exact go_fz (gEqN _ _) | exact go_fz (gEqI _ _) | exact go_fz (gNeI _ _) | exact go_fz (gEqT _ _) | exact go_fz (gNeT _ _) | exact go_fz (gEqIs _ _) | exact go_fz (gNeIs _ _) | exact go_fz (gEqR _ _) | exact go_fz (gNeR _ _) | exact go_fz (gEqB _ _) | exact go_fz (gNeB _ _) | exact go_fz (gMaxI2 _ _) | exact go_fz (gMinI _ _) | exact go_fz gLenR | exact go_fz (gLenT _) | exact go_fz (gLenL _) | exact go_fz gInN | exact go_fz rfl | exact go_nl rfl)
local macro_rules | `(tactic| walk_at "As") => `(tactic| first | (with_reducible exact Afs.nil) | ((with_reducible refine' Afs.cons ?h1 ?h2); (case h1 => walk_at "A"); (case h2 => walk_at "As")))
local macro_rules | `(tactic| walk_at "V") => `(tactic| first | (with_reducible assumption) | ((with_reducible refine' a_own ?h); (case h => exact rfl)) | ((with_reducible refine' Af.a ?h); (case h => walk_at "A")))
local macro_rules | `(tactic| walk_at "F") => `(tactic| first | (with_reducible assumption) | assumption)
local macro_rules | `(tactic| walk_at "A") => `(tactic| first | (with_reducible assumption) | ((with_reducible refine' a_var ?h); (case h => exact rfl)) | (with_reducible exact a_c) | ((with_reducible refine' a_call ?h1 ?h2); (case h1 => walk_at "As"); (case h2 => walk_at "F")) | ((with_reducible refine' a_tup ?h); (case h => walk_at "As")) | ((with_reducible refine' a_lst ?h); (case h => walk_at "As")) | ((with_reducible refine' b_1 ?h1 ?h2); (case h1 => walk_at "V"); (case h2 => walk_at "G")) | ((with_reducible refine' b_2 ?h1 ?h2 ?h3); (case h1 => walk_at "V"); (case h2 => walk_at "V"); (case h3 => walk_at "G")) | ((with_reducible refine' a_and ?h1 (fun _ => ?h2)); (case h1 => walk_at "V"); (case h2 => walk_at "A")) | ((with_reducible refine' a_or ?h1 (fun _ => ?h2)); (case h1 => walk_at "V"); (case h2 => walk_at "A")) | ((with_reducible refine' a_not ?h1); (case h1 => walk_at "V")) | ((with_reducible refine' a_ife1 ?h1 ?h2 ?h3); (case h1 => walk_at "T"); (case h2 => walk_at "A"); (case h3 => walk_at "A")) | ((with_reducible refine' a_chain ?h1 ?h2 ?h3 ?h4 ?h5); (case h1 => walk_at "A"); (case h2 => walk_at "A"); (case h3 => walk_at "A"); (case h4 => exact rfl); (case h5 => exact rfl)))
local macro_rules | `(tactic| walk_at "T") => `(tactic| first | (with_reducible assumption) | ((with_reducible refine' t_truth ?h); (case h => walk_at "V")) | ((with_reducible refine' t_not ?h); (case h => walk_at "T")) | ((with_reducible refine' t_or ?h1 (fun _ => ?h2)); (case h1 => walk_at "T"); (case h2 => walk_at "T")) | ((with_reducible refine' t_and ?h1 (fun _ => ?h2)); (case h1 => walk_at "T"); (case h2 => walk_at "T")) | (with_reducible exact t_yes))
def roomB : PyData → Bool
  | .tuple ds => (decide (1 ≤ ds.length) && decide (ds.length ≤ 4)) && [1, 2, 3].any fun k => ds.all (bidB k)
  | _ => false
theorem t_isTup {d : PyData} {e : List Sl} {i : Nat} (h : e[i]? = some (.fz d)) : Te (dNotT (dTruth (dB (gIsi "tuple") [(dVar i)]))) e (!isTy "tuple" d) := t_not (t_truth (a_B1 (a_var h).a rfl).a)
theorem notTup {d : PyData} (h : isTy "tuple" d = false) : ∀ ds, d ≠ .tuple ds := fun ds e => by subst e; exact absurd (show true = false from h) (by decide)
theorem is_room_any (d : PyData) : Fn F_is_room [d] (.bool (roomB d)) := by
  refine w_fn ?_
  have T1 := t_isTup (d := d) (e := [.fz d, .un, .un]) (i := 0) rfl
  cases ht : isTy "tuple" d with
  | false =>
    rw [ht] at T1
    have hb : roomB d = false := by cases d <;> first | rfl | exact absurd rfl (notTup ht _)
    refine w_seq (w_if (c := true) (t_orT T1) (fun _ => ?_) (fun h => by cases h))
    exact w_ret a_c fun r hr => ⟨fun h => (by cases h), fun r' h => by cases h; exact ⟨rfl, r, rfl, .inl (by rw [hb]; exact hr)⟩⟩
  | true =>
    obtain ⟨ds, rfl⟩ := isTup_of ht
    rw [ht] at T1
    have T2 := t_not (t_truth (a_chain (e := [.fz (.tuple ds), .un, .un]) (g := gLe) (g' := gLe) (a_c (x := .int 1)) (a_B1 (g := gLen) (a_var (i := 0) rfl).a (gLenT _)) (a_c (x := .int 4)) rfl rfl).a)
    have e2 : (decide ((1 : Int) ≤ ((ds.length : Nat) : Int)) && decide (((ds.length : Nat) : Int) ≤ 4)) = (decide (1 ≤ ds.length) && decide (ds.length ≤ 4)) := by
      congr 1 <;> rw [decide_eq_decide] <;> omega
    have T := t_or T1 fun _ => T2
    rw [e2] at T
    cases c1 : (decide (1 ≤ ds.length) && decide (ds.length ≤ 4)) with
    | false =>
      rw [c1] at T
      refine w_seq (w_if T (fun _ => ?_) (fun h => by cases h))
      have hb : roomB (.tuple ds) = false := by show (_ && _) = false; rw [c1]; rfl
      exact w_ret a_c fun r hr => ⟨fun h => (by cases h), fun r' h => by cases h; exact ⟨rfl, r, rfl, .inl (by rw [hb]; exact hr)⟩⟩
    | true =>
      rw [c1] at T
      refine w_then (s_if_skip T) ?_
      have hb : roomB (.tuple ds) = [1, 2, 3].any fun k => ds.all (bidB k) := by show (_ && _) = _; rw [c1]; rfl
      refine w_seq (w_forT (.bool true) (fun k => nI (2 ^ k)) (fun e => ∃ x, e = [.fz (.tuple ds), x, .un]) (fun k => ds.all (bidB k)) [1, 2, 3] rfl ⟨_, rfl⟩ ?_ ?_ ?_)
      · rintro k _ hk ⟨x, rfl⟩
        refine ⟨_, rfl, ?_⟩
        have hk : 1 ≤ k ∧ k ≤ 3 := by simp at hk; omega
        have a1 := a_map (t := .nm 2) (vs := [2]) (di := dIt gSeq [(dVar 0)]) (te := dCall F_bids_for [(dVar 2), (dVar 1)]) (e := [.fz (.tuple ds), .fz (nI (2 ^ k)), .un]) id (fun x => .bool (bidB k x)) ds (by rw [List.map_id]; exact i_seqT (a_var rfl)) (fun x => [.fz (.tuple ds), .fz (nI (2 ^ k)), .fz x]) rfl fun x hx => ⟨rfl, rfl, a_call (.cons (a_var rfl) (.cons (a_var rfl) .nil)) (bids_for_any hk.1 hk.2 x)⟩
        have a2 := gAllL (ds.map (bidB k))
        rw [List.map_map, List.all_map] at a2
        refine w_if (t_truth (a_B1 a1.a a2).a) (fun h => w_ret a_c fun r hr => ⟨⟨_, rfl⟩, (fun z => by rw [show ds.all (bidB k) = true from h] at z; cases z), fun _ => by rw [rx_true hr]⟩) (fun h => w_next ⟨⟨_, rfl⟩, fun _ => rfl, (fun z => by rw [show ds.all (bidB k) = false from h] at z; cases z)⟩)
      · rintro h _ ⟨x, rfl⟩
        exact ⟨fun _ => w_ret a_c fun r hr => ⟨rfl, r, rfl, .inl (by rw [hb, h]; exact hr)⟩, fun r hr => by cases hr⟩
      · rintro h _ ⟨x, rfl⟩
        exact ⟨(fun z => by cases z), fun r hr => by cases hr; exact ⟨rfl, _, rfl, .inl (by rw [hb, h]; rfl)⟩⟩
theorem check_room_x {d : PyData} (h : roomB d = false) : FnX F_check_room [d] "InvalidRoom" := by
  have a := t_truth (a_call (e := [.fz d]) (.cons (a_var (i := 0) rfl) .nil) (is_room_any d)).a
  rw [h] at a
  exact x_fn (nl := 0) (x_raise (t_not a)) rfl
theorem x_room {np nl : Nat} {B : Dn Fl} {d : PyData} {xs : List PyData} (hn : xs.length + 1 = np) (h : roomB d = false) : FnX (fnD np nl (dSeq (dExpr (dCall F_check_room [(dVar 0)])) B)) (d :: xs) "InvalidRoom" :=
  x_fn (x_seq1 (x_expr (x_call (.cons (a_var rfl) .nil) (check_room_x h)))) (by simp [← hn])
/-- ascending -/
def upZ : List Int → Bool
  | a :: b :: l => decide (a < b) && upZ (b :: l)
  | _ => true
theorem upZ_zip (ns : List Int) : (ns.zip (ns.drop 1)).all (fun p => decide (p.1 < p.2)) = upZ ns := by
  induction ns with
  | nil => rfl
  | cons a l ih =>
    cases l with
    | nil => rfl
    | cons b l => simp only [List.drop_succ_cons, List.drop_zero, List.zip_cons_cons, List.all_cons, upZ] at ih ⊢; rw [ih]
def grpB (n : Nat) : PyData → Bool
  | .tuple ds => ds.all (isIB 0 ((n : Int) - 1)) && upZ (ds.map intD)
  | _ => false
theorem check_group_x {R : List (List Int)} {d : PyData} (h : grpB R.length d = false) : FnX F_check_group [rmD R, d] "InvalidGroup" := by
  have T1 := t_isTup (d := d) (e := [.fz (rmD R), .fz d, .un, .un]) (i := 1) rfl
  cases ht : isTy "tuple" d with
  | false =>
    rw [ht] at T1
    exact x_fn (x_seq1 (x_raise (t_orT T1))) rfl
  | true =>
    obtain ⟨ds, rfl⟩ := isTup_of ht
    rw [ht] at T1
    have T2 := t_not (t_truth (all_ints (lo := 0) (hi := (R.length : Int) - 1) (e := [.fz (rmD R), .fz (.tuple ds), .un, .un]) (ds := ds) (i := 1) (v := 2) (dl := dC (.int 0)) (dh := dB gSub [(dB gLen [(dVar 0)]), (dC (.int 1))]) rfl (by show 2 < 4; decide) (by decide) rfl (fun _ => a_c) (fun x => a_B2 (a_B1 (a_var (i := 0) rfl).a gLenR).a a_c.a rfl)).a)
    have T := t_or T1 fun _ => T2
    cases c : ds.all (isIB 0 ((R.length : Int) - 1)) with
    | false =>
      rw [c] at T
      exact x_fn (x_seq1 (x_raise T)) rfl
    | true =>
      rw [c] at T
      obtain ⟨e1, e2⟩ := ints_of_all c
      have hu : upZ (ds.map intD) = false := by
        have h : (_ && _) = false := h
        rw [c] at h; exact h
      generalize hns : ds.map intD = ns at e1 e2 hu
      subst e1
      have b1 : Af (dB (gLo gCut) [(dVar 1), (dC (.int 1))]) [.fz (rmD R), .fz (.tuple (ns.map .int)), .un, .un] (.tuple ((ns.drop 1).map .int)) := by
        by_cases hl : 1 ≤ ns.length
        · have := gLoT (ns.map .int) 1 (by simpa using hl)
          rw [← List.map_drop] at this
          exact a_B2 (a_var (i := 1) rfl).a (a_c (x := nI 1)).a this
        · have : ns = [] := List.length_eq_zero_iff.1 (by omega)
          subst this
          exact a_B2 (a_var (i := 1) rfl).a (a_c (x := nI 1)).a rfl
      have a1 := a_map (t := .tp [2, 3]) (vs := [2, 3]) (di := dIt gZip2 [(dVar 1), (dB (gLo gCut) [(dVar 1), (dC (.int 1))])]) (te := dB gLt [(dVar 2), (dVar 3)]) (e := [.fz (rmD R), .fz (.tuple (ns.map .int)), .un, .un]) (fun p : Int × Int => .tuple [.int p.1, .int p.2]) (fun p => .bool (decide (p.1 < p.2))) (ns.zip (ns.drop 1))
        (it_eq (.cons (a_var (i := 1) rfl) (.cons b1 .nil)) (by show some (zip2L (ns.map .int) ((ns.drop 1).map .int)) = _; rw [zip2_int])) (fun p => [.fz (rmD R), .fz (.tuple (ns.map .int)), .fz (.int p.1), .fz (.int p.2)]) rfl fun p hp => ⟨rfl, rfl, a_B2 (a_var (i := 2) rfl).a (a_var (i := 3) rfl).a (show gLt [.int p.1, .int p.2] = some (.fz (.bool (decide (p.1 < p.2)))) from rfl)⟩
      have a2 := gAllL ((ns.zip (ns.drop 1)).map fun p => decide (p.1 < p.2))
      rw [List.map_map, List.all_map] at a2
      have T3 := t_not (t_truth (a_B1 a1.a a2).a)
      have e3 : (ns.zip (ns.drop 1)).all (id ∘ fun p => decide (p.1 < p.2)) = false := by rw [← hu, ← upZ_zip]; rfl
      rw [e3] at T3
      exact x_fn (x_seq2 (s_if_skip T) (x_raise T3)) rfl
theorem best_total_x {m : Nat} {R : List (List Int)} (h : Rm m R) {d : PyData} (hd : grpB R.length d = false) : FnX F_best_total [rmD R, d] "InvalidGroup" :=
  x_fn (x_seq2 (s_check_room h (i := 0) rfl) (x_seq1 (x_expr (x_call (.cons (a_var (i := 0) rfl) (.cons (a_var (i := 1) rfl) .nil)) (check_group_x hd))))) rfl
theorem objects_x {m : Nat} {R : List (List Int)} (h : Rm m R) {d : PyData} (hd : grpB R.length d = false) : FnX F_objects [rmD R, d] "InvalidGroup" :=
  x_fn (x_seq2 (s_check_room h (i := 0) rfl) (x_seq1 (x_expr (x_call (.cons (a_var (i := 0) rfl) (.cons (a_var (i := 1) rfl) .nil)) (check_group_x hd))))) rfl
theorem t_bidder {R : List (List Int)} {d : PyData} {e : List Sl} {i j : Nat} (hi : e[i]? = some (.fz (rmD R))) (hj : e[j]? = some (.fz d)) : Te (dNotT (dTruth (dCall F_is_integer [(dVar j), (dC (.int 0)), (dB gSub [(dB gLen [(dVar i)]), (dC (.int 1))])]))) e (!isIB 0 ((R.length : Int) - 1) d) :=
  t_not (t_truth (a_call (.cons (a_var hj) (.cons a_c (.cons (a_B2 (a_B1 (a_var hi).a gLenR).a a_c.a rfl) .nil))) (is_integer_any d 0 _)).a)
theorem kept_by_x1 {m : Nat} {R : List (List Int)} (h : Rm m R) {d x : PyData} (hd : isIB 0 ((R.length : Int) - 1) d = false) : FnX F_kept_by [rmD R, d, x] "InvalidBidder" := by
  have T := t_bidder (R := R) (d := d) (e := [.fz (rmD R), .fz d, .fz x, .un, .un]) (i := 0) (j := 1) rfl rfl
  rw [hd] at T
  exact x_fn (x_seq2 (s_check_room h (i := 0) rfl) (x_seq1 (x_raise T))) rfl
theorem kept_by_x2 {m : Nat} {R : List (List Int)} (h : Rm m R) {i : Nat} (hi : i < R.length) {d : PyData} (hd : bidB m d = false) : FnX F_kept_by [rmD R, nI i, d] "InvalidBid" := by
  have T := t_bidder (R := R) (d := nI i) (e := [.fz (rmD R), .fz (nI i), .fz d, .un, .un]) (i := 0) (j := 1) rfl rfl
  rw [show isIB 0 ((R.length : Int) - 1) (nI i) = true by simp [isIB, nI]; omega] at T
  have T2 := t_not (t_truth (a_call (e := [.fz (rmD R), .fz (nI i), .fz d, .un, .un]) (.cons (a_var (i := 2) rfl) (.cons (a_size0 h (i := 0) rfl) .nil)) (bids_for_any h.m1 h.m3 d)).a)
  rw [hd] at T2
  exact x_fn (x_seq2 (s_check_room h (i := 0) rfl) (x_seq2 (s_if_skip T) (x_seq1 (x_raise T2)))) rfl
def prcB (m : Nat) : PyData → Bool
  | .tuple ds => decide (ds.length = m) && ds.all (isIB 0 9)
  | _ => false
theorem do_part_x {m : Nat} {R : List (List Int)} (h : Rm m R) {d : PyData} (hd : prcB m d = false) : FnX F_do_part [rmD R, d] "InvalidPrices" := by
  have T1 := t_isTup (d := d) (e := [.fz (rmD R), .fz d, .un]) (i := 1) rfl
  cases ht : isTy "tuple" d with
  | false =>
    rw [ht] at T1
    exact x_fn (x_seq2 (s_check_room h (i := 0) rfl) (x_seq1 (x_raise (t_orT T1)))) rfl
  | true =>
    obtain ⟨ds, rfl⟩ := isTup_of ht
    rw [ht] at T1
    have T2 : Te (dTruth (dB gNe [(dB gLen [(dVar 1)]), (dCall F_count_things [(dVar 0)])])) [.fz (rmD R), .fz (.tuple ds), .un] (!decide (ds.length = m)) := by
      have := t_truth (a_B2 (g := gNe) (e := [.fz (rmD R), .fz (.tuple ds), .un]) (a_B1 (a_var (i := 1) rfl).a (gLenT _)).a (a_call (.cons (a_var (i := 0) rfl) .nil) (count_things_fn h)).a (gNeI _ _)).a
      rwa [show decide (((ds.length : Nat) : Int) = ((m : Nat) : Int)) = decide (ds.length = m) by rw [decide_eq_decide, Int.natCast_inj]] at this
    have T := t_or T1 fun _ => T2
    by_cases c : ds.length = m
    · have T3 := t_not (t_truth (all_ints (lo := 0) (hi := 9) (e := [.fz (rmD R), .fz (.tuple ds), .un]) (ds := ds) (i := 1) (v := 2) rfl (by show 2 < 3; decide) (by decide) rfl (fun _ => a_c) (fun _ => a_c)).a)
      have h3 : ds.all (isIB 0 9) = false := by
        have hd : (_ && _) = false := hd
        rw [decide_eq_true c] at hd; exact hd
      rw [h3] at T3
      rw [decide_eq_true c] at T
      exact x_fn (x_seq2 (s_check_room h (i := 0) rfl) (x_seq2 (s_if_skip T) (x_seq1 (x_raise T3)))) rfl
    · rw [decide_eq_false c] at T
      exact x_fn (x_seq2 (s_check_room h (i := 0) rfl) (x_seq1 (x_raise T))) rfl
theorem least_prices_x {m : Nat} {R : List (List Int)} (h : Rm m R) (hd : plst R m = []) : FnX F_least_prices [rmD R] "NoPrices" := by
  have a1 := s_setF' (i := 1) (a_call (e := [.fz (rmD R), .un, .un, .un, .un]) (.cons (a_var (i := 0) rfl) .nil) (price_list_fn h))
  rw [hd] at a1
  have T : Te (dTruth (dB gEq [(dVar 1), (dLst [])])) [.fz (rmD R), .fz (.list []), .un, .un, .un] true := t_truth (a_B2 (a_var (i := 1) rfl).a (a_lst .nil).a rfl).a
  exact x_fn (x_seq2 (s_check_room h (i := 0) rfl) (x_seq2 a1 (x_seq1 (x_raise T)))) rfl
def altB (n m : Nat) : PyData → Bool
  | .tuple ds => decide (ds.length = n) && ds.all (isIB 0 (((2 ^ m : Nat) : Int) - 1))
  | _ => false
theorem total_none {m : Nat} {R : List (List Int)} (h : Rm m R) {d : PyData} (hd : altB R.length m d = false) : Fn F_total [rmD R, d] .none := by
  have rn : ∀ e : List Sl, e.take 2 = [.fz (rmD R), .fz d] → W (dRet (dC .none) e) fun f e' => (f = .nx → False) ∧ ∀ r, f = .rt r → e'.take 2 = [.fz (rmD R), .fz d] ∧ ∃ r', Fl.rt r = .rt r' ∧ (Rx [] r' .none ∨ ∃ i ys, r' = .bor i ∧ 2 ≤ i ∧ e'[i]? = some (.own (.l ys)) ∧ PyData.none = .list ys) :=
    fun e he => w_ret a_c fun r hr => ⟨(fun z => by cases z), fun r' z => by cases z; exact ⟨he, r, rfl, .inl hr⟩⟩
  have T1 := t_isTup (d := d) (e := [.fz (rmD R), .fz d, .un, .un]) (i := 1) rfl
  refine w_fn (w_then (s_check_room h (i := 0) rfl) ?_)
  cases ht : isTy "tuple" d with
  | false =>
    rw [ht] at T1
    refine w_seq (w_if (t_orT T1) (fun _ => (rn _ rfl).mono fun f e q => ⟨fun z => (q.1 z).elim, q.2⟩) (fun z => by cases z))
  | true =>
    obtain ⟨ds, rfl⟩ := isTup_of ht
    rw [ht] at T1
    have T2 : Te (dTruth (dB gNe [(dB gLen [(dVar 1)]), (dB gLen [(dVar 0)])])) [.fz (rmD R), .fz (.tuple ds), .un, .un] (!decide (ds.length = R.length)) := by
      have := t_truth (a_B2 (g := gNe) (e := [.fz (rmD R), .fz (.tuple ds), .un, .un]) (a_B1 (a_var (i := 1) rfl).a (gLenT _)).a (a_B1 (a_var (i := 0) rfl).a gLenR).a (gNeI _ _)).a
      rwa [show decide (((ds.length : Nat) : Int) = ((R.length : Nat) : Int)) = decide (ds.length = R.length) by rw [decide_eq_decide, Int.natCast_inj]] at this
    have T := t_or T1 fun _ => T2
    by_cases c : ds.length = R.length
    · rw [decide_eq_true c] at T
      have T3 := t_not (t_truth (all_ints (lo := 0) (hi := ((2 ^ m : Nat) : Int) - 1) (e := [.fz (rmD R), .fz (.tuple ds), .un, .un]) (ds := ds) (i := 1) (v := 3) (dl := dC (.int 0)) (dh := dB gSub [(dB gLen [(dB gIx [(dVar 0), (dC (.int 0))])]), (dC (.int 1))]) rfl (by show 3 < 4; decide) (by decide) rfl (fun _ => a_c) (fun x => a_B2 (a_size0 h (i := 0) rfl).a a_c.a rfl)).a)
      have h3 : ds.all (isIB 0 (((2 ^ m : Nat) : Int) - 1)) = false := by
        have hd : (_ && _) = false := hd
        rw [decide_eq_true c] at hd; exact hd
      rw [h3] at T3
      refine w_then (s_if_skip T) (w_seq (w_if T3 (fun _ => (rn _ rfl).mono fun f e q => ⟨fun z => (q.1 z).elim, q.2⟩) (fun z => by cases z)))
    · rw [decide_eq_false c] at T
      refine w_seq (w_if T (fun _ => (rn _ rfl).mono fun f e q => ⟨fun z => (q.1 z).elim, q.2⟩) (fun z => by cases z))
end DL

/-! N3: more of what the laws' own defs answer. -/
namespace DL
open PySem PySem.Spec PyProof.Rows L2
local macro_rules | `(tactic| walk_at "G") => `(tactic| first | (with_reducible assumption) | exact go_fz gAddN | exact go_fz (gSubN (by omega)) | exact go_fz gLtN | exact go_fz (gEqN _ _) | exact go_fz (gEqI _ _) | exact go_fz (gNeI _ _) | exact go_fz (gEqT _ _) | exact go_fz (gNeT _ _) | exact go_fz (gEqIs _ _) | exact go_fz (gNeIs _ _) | exact go_fz (gEqR _ _) | exact go_fz (gNeR _ _) | exact go_fz (gEqB _ _) | exact go_fz (gNeB _ _) | exact go_fz (gMaxI2 _ _) | exact go_fz (gMinI _ _) | exact go_fz gLenR | exact go_fz (gLenT _) | exact go_fz (gLenL _) | exact go_fz gInN | exact go_fz rfl | exact go_nl rfl)
local macro_rules | `(tactic| walk_at "As") => `(tactic| first | (with_reducible exact Afs.nil) | ((with_reducible refine' Afs.cons ?h1 ?h2); (case h1 => walk_at "A"); (case h2 => walk_at "As")))
local macro_rules | `(tactic| walk_at "V") => `(tactic| first | (with_reducible assumption) | ((with_reducible refine' a_own ?h); (case h => exact rfl)) | ((with_reducible refine' Af.a ?h); (case h => walk_at "A")))
local macro_rules | `(tactic| walk_at "F") => `(tactic| first | (with_reducible assumption) | assumption)
local macro_rules | `(tactic| walk_at "A") => `(tactic| first | (with_reducible assumption) | ((with_reducible refine' a_var ?h); (case h => exact rfl)) | (with_reducible exact a_c) | ((with_reducible refine' a_call ?h1 ?h2); (case h1 => walk_at "As"); (case h2 => walk_at "F")) | ((with_reducible refine' a_tup ?h); (case h => walk_at "As")) | ((with_reducible refine' a_lst ?h); (case h => walk_at "As")) | ((with_reducible refine' b_1 ?h1 ?h2); (case h1 => walk_at "V"); (case h2 => walk_at "G")) | ((with_reducible refine' b_2 ?h1 ?h2 ?h3); (case h1 => walk_at "V"); (case h2 => walk_at "V"); (case h3 => walk_at "G")) | ((with_reducible refine' a_and ?h1 (fun _ => ?h2)); (case h1 => walk_at "V"); (case h2 => walk_at "A")) | ((with_reducible refine' a_or ?h1 (fun _ => ?h2)); (case h1 => walk_at "V"); (case h2 => walk_at "A")) | ((with_reducible refine' a_not ?h1); (case h1 => walk_at "V")) | ((with_reducible refine' a_ife1 ?h1 ?h2 ?h3); (case h1 => walk_at "T"); (case h2 => walk_at "A"); (case h3 => walk_at "A")) | ((with_reducible refine' a_chain ?h1 ?h2 ?h3 ?h4 ?h5); (case h1 => walk_at "A"); (case h2 => walk_at "A"); (case h3 => walk_at "A"); (case h4 => exact rfl); (case h5 => exact rfl)))
local macro_rules | `(tactic| walk_at "T") => `(tactic| first | (with_reducible assumption) | ((with_reducible refine' t_truth ?h); (case h => walk_at "V")) | ((with_reducible refine' t_not ?h); (case h => walk_at "T")) | ((with_reducible refine' t_or ?h1 (fun _ => ?h2)); (case h1 => walk_at "T"); (case h2 => walk_at "T")) | ((with_reducible refine' t_and ?h1 (fun _ => ?h2)); (case h1 => walk_at "T"); (case h2 => walk_at "T")) | (with_reducible exact t_yes))
theorem most_for_any {m : Nat} {R : List (List Int)} (h : Rm m R) {g : List Nat} {D : PyData} (hD : ∀ i, gNotIn [nI i, D] = some (.fz (.bool (decide (i ∉ g))))) (hg : ∀ i ∈ g, i < R.length) : Fn F_law_most_for [rmD R, D] (.int (Vb R m g)) := by
  have hl : ∀ b ∈ R, b.length = 2 ^ m := fun b hb => (h.bid b hb).len
  have hm : ∀ a, a ∈ shr R.length m ↔ a ∈ allotK R.length (List.range R.length) m := shr_iff h.m1 h.m3 h.n4
  refine w_fn ?_
  refine w_then (s_setF' (i := 2) a_c) ?_
  refine w_seq (w_forI tupI (fun done e => ∃ v x3, (0 ≤ v ∧ (∀ a ∈ done, outB g a = true → tot R a ≤ v) ∧ v ≤ Vb R m g) ∧ e = [.fz (rmD R), .fz D, .fz (.int v), x3, .un, .un]) (shr R.length m) (i_seqL (a_call (.cons (a_var (i := 0) rfl) .nil) (shares_fn h))) ⟨0, _, ⟨Int.le_refl _, by simp, Vb_nonneg h g⟩, rfl⟩ ?_ ?_)
  · rintro done a rest _ hd ⟨v, x3, ⟨v0, v1, v2⟩, rfl⟩
    have ha : a ∈ shr R.length m := by rw [hd]; simp
    have har := shr_row h.m1 h.m3 h.n4 ha
    refine ⟨_, rfl, ?_⟩
    have a1 := a_comp (t := .tp [4, 5]) (vs := [4, 5]) (di := dIt gEnum [(dVar 3)]) (tt := dAndT (dTruth (dB gGt [(dVar 5), (dC (.int 0))])) (dTruth (dB gNotIn [(dVar 4), (dVar 1)]))) (te := dC (.int 1)) (e := [.fz (rmD R), .fz D, .fz (.int v), .fz (tupI a), .un, .un]) (fun i : Nat => .tuple [nI i, .int (a.getD i 0)]) (fun i => decide (0 < a.getD i 0) && decide (i ∉ g)) (fun _ => .int 1) (List.range a.length) (it_eq (.cons (a_var (i := 3) rfl) .nil) (by show some (enumL 0 _) = _; rw [enumL_eq]; simp)) (fun i => [.fz (rmD R), .fz D, .fz (.int v), .fz (tupI a), .fz (nI i), .fz (.int (a.getD i 0))]) rfl fun i _ => ⟨rfl, rfl, t_and (t_truth (a_B2 (a_var (i := 5) rfl).a (a_c (x := .int 0)).a gGtI).a) (fun _ => t_truth (a_B2 (a_var (i := 4) rfl).a (a_var (i := 1) rfl).a (hD _)).a), fun _ => a_c⟩
    have T := t_truth (a_B2 (g := gEq) a1.a (a_lst .nil).a (by have := gEqIs (((List.range a.length).filter fun i => decide (0 < a.getD i 0) && decide (i ∉ g)).map fun _ => 1) []; rwa [List.map_map] at this)).a
    have e : decide ((((List.range a.length).filter fun i => decide (0 < a.getD i 0) && decide (i ∉ g)).map fun _ => (1 : Int)) = []) = outB g a := by
      rw [Bool.eq_iff_iff]
      simp [outB]
    rw [e] at T
    refine w_if T (fun c => ?_) (fun c => w_next ⟨rfl, v, .fz (tupI a), ⟨v0, ?_, v2⟩, rfl⟩)
    · refine w_ok (s_setF' (i := 2) (a_B2 (a_var (i := 2) rfl).a (a_call (.cons (a_var (i := 0) rfl) (.cons (a_var (i := 3) rfl) .nil)) (worth_of_fn hl har)).a (gMaxI2 _ _))) ⟨rfl, max v (tot R a), .fz (tupI a), ⟨by omega, ?_, ?_⟩, rfl⟩
      · intro x hx ox
        rcases List.mem_append.1 hx with hx | hx
        · have := v1 x hx ox; omega
        · simp at hx; subst hx; omega
      · have := Vb_ge (out_mem hg ((hm a).1 ha) c); omega
    · intro x hx ox
      rcases List.mem_append.1 hx with hx | hx
      · exact v1 x hx ox
      · simp at hx; subst hx; rw [c] at ox; cases ox
  · rintro _ ⟨v, x3, ⟨v0, v1, v2⟩, rfl⟩
    refine ⟨fun _ => w_ret (a_var (i := 2) rfl) fun r hr => ⟨rfl, r, rfl, .inl ?_⟩, fun r hr => by cases hr⟩
    have : v = Vb R m g := by
      refine Int.le_antisymm v2 (Vb_le fun a ha => ?_)
      have := mem_out hg ha
      exact v1 a ((hm a).2 this.1) this.2
    rw [← this]; exact hr

theorem gNotInT {t : Nat} {ts : List Nat} : gNotIn [nI t, gT ts] = some (.fz (.bool (decide (t ∉ ts)))) := by
  have h1 : ∀ l : List Nat, allInt (l.map nI) = true := fun l => by
    induction l with
    | nil => rfl
    | cons a l ih => simpa [allInt, nI] using ih
  have h2 : ∀ l : List Nat, hasInt (t : Int) (l.map nI) = decide (t ∈ l) := fun l => by
    induction l with
    | nil => rfl
    | cons a l ih =>
      rw [Bool.eq_iff_iff] at ih ⊢
      simp [hasInt, nI] at ih ⊢
      rw [ih]
      constructor
      · rintro (h | h)
        · left; omega
        · exact .inr h
      · rintro (h | h)
        · left; omega
        · exact .inr h
  show (if allInt (ts.map nI) = true then some (Out.fz (inB true (hasInt (t : Int) (ts.map nI)))) else none) = _
  rw [if_pos (h1 ts), h2]
  simp [inB]
theorem most_for_T {m : Nat} {R : List (List Int)} (h : Rm m R) {g : List Nat} (hg : ∀ i ∈ g, i < R.length) : Fn F_law_most_for [rmD R, gT g] (.int (Vb R m g)) := most_for_any h (fun _ => gNotInT) hg
theorem same_number_fn (a b : Int) : Fn F_law_same_number [.int a, .int b] (.bool (decide (a = b))) := by
  refine fn_ret rfl (af_is (a_and (x := true) (a_B1 (a_var (i := 0) rfl).a rfl).a fun _ => a_and (x := true) (a_not (x := false) (a_B1 (a_var (i := 0) rfl).a rfl).a).a fun _ => a_B2 (a_var (i := 0) rfl).a (a_var (i := 1) rfl).a (gEqI a b)) ?_)
  rw [Bool.true_and, Bool.true_and]
theorem same_truth_fn (a b : Bool) : Fn F_law_same_truth [.bool a, .bool b] (.bool (a == b)) := by
  refine fn_ret rfl (af_is (a_and (x := true) (a_B1 (a_var (i := 0) rfl).a rfl).a fun _ => a_B2 (a_var (i := 0) rfl).a (a_var (i := 1) rfl).a (gEqB a b)) ?_)
  rw [Bool.true_and]
/-- turns whose test draws -/
theorem compL_ft {α : Type} {tg : Tg} {tt : Dn Bool} {te : Dn Rv} {vs : List Nat} (E : Nat → List Sl) (emb : α → PyData) (f : α → PyData) (xs : List α) (t : Nat)
    (h : ∀ t' x, t ≤ t' → t' < t + xs.length → x ∈ xs → ∃ b e1 e2, tgD tg (emb x) (E t') = .ok () e1 ∧ tt e1 = .ok b e2 ∧ wipeE e2 vs = E (t' + 1) ∧ ∃ r, te e2 = .ok r e2 ∧ cmt r e2 = .ok (f x) e2) :
    ∃ ys : List α, ys.Sublist xs ∧ compL tg tt te vs (xs.map emb) (E t) = .ok (ys.map f) (E (t + xs.length)) := by
  induction xs generalizing t with
  | nil => exact ⟨[], .slnil, rfl⟩
  | cons x xs ih =>
    obtain ⟨b, e1, e2, h1, h2, h3, r, h4, h5⟩ := h t x (Nat.le_refl _) (by simp) (by simp)
    obtain ⟨ys, g1, g2⟩ := ih (t + 1) fun t' z a b c => h t' z (by omega) (by simp; omega) (by simp [c])
    have hw : wipeD vs e2 = .ok () (E (t + 1)) := by simp only [wipeD, h3]
    have hl : t + 1 + xs.length = t + (x :: xs).length := by simp; omega
    rw [hl] at g2
    simp only [List.map_cons, compL]
    cases b with
    | true => exact ⟨x :: ys, g1.cons₂ x, by rw [bnd_to h1, bnd_to h2, if_pos rfl, bnd_to h4, bnd_to h5, bnd_to hw, bnd_to g2]; rfl⟩
    | false => exact ⟨ys, g1.cons x, by rw [bnd_to h1, bnd_to h2, if_neg (by decide), bnd_to hw, g2]⟩
theorem comp_ft {α : Type} {di : Dn (List PyData)} {tg : Tg} {tt : Dn Bool} {te : Dn Rv} {vs : List Nat} {e : List Sl} (E : Nat → List Sl) (emb : α → PyData) (f : α → PyData) (xs : List α) (t : Nat) (hi : di e = .ok (xs.map emb) e) (he : wipeE e vs = E t)
    (h : ∀ t' x, t ≤ t' → t' < t + xs.length → x ∈ xs → ∃ b e1 e2, tgD tg (emb x) (E t') = .ok () e1 ∧ tt e1 = .ok b e2 ∧ wipeE e2 vs = E (t' + 1) ∧ ∃ r, te e2 = .ok r e2 ∧ cmt r e2 = .ok (f x) e2) :
    ∃ ys : List α, ys.Sublist xs ∧ dComp di tg tt te vs e = .ok (.nw (.l (ys.map f))) (restE e (E (t + xs.length)) vs) := by
  obtain ⟨ys, g1, g3⟩ := compL_ft (tt := tt) (te := te) E emb f xs t h
  refine ⟨ys, g1, ?_⟩
  simp only [dComp, bnd, hi, compE, he, g3]
theorem sub_grp {n : Nat} {ys : List Nat} (h : ys.Sublist (List.range n)) : Grp n ys := ⟨fun i hi => List.mem_range.1 (h.subset hi), List.pairwise_lt_range.sublist h⟩
/-! ### which rows are allotments -/
theorem dd_len (l : List Int) : ∀ acc : List Int, (l.foldl step_dedup acc).length ≤ acc.length + l.length := by
  induction l with
  | nil => intro acc; simp
  | cons x l ih =>
    intro acc
    have := ih (step_dedup acc x)
    have h2 : (step_dedup acc x).length ≤ acc.length + 1 := by unfold step_dedup; split <;> simp
    simp only [List.foldl_cons, List.length_cons]; omega
theorem dd_eq (l : List Int) : ∀ acc : List Int, (l.foldl step_dedup acc).length = acc.length + l.length ↔ l.Nodup ∧ ∀ x ∈ l, x ∉ acc := by
  induction l with
  | nil => intro acc; simp
  | cons x l ih =>
    intro acc
    simp only [List.foldl_cons, List.length_cons, List.nodup_cons]
    by_cases hx : x ∈ acc
    · have : step_dedup acc x = acc := by unfold step_dedup; rw [if_pos (by simpa using hx)]
      rw [this]
      have := dd_len l acc
      constructor
      · intro h; omega
      · rintro ⟨_, h⟩; exact absurd hx (h x (by simp))
    · have e : step_dedup acc x = acc ++ [x] := by unfold step_dedup; rw [if_neg (by simpa using hx)]
      rw [e]
      have := ih (acc ++ [x])
      rw [List.length_append, List.length_singleton] at this
      rw [show acc.length + (l.length + 1) = acc.length + 1 + l.length by omega, this]
      constructor
      · rintro ⟨h1, h2⟩
        refine ⟨⟨fun hm => (h2 x hm) (by simp), h1⟩, fun y hy => ?_⟩
        rcases List.mem_cons.1 hy with rfl | hy
        · exact hx
        · exact fun hm => h2 y hy (by simp [hm])
      · rintro ⟨⟨h1, h2⟩, h3⟩
        refine ⟨h2, fun y hy hm => ?_⟩
        rcases List.mem_append.1 hm with hm | hm
        · exact h3 y (by simp [hy]) hm
        · simp at hm; subst hm; exact h1 hy
theorem map_getD {l : List Int} : (List.range l.length).map (fun i => l.getD i 0) = l := by
  apply List.ext_getElem
  · simp
  · intro i h1 h2; simp [List.getD]; rw [List.getElem?_eq_getElem h2]; rfl
theorem fmet_eq (l : List Int) : (fmet l).length = l.length ↔ l.Nodup := by
  have := dd_eq l []
  unfold fmet firstMet
  rw [map_getD]
  simpa using this
end DL

/-! N4: which rows are allotments. -/
namespace DL
open PySem PySem.Spec PyProof.Rows L2
def gv (own : List Nat) : List Nat := own.flatMap inside
theorem dsj_sum : ∀ m : Fin 4, ∀ a b : Fin 8, a.val < 2 ^ m.val → b.val < 2 ^ m.val → dsj b.val a.val = true → a.val + b.val < 2 ^ m.val ∧ ∀ t : Fin 3, (t.val ∈ inside (a.val + b.val) ↔ t.val ∈ inside a.val ∨ t.val ∈ inside b.val) := by decide +kernel
theorem inside_nodup (s : Nat) : (inside s).Nodup := List.nodup_range.sublist List.filter_sublist
theorem dsj_iff {s u : Nat} : dsj s u = true ↔ ∀ t ∈ inside s, t ∉ inside u := by
  unfold dsj
  rw [decide_eq_true_iff, List.filter_eq_nil_iff]
  simp
theorem shrN_spec {m : Nat} (hm : m ≤ 3) : ∀ n own, own ∈ shrN m n → own.length = n ∧ (∀ s ∈ own, s < 2 ^ m) ∧ (gv own).Nodup ∧ own.sum < 2 ^ m ∧ ∀ t, t ∈ inside own.sum ↔ t ∈ gv own
  | 0, own, h => by
    simp [shrN] at h
    subst h
    exact ⟨rfl, by simp, List.nodup_nil, Nat.pow_pos (by decide), fun t => by simp [gv, inside]⟩
  | n + 1, own, h => by
    simp only [shrN, List.mem_flatMap] at h
    obtain ⟨o, ho, hx⟩ := h
    simp only [exts, List.mem_map, List.mem_filter, List.mem_range] at hx
    obtain ⟨s, ⟨s1, s2⟩, rfl⟩ := hx
    obtain ⟨l1, l2, l3, l4, l5⟩ := shrN_spec hm n o ho
    have h8 := pow8 hm
    obtain ⟨q1, q2⟩ := dsj_sum ⟨m, by omega⟩ ⟨o.sum, by omega⟩ ⟨s, by omega⟩ l4 s1 s2
    have es : (o ++ [s]).sum = o.sum + s := by simp
    have eg : gv (o ++ [s]) = gv o ++ inside s := by simp [gv]
    refine ⟨by simp [l1], fun u hu => ?_, ?_, by rw [es]; exact q1, fun t => ?_⟩
    · rcases List.mem_append.1 hu with hu | hu
      · exact l2 u hu
      · simp at hu; subst hu; exact s1
    · rw [eg, List.nodup_append]
      refine ⟨l3, inside_nodup s, fun a ha b hb e => ?_⟩
      subst e
      exact dsj_iff.1 s2 a hb ((l5 a).2 ha)
    · rw [es, eg, List.mem_append, ← l5 t]
      by_cases ht : t < 3
      · exact q2 ⟨t, ht⟩
      · constructor
        · intro h; exact absurd (inside_lt h) ht
        · rintro (h | h) <;> exact absurd (inside_lt h) ht
theorem mem_shrN {m : Nat} (hm : m ≤ 3) : ∀ n own, own.length = n → (∀ s ∈ own, s < 2 ^ m) → (gv own).Nodup → own ∈ shrN m n
  | 0, own, h, _, _ => by
    have : own = [] := List.length_eq_zero_iff.1 h
    subst this; simp [shrN]
  | n + 1, own, h, h1, h2 => by
    obtain ⟨o, s, rfl⟩ : ∃ o s, own = o ++ [s] := by
      have : own ≠ [] := fun e => by subst e; simp at h
      exact ⟨own.dropLast, own.getLast this, (List.dropLast_concat_getLast this).symm⟩
    have eg : gv (o ++ [s]) = gv o ++ inside s := by simp [gv]
    rw [eg, List.nodup_append] at h2
    have ho := mem_shrN hm n o (by simpa using h) (fun u hu => h1 u (by simp [hu])) h2.1
    have sp := shrN_spec hm n o ho
    simp only [shrN, List.mem_flatMap]
    refine ⟨o, ho, ?_⟩
    simp only [exts, List.mem_map, List.mem_filter, List.mem_range]
    exact ⟨s, ⟨h1 s (by simp), dsj_iff.2 fun t ht hu => h2.2.2 t ((sp.2.2.2.2 t).1 hu) t ht rfl⟩, rfl⟩
theorem row_zg {n m : Nat} {a : List Int} (h : Row n m a) : a = zg (a.map Int.toNat) := by
  unfold zg
  rw [List.map_map]
  conv => lhs; rw [← List.map_id a]
  apply List.map_congr_left
  intro s hs
  have := (h.2 s hs).1
  simp; omega
theorem givs_zg (own : List Nat) : givs (zg own) = gv own := by
  unfold givs gv zg
  rw [List.flatMap_map]
  simp
theorem zg_inj {a b : List Nat} (h : zg a = zg b) : a = b := by
  have := congrArg (List.map Int.toNat) h
  simpa [zg, Function.comp_def] using this
theorem row_lt {n m : Nat} {a : List Int} (h : Row n m a) : ∀ s ∈ a.map Int.toNat, s < 2 ^ m := by
  intro s hs
  obtain ⟨x, hx, rfl⟩ := List.mem_map.1 hs
  have := h.2 x hx
  have h2 := tw m
  omega
theorem shr_nodup {n m : Nat} (hm : m ≤ 3) {a : List Int} (h : Row n m a) : a ∈ shr n m ↔ (givs a).Nodup := by
  have e := row_zg h
  constructor
  · intro ha
    obtain ⟨own, ho, rfl⟩ := List.mem_map.1 ha
    rw [givs_zg]
    exact (shrN_spec hm n own ho).2.2.1
  · intro hn
    rw [e, givs_zg] at hn
    rw [e]
    exact List.mem_map.2 ⟨_, mem_shrN hm n _ (by rw [List.length_map, h.1]) (row_lt h) hn, rfl⟩
theorem zg_nodup (l : List Nat) : (zg l).Nodup ↔ l.Nodup := by
  induction l with
  | nil => simp [zg]
  | cons a l ih =>
    have : (a : Int) ∈ zg l ↔ a ∈ l := by
      unfold zg
      simp only [List.mem_map]
      constructor
      · rintro ⟨b, hb, e⟩
        have : b = a := by omega
        subst this; exact hb
      · exact fun h => ⟨a, h, rfl⟩
    have e : zg (a :: l) = (a : Int) :: zg l := rfl
    rw [e, List.nodup_cons, List.nodup_cons, ih, this]
theorem totO_eq {m : Nat} {R : List (List Int)} (h : Rm m R) {a : List Int} (ha : Row R.length m a) : totO R a = if a ∈ shr R.length m then .int (tot R a) else .none := by
  unfold totO
  have e1 : (fmet (zg (givs a))).length = (givs a).length ↔ a ∈ shr R.length m := by
    rw [shr_nodup h.m3 ha, ← zg_nodup, ← fmet_eq]
    simp [zg]
  by_cases c : a ∈ shr R.length m
  · rw [if_pos (e1.2 c), if_pos c]
  · rw [if_neg (fun z => c (e1.1 z)), if_neg c]
theorem total_any {m : Nat} {R : List (List Int)} (h : Rm m R) {a : List Int} (ha : Row R.length m a) : Fn F_total [rmD R, tupI a] (if a ∈ shr R.length m then .int (tot R a) else .none) := by
  rw [← totO_eq h ha]; exact total_fn h ha
theorem total_of_alt {m : Nat} {R : List (List Int)} (h : Rm m R) {a : List Int} (ha : a ∈ shr R.length m) : Fn F_total [rmD R, tupI a] (.int (tot R a)) := by
  have := total_any h (shr_row h.m1 h.m3 h.n4 ha)
  rwa [if_pos ha] at this
end DL

/-! N5: evaluation with effects; slices; equal data. -/
namespace DL
open PySem PySem.Spec PyProof.Rows L2
theorem tr_E {d : Dn Rv} {e e' : List Sl} {b : Bool} (h : AE d e (.bool b) e') : dTruth d e = .ok b e' := by
  obtain ⟨r, h1, h2⟩ := h
  rw [rx_true h2] at h1
  simp only [dTruth, bnd, h1]
theorem skip_E {t : Dn Bool} {a : Dn Fl} {e e' : List Sl} (h : t e = .ok false e') : dIfS t a dNext e = .ok .nx e' := by simp only [dIfS, bnd, h]; rfl
theorem ae_map {α : Type} {di : Dn (List PyData)} {t : Tg} {te : Dn Rv} {vs : List Nat} {e e1 : List Sl} (emb : α → PyData) (f : α → PyData) (xs : List α) (hi : di e = .ok (xs.map emb) e1) (E1 : α → List Sl) (hr : restE e1 (wipeE e1 vs) vs = e1)
    (h : ∀ x ∈ xs, tgD t (emb x) (wipeE e1 vs) = .ok () (E1 x) ∧ wipeE (E1 x) vs = wipeE e1 vs ∧ Af te (E1 x) (f x)) : AE (dComp di t dYes te vs) e (.list (xs.map f)) e1 := by
  have := a_map (di := ret (xs.map emb)) (t := t) (te := te) (vs := vs) (e := e1) emb f xs rfl E1 hr h
  obtain ⟨r, h1, h2⟩ := this
  refine ⟨r, ?_, h2⟩
  simp only [dComp, bnd, hi, ret] at h1 ⊢
  exact h1
/-- iterating over a name's own list freezes it -/
theorem it_own {i : Nat} {e : List Sl} {xs : List PyData} (h : e[i]? = some (.own (.l xs))) : dIt gSeq [(dVar i)] e = .ok xs (e.set i (.fz (.list xs))) := by
  simp only [dIt, bnd, dArgsC, dVar, h, cmt, cmtB, ret, gSeq, dGiv]
theorem gRgTN {n : Nat} (h : n ≤ 1000) : gRgT [nI n] = some (.fz (gT (List.range n))) := by
  simp only [gRgT, nI]
  rw [if_pos ⟨by omega, by omega⟩]
  simp only [rangeL, gT, nI, Int.toNat_natCast]
  congr 4
  funext i
  simp [nI]
theorem gRgLN {n : Nat} (h : n ≤ 1000) : gRgL [nI n] = some (.nl ((List.range n).map nI)) := by
  simp only [gRgL, nI]
  rw [if_pos ⟨by omega, by omega⟩]
  simp only [rangeL, nI, Int.toNat_natCast]
  congr 3
  funext i
  simp [nI]
theorem hi_neg (xs : List PyData) : gHi gCut [.tuple xs, .int (-1)] = some (.fz (.tuple xs.dropLast)) := by
  simp only [gHi, gCut, cutD, HT.sIx_none, HT.sIx]
  rw [if_pos (by decide), List.dropLast_eq_take]
  congr 3
  simp
  omega
theorem lo_one (xs : List PyData) : gLo gCut [.tuple xs, .int 1] = some (.fz (.tuple (xs.drop 1))) := by
  cases xs with
  | nil => rfl
  | cons x xs => exact gLoT (x :: xs) 1 (by simp)
theorem drop_zg {a : List Int} : (a.map PyData.int).drop 1 = (a.drop 1).map .int := by simp
/-- equal data -/
def flatB : PyData → Bool
  | .none => true
  | .bool _ => true
  | .int _ => true
  | _ => false
theorem ne_refl {d : PyData} (h : flatB d = true) : gNe [d, d] = some (.fz (.bool false)) := by
  cases d with
  | int i => rw [gNeI]; simp
  | none => rfl
  | bool b => rw [gNeB]; simp
  | _ => cases h
theorem eqvAll_self : ∀ (xs : List PyData), (∀ x ∈ xs, PyData.eqv x x = true) → PyData.eqvAll xs xs = true
  | [], _ => by rw [PyData.eqvAll]
  | x :: xs, h => by rw [PyData.eqvAll, h x (by simp), eqvAll_self xs fun y hy => h y (by simp [hy])]; rfl
theorem eqv_self : ∀ (n : Nat) (d : PyData), okD n d = true → PyData.eqv d d = true
  | _, .none, _ => by rw [PyData.eqv]
  | _, .bool b, _ => by rw [PyData.eqv]; simp
  | _, .int i, _ => by rw [PyData.eqv]; simp
  | _, .str x, _ => by rw [PyData.eqv]; simp
  | 0, .list xs, h => by simp [okD] at h
  | 0, .tuple xs, h => by simp [okD] at h
  | n + 1, .list xs, h => by
    rw [PyData.eqv]
    exact eqvAll_self xs fun x hx => eqv_self n x (by rw [okD] at h; exact List.all_eq_true.1 h x hx)
  | n + 1, .tuple xs, h => by
    rw [PyData.eqv]
    exact eqvAll_self xs fun x hx => eqv_self n x (by rw [okD] at h; exact List.all_eq_true.1 h x hx)
  | 0, .dict xs, h => by simp [okD] at h
  | n + 1, .dict xs, h => by simp [okD] at h
theorem gEq_self {d : PyData} (h : okD 8 d = true) : gEq [d, d] = some (.fz (.bool true)) := by simp only [gEq, h, eqv_self 8 d h, and_self, if_true]
theorem gNe_self {d : PyData} (h : okD 8 d = true) : gNe [d, d] = some (.fz (.bool false)) := by simp only [gNe, h, eqv_self 8 d h, and_self, if_true, Bool.not_true]
theorem raised_ne (j : Nat) : gNe [raisedD j, .tuple [.str "raised", .int (j : Nat)]] = some (.fz (.bool false)) := gNe_self (d := raisedD j) (by simp only [raisedD, okD, List.all_cons, List.all_nil]; decide +kernel)
theorem isIB_hi {lo hi v : Int} (h : hi < v) : isIB lo hi (.int v) = false := by simp only [isIB, Bool.and_eq_false_iff, decide_eq_false_iff_not]; omega
theorem isIB_lo {lo hi v : Int} (h : v < lo) : isIB lo hi (.int v) = false := by simp only [isIB, Bool.and_eq_false_iff, decide_eq_false_iff_not]; omega
theorem isIB_ok {lo hi v : Int} (h : lo ≤ v) (h2 : v ≤ hi) : isIB lo hi (.int v) = true := by simp only [isIB, Bool.and_eq_true, decide_eq_true_eq]; exact ⟨h, h2⟩
theorem grp_one {n : Nat} {d : PyData} (h : isIB 0 ((n : Int) - 1) d = false) : grpB n (.tuple [d]) = false := by simp [grpB, h]
end DL

/-! N6: another bid; bids that are none. -/
namespace DL
open PySem PySem.Spec PyProof.Rows L2
theorem tot_setR : ∀ {R : List (List Int)} {a : List Int} {i : Nat} (b : List Int), a.length = R.length → i < R.length → tot (R.set i b) a = tot R a - val (R.getD i []) (a.getD i 0) + val b (a.getD i 0)
  | [], _, _, _, _, h => absurd h (by simp)
  | r :: R, [], _, _, h, _ => by simp at h
  | r :: R, s :: a, 0, b, _, _ => by simp [tot]; omega
  | r :: R, s :: a, i + 1, b, h, hi => by
    have := tot_setR (R := R) (a := a) (i := i) b (by simpa using h) (by simpa using hi)
    simp [tot] at this ⊢
    omega
theorem oth_zero {n m i : Nat} (hi : i < n) {a : List Int} (ha : a ∈ allotK n (oth n i) m) : a.getD i 0 = 0 := by
  obtain ⟨h1, h2⟩ := mem_out oth_lt ha
  have hr := allotK_Row range_lt m a h1
  unfold outB at h2
  have h2 := of_decide_eq_true h2
  rw [List.filter_eq_nil_iff] at h2
  have := h2 i (by rw [List.mem_range, hr.1]; exact hi)
  have h0 := (hr.2 _ (getD_mem (i := i) (by rw [hr.1]; exact hi))).1
  have ho : i ∉ oth n i := fun z => by simp [oth] at z
  simp [ho] at this
  have e : a.getD i 0 = a[i]?.getD 0 := rfl
  omega
theorem Vo_repl {m : Nat} {R : List (List Int)} (h : Rm m R) {i : Nat} (hi : i < R.length) {b : List Int} (hb : Bid m b) : Vo (repl R i b) m i = Vo R m i := by
  have hl : (repl R i b).length = R.length := by rw [repl_eq hi, List.length_set]
  have key : ∀ a ∈ allotK R.length (oth R.length i) m, tot (repl R i b) a = tot R a := fun a ha => by
    rw [repl_eq hi, tot_setR b ((allotK_Row oth_lt m a ha).1) hi, oth_zero hi ha, val_zero hb, val_zero (h.bid _ (getD_memR hi))]; omega
  unfold Vo
  rw [hl]
  refine Int.le_antisymm (Vb_le fun a ha => ?_) (Vb_le fun a ha => ?_)
  · rw [hl] at ha; rw [key a ha]; exact Vb_ge ha
  · rw [← key a ha]; exact Vb_ge (by rw [hl]; exact ha)
theorem kby_le {m : Nat} {R : List (List Int)} (h : Rm m R) {i : Nat} (hi : i < R.length) {b : List Int} (hb : Bid m b) : kby R m i b ≤ kep R m i := by
  have hl : (repl R i b).length = R.length := by rw [repl_eq hi, List.length_set]
  have hg : (repl R i b).getD i [] = b := by rw [repl_eq hi]; simp [List.getD, hi]
  have hr : (opA (repl R i b) m).length = R.length := by rw [← hl]; exact (opA_row (m := m)).1
  have e1 := tot_setR b hr hi
  have hm : opA (repl R i b) m ∈ allotK R.length (List.range R.length) m := by have := opA_mem (repl R i b) m; rwa [hl] at this
  have e2 : tot R (opA (repl R i b) m) ≤ Va R m := Vb_ge hm
  have e3 := Va_tot (repl R i b) m
  have e4 := Vo_repl h hi hb
  rw [← repl_eq hi] at e1
  unfold kby pay kep
  rw [hg]
  omega
theorem repl_self {R : List (List Int)} {i : Nat} (hi : i < R.length) : repl R i (R.getD i []) = R := by
  rw [repl_eq hi]
  have : R.getD i [] = R[i] := by simp [List.getD, hi]
  rw [this, List.set_getElem_self]
theorem kby_self {m : Nat} {R : List (List Int)} {i : Nat} (hi : i < R.length) : kby R m i (R.getD i []) = kep R m i := by
  unfold kby
  rw [repl_self hi]
  unfold pay kep
  omega
theorem kep_ix {m : Nat} {R : List (List Int)} {i : Nat} (hi : i < R.length) : gIx [.list ((keps R m).map .int), nI i] = some (.fz (.int (kep R m i))) := by
  rw [wsl_ix (by simp [keps]; exact hi)]
  simp [keps, List.getD, hi]
theorem pay_ix {m : Nat} {R : List (List Int)} {i : Nat} (hi : i < R.length) : gIx [.list ((pays R m).map .int), nI i] = some (.fz (.int (pay R m i))) := by
  rw [wsl_ix (by simp [pays]; exact hi)]
  simp [pays, List.getD, hi]
/-! bids that are none -/
theorem bid_len {m : Nat} {ds : List PyData} (h : ds.length ≠ 2 ^ m) : bidB m (.tuple ds) = false := by
  show (decide _ && _) = false
  rw [decide_eq_false h]; rfl
theorem bid_last {m : Nat} {z : List PyData} {q : PyData} (h : isIB 0 9 q = false) : bidB m (.tuple (z ++ [q])) = false := by
  show (_ && ((z ++ [q]).all (isIB 0 9) && _)) = false
  rw [List.all_append, List.all_cons, h, Bool.false_and, Bool.and_false, Bool.false_and, Bool.and_false]
theorem bid_first {m : Nat} {z : List PyData} {q : PyData} (h : intD q ≠ 0) : bidB m (.tuple (q :: z)) = false := by
  show (_ && (_ && (decide (((q :: z).map intD).getD 0 0 = 0) && _))) = false
  rw [decide_eq_false (show ¬ ((q :: z).map intD).getD 0 0 = 0 by simpa using h), Bool.false_and, Bool.and_false, Bool.and_false]
theorem bid_ok {m : Nat} {b : List Int} (h3 : m ≤ 3) (h : Bid m b) : bidB m (tupI b) = true := by
  have := bids_for_fn h3 h m h3
  by_cases c : 1 ≤ m
  · have q := bids_for_any c h3 (tupI b)
    obtain ⟨r, r1, r2⟩ := this
    obtain ⟨s, s1, s2⟩ := q
    rw [r1] at s1
    cases s1
    have e1 := rx_true r2
    have e2 := rx_true s2
    rw [e1] at e2
    have e3 : decide (m = m) = bidB m (tupI b) := by injection e2 with e2; injection e2
    rw [← e3]; simp
  · have hm : m = 0 := by omega
    subst hm
    have hl := h.len
    obtain ⟨x, rfl⟩ : ∃ x, b = [x] := by
      match b, hl with
      | [x], _ => exact ⟨x, rfl⟩
    have h0 := h.zero
    simp at h0
    subst h0
    decide
end DL

/-! N7: groups. -/
namespace DL
open PySem PySem.Spec PyProof.Rows L2
theorem subsL_sublist (l : List Nat) : ∀ g ∈ subsL l, g.Sublist l := by
  refine rev_ind (P := fun l => ∀ g ∈ subsL l, g.Sublist l) ?_ ?_ l
  · intro g hg; simp [subsL] at hg; subst hg; exact .slnil
  · intro l i ih g hg
    rw [subsL_snoc] at hg
    rcases List.mem_append.1 hg with hg | hg
    · exact (ih g hg).trans (List.sublist_append_left _ _)
    · obtain ⟨q, hq, rfl⟩ := List.mem_map.1 hg
      exact (ih q hq).append (List.Sublist.refl _)
theorem subs_grp {n : Nat} {g : List Nat} (h : g ∈ subs n) : Grp n g := sub_grp (subsL_sublist (List.range n) g h)
theorem nil_subsL (l : List Nat) : [] ∈ subsL l := by
  refine rev_ind (P := fun l => [] ∈ subsL l) ?_ ?_ l
  · simp [subsL]
  · intro l i ih; rw [subsL_snoc]; simp [ih]
theorem all_subsL (l : List Nat) : l ∈ subsL l := by
  refine rev_ind (P := fun l => l ∈ subsL l) ?_ ?_ l
  · simp [subsL]
  · intro l i ih; rw [subsL_snoc]; simp [ih]
theorem subs_ne (n : Nat) : subs n ≠ [] := fun e => by have := nil_subsL (List.range n); rw [show subsL (List.range n) = subs n from rfl, e] at this; cases this
theorem sum_kp {m : Nat} {R : List (List Int)} : ∀ l : List Nat, (l.map (pay R m)).sum + (l.map (kep R m)).sum = (l.map fun i => val (R.getD i []) ((opA R m).getD i 0)).sum
  | [] => rfl
  | i :: l => by
    have := sum_kp (m := m) (R := R) l
    simp only [List.map_cons, List.sum_cons] at this ⊢
    have e : pay R m i + kep R m i = val (R.getD i []) ((opA R m).getD i 0) := by unfold pay kep; omega
    omega
theorem sum_all {m : Nat} {R : List (List Int)} : (pays R m).sum + ((List.range R.length).map (kep R m)).sum = Va R m := by
  rw [← Va_sum (m := m) (R := R), ← sum_kp]; rfl
theorem gn_all {m : Nat} {R : List (List Int)} : gn R m (List.range R.length) = false := by
  unfold gn
  have := sum_all (m := m) (R := R)
  rw [decide_eq_false]
  show ¬ _ < Va R m
  omega
def dues (R : List (List Int)) (m : Nat) : List (List Int) := ((subs R.length).filter (gn R m)).map zg
theorem dues_iff {m : Nat} {R : List (List Int)} {g : List Nat} (h : g ∈ subs R.length) : decide (zg g ∈ dues R m) = gn R m g := by
  rw [Bool.eq_iff_iff, decide_eq_true_iff]
  unfold dues
  rw [List.mem_map]
  constructor
  · rintro ⟨q, hq, e⟩
    rw [← zg_inj e]
    exact (List.mem_filter.1 hq).2
  · intro hg
    exact ⟨g, List.mem_filter.2 ⟨h, hg⟩, rfl⟩
theorem dues_ne {m : Nat} {R : List (List Int)} (h : Rm m R) : ∀ r ∈ dues R m, r ≠ [] := by
  intro r hr er
  obtain ⟨g, hg, rfl⟩ := List.mem_map.1 hr
  have : g = [] := by simpa [zg] using er
  subst this
  have := (List.mem_filter.1 hg).2
  rw [gn_nil h] at this
  cases this
theorem objs_dues {m : Nat} {R : List (List Int)} : objs R m = sortR (dues R m) := rfl
theorem objs_nil {m : Nat} {R : List (List Int)} : decide (objs R m = []) = decide (dues R m = []) := by
  rw [decide_eq_decide, objs_dues]
  constructor
  · intro e
    cases hd : dues R m with
    | nil => rfl
    | cons x l =>
      have : x ∈ sortR (dues R m) := mem_sortR.2 (by rw [hd]; simp)
      rw [e] at this; cases this
  · intro e; rw [e]; simp [sortR]
theorem gSortedR {L : List (List Int)} (hne : ∀ r ∈ L, r ≠ []) : gSorted [.list (L.map tupI)] = some (.nl ((sortR L).map tupI)) := by
  cases L with
  | nil => simp [gSorted, intsOf, sortI, sortR]
  | cons a S =>
    have hi : intsOf (tupI a :: S.map tupI) = none := rfl
    have hr := rowsOf_map (a :: S) hne
    simp only [List.map_cons] at hr
    simp only [gSorted, List.map_cons, hi, hr]
theorem one_calm {m : Nat} {b : List Int} (h : Rm m [b]) : dues [b] m = [] := by
  have e : subs [b].length = [[], [0]] := rfl
  unfold dues
  rw [e]
  have h1 : gn [b] m [0] = false := gn_all (R := [b])
  simp [List.filter, gn_nil h, h1]
theorem keeps_fn {m : Nat} {R : List (List Int)} (h : Rm m R) {e : List Sl} {r o p x y z : Nat} (hr : restE e (wipeE e [x, y, z]) [x, y, z] = e) (h1 : e[r]? = some (.fz (rmD R))) (h2 : e[o]? = some (.fz (tupI (opA R m)))) (h3 : e[p]? = some (.fz (.list ((pays R m).map .int))))
    (e1 : Nat → List Sl) (ht : ∀ i, i < R.length → tgD (.tp [x, y, z]) (.tuple [tupI (R.getD i []), .int ((opA R m).getD i 0), .int (pay R m i)]) (wipeE e [x, y, z]) = .ok () (e1 i)) (hw : ∀ i, i < R.length → wipeE (e1 i) [x, y, z] = wipeE e [x, y, z]) (hx : ∀ i, (e1 i)[x]? = some (.fz (tupI (R.getD i [])))) (hy : ∀ i, (e1 i)[y]? = some (.fz (.int ((opA R m).getD i 0)))) (hz : ∀ i, (e1 i)[z]? = some (.fz (.int (pay R m i)))) :
    Af (dComp (dIt gZip3 [(dVar r), (dVar o), (dVar p)]) (.tp [x, y, z]) dYes (dB gSub [(dB gIx [(dVar x), (dVar y)]), (dVar z)]) [x, y, z]) e (.list ((keps R m).map .int)) := by
  have hr1 := @opA_row m R
  have := a_map (t := .tp [x, y, z]) (vs := [x, y, z]) (di := dIt gZip3 [(dVar r), (dVar o), (dVar p)]) (te := dB gSub [(dB gIx [(dVar x), (dVar y)]), (dVar z)]) (e := e) (fun i : Nat => .tuple [tupI (R.getD i []), .int ((opA R m).getD i 0), .int (pay R m i)]) (fun i => .int (kep R m i)) (List.range R.length)
    (it_eq (.cons (a_var h1) (.cons (a_var h2) (.cons (a_var h3) .nil))) (by
      show some (zip3L (R.map tupI) ((opA R m).map .int) ((pays R m).map .int)) = _
      rw [zip3_eq R.length R _ _ rfl hr1.1 (by simp [pays])]
      congr 1
      apply List.map_congr_left
      intro i hi
      have hi := List.mem_range.1 hi
      simp [pays, List.getD, hi])) e1 hr fun i hi => by
        have hi := List.mem_range.1 hi
        refine ⟨ht i hi, hw i hi, af_is (a_B2 (a_B2 (a_var (hx i)).a (a_var (hy i)).a (room_val h hr1 hi)).a (a_var (hz i)).a rfl) ?_⟩
        have e : val (R.getD i []) ((opA R m).getD i 0) - pay R m i = kep R m i := by unfold pay kep; omega
        show PyData.int (val (R.getD i []) ((opA R m).getD i 0) - pay R m i) = _
        rw [e]
  rwa [keps, List.map_map]
theorem sum_keps {m : Nat} {R : List (List Int)} {g : List Nat} (hg : ∀ i ∈ g, i < R.length) {e : List Sl} {s c i : Nat} (hr : restE e (wipeE e [i]) [i] = e) (hi : i < e.length) (hgi : e[s]? = some (.fz (gT g))) (hc : e[c]? = some (.fz (.list ((keps R m).map .int)))) (hci : c ≠ i) :
    Af (dB gSum [(dComp (dIt gSeq [(dVar s)]) (.nm i) dYes (dB gIx [(dVar c), (dVar i)]) [i])]) e (.int (g.map (kep R m)).sum) := by
  have := a_map (t := .nm i) (vs := [i]) (di := dIt gSeq [(dVar s)]) (te := dB gIx [(dVar c), (dVar i)]) (e := e) nI (fun j => .int (kep R m j)) g (i_seqT (a_var hgi)) (fun j => (e.set i .un).set i (.fz (nI j))) hr fun j hj => ⟨rfl, by simp [wipeE], a_B2 (a_var (by simp [Ne.symm hci]; exact hc)).a (a_var (by simp [hi])).a (kep_ix (hg j hj))⟩
  have e2 : g.map (fun j => PyData.int (kep R m j)) = (g.map (kep R m)).map .int := by rw [List.map_map]; rfl
  rw [e2] at this
  exact a_B1 this.a (gSumL _)
end DL

/-! K03_M: rooms of one thing (plain mathematics). -/
namespace DL
open PySem PySem.Spec PyProof.Rows L2
theorem sum_rangeN (F : Nat → Int) (n : Nat) : ((List.range n).map F).sum = sg F n := by
  induction n with
  | zero => rfl
  | succ n ih => rw [List.range_succ, List.map_append, List.sum_append, ih, sg]; simp
theorem lost_pay {m : Nat} {R : List (List Int)} (h : Rm m R) {i : Nat} (hi : i < R.length) (h0 : (opA R m).getD i 0 = 0) : pay R m i = 0 := by
  have h1 := pay_nonneg h hi
  have h2 : 0 ≤ kep R m i := kep_nonneg i
  have h3 : pay R m i = Vo R m i - (Va R m - val (R.getD i []) ((opA R m).getD i 0)) := rfl
  rw [h0, val_zero (h.bid _ (getD_memR hi))] at h3
  unfold kep at h2
  omega
def sgR (ws : List Int) : List (List Int) := ws.map fun w => [0, w]
theorem sgR_len (ws : List Int) : (sgR ws).length = ws.length := by simp [sgR]
theorem sgR_rm {ws : List Int} (h1 : 1 ≤ ws.length) (h4 : ws.length ≤ 4) (hw : ∀ w ∈ ws, 0 ≤ w ∧ w ≤ 9) : Rm 1 (sgR ws) :=
  ⟨by decide, by decide, by rw [sgR_len]; exact h1, by rw [sgR_len]; exact h4, fun b hb => by
    obtain ⟨w, hx, rfl⟩ := List.mem_map.1 hb
    exact bid1 (hw w hx).1 (hw w hx).2⟩
theorem sgR_row {ws : List Int} {j : Nat} (hj : j < ws.length) : (sgR ws).getD j [] = [0, ws.getD j 0] := by simp [sgR, List.getD, hj]
def un1 (n j : Nat) : List Int := (List.replicate n 0).set j 1
theorem mem1 {n : Nat} {g : List Nat} (hg : ∀ i ∈ g, i < n) {a : List Int} (ha : a ∈ allotK n g 1) : a = List.replicate n 0 ∨ ∃ j ∈ g, a = un1 n j := by
  rw [allotK_succ] at ha
  have e : allotK n g 0 = [List.replicate n 0] := rfl
  rw [e] at ha
  simp only [grow, List.mem_append, List.mem_flatMap, List.mem_map, List.mem_singleton] at ha
  rcases ha with ha | ⟨b, rfl, j, hj, rfl⟩
  · exact .inl ha
  · refine .inr ⟨j, hj, ?_⟩
    rw [bump_eq (by simpa using hg j hj)]
    have := hg j hj
    simp [un1, List.getD, this]
theorem un1_mem {n : Nat} {g : List Nat} (hg : ∀ i ∈ g, i < n) {j : Nat} (hj : j ∈ g) : un1 n j ∈ allotK n g 1 := by
  rw [allotK_succ]
  have e : allotK n g 0 = [List.replicate n 0] := rfl
  rw [e]
  simp only [grow, List.mem_append, List.mem_flatMap, List.mem_map, List.mem_singleton]
  refine .inr ⟨_, rfl, j, hj, ?_⟩
  have := hg j hj
  rw [bump_eq (by simpa using this)]
  simp [un1, List.getD, this]
section
variable {ws : List Int} (h1 : 1 ≤ ws.length) (h4 : ws.length ≤ 4) (hw : ∀ w ∈ ws, 0 ≤ w ∧ w ≤ 9)
include h1 h4 hw in
theorem tot_un {j : Nat} (hj : j < ws.length) : tot (sgR ws) (un1 ws.length j) = ws.getD j 0 := by
  have h := sgR_rm h1 h4 hw
  unfold un1
  rw [tot_set (by simp [sgR_len]) (by rw [sgR_len]; exact hj), tot_replicate h.bid, sgR_row hj]
  have : (List.replicate ws.length (0 : Int)).getD j 0 = 0 := by simp [List.getD, hj]
  rw [this]
  simp [val]
theorem w_nonneg (hw : ∀ w ∈ ws, 0 ≤ w ∧ w ≤ 9) (j : Nat) : 0 ≤ ws.getD j 0 := by
  by_cases c : j < ws.length
  · have : ws.getD j 0 ∈ ws := by simp [List.getD, c]
    exact (hw _ this).1
  · simp [List.getD, c]
include h1 h4 hw in
theorem got_case : (opA (sgR ws) 1 = List.replicate ws.length 0 ∧ Va (sgR ws) 1 = 0 ∧ ∀ k, k < ws.length → ws.getD k 0 ≤ 0) ∨
    ∃ i, i < ws.length ∧ opA (sgR ws) 1 = un1 ws.length i ∧ Va (sgR ws) 1 = ws.getD i 0 ∧ ∀ k, k < ws.length → ws.getD k 0 ≤ ws.getD i 0 := by
  have h := sgR_rm h1 h4 hw
  have hm := opA_mem (sgR ws) 1
  have ht := Va_tot (sgR ws) 1
  rw [sgR_len] at hm
  have ge : ∀ k, k < ws.length → ws.getD k 0 ≤ Va (sgR ws) 1 := fun k hk => by
    rw [← tot_un h1 h4 hw hk]
    refine Vb_ge ?_
    rw [sgR_len]
    exact un1_mem range_lt (List.mem_range.2 hk)
  rcases mem1 range_lt hm with e | ⟨i, hi, e⟩
  · left
    rw [e, tot_replicate h.bid] at ht
    exact ⟨e, ht, fun k hk => by have := ge k hk; omega⟩
  · right
    have hi := List.mem_range.1 hi
    rw [e, tot_un h1 h4 hw hi] at ht
    exact ⟨i, hi, e, ht, fun k hk => by rw [← ht]; exact ge k hk⟩
include h1 h4 hw in
theorem vo1 {i : Nat} {v : Int} (hv : v = 0 ∨ ∃ j ∈ oth ws.length i, ws.getD j 0 = v) (h0 : 0 ≤ v) (hle : ∀ j ∈ oth ws.length i, ws.getD j 0 ≤ v) : Vo (sgR ws) 1 i = v := by
  have h := sgR_rm h1 h4 hw
  unfold Vo
  have up : ∀ a ∈ allotK (sgR ws).length (oth (sgR ws).length i) 1, tot (sgR ws) a ≤ v := fun a ha => by
    rw [sgR_len] at ha
    rcases mem1 oth_lt ha with rfl | ⟨j, hj, rfl⟩
    · rw [tot_replicate h.bid]; exact h0
    · rw [tot_un h1 h4 hw (oth_lt j hj)]; exact hle j hj
  rcases hv with e | ⟨j, hj, e⟩
  · exact Vb_eq _ (allotK_zero _ _ _) (by rw [tot_replicate h.bid, e]) up
  · refine Vb_eq (un1 ws.length j) (by rw [sgR_len]; exact un1_mem oth_lt hj) (by rw [tot_un h1 h4 hw (oth_lt j hj), e]) up
end
theorem range_oth {n i : Nat} (hn : n ≤ 4) (hi : i < n) : (List.range n).Perm (i :: oth n i) := by
  have key : ∀ n : Fin 5, ∀ i : Fin 5, i.val < n.val → ((List.range n.val).isPerm (i.val :: oth n.val i.val)) = true := by decide +kernel
  exact List.isPerm_iff.1 (key ⟨n, by omega⟩ ⟨i, by omega⟩ hi)
theorem un1_facts {n j : Nat} (hn : n ≤ 4) (hj : j < n) : (un1 n j).count 1 = 1 ∧ (1 : Int) ∈ un1 n j ∧ (un1 n j).idxOf 1 = j := by
  have key : ∀ n : Fin 5, ∀ i : Fin 5, i.val < n.val → (un1 n.val i.val).count 1 = 1 ∧ (1 : Int) ∈ un1 n.val i.val ∧ (un1 n.val i.val).idxOf 1 = i.val := by decide +kernel
  exact key ⟨n, by omega⟩ ⟨j, by omega⟩ hj
theorem zero_count (n : Nat) : (List.replicate n (0 : Int)).count 1 = 0 := by
  rw [List.count_replicate]; simp
theorem ws_map (ws : List Int) : (List.range ws.length).map (fun k => ws.getD k 0) = ws := by
  apply List.ext_getElem
  · simp
  · intro k h1 h2
    simp [List.getD, h2]
theorem rank_top {ws : List Int} (h4 : ws.length ≤ 4) {i : Nat} (hi : i < ws.length) (hmax : ∀ k, k < ws.length → ws.getD k 0 ≤ ws.getD i 0) :
    ∃ r, (sortI ws).reverse = ws.getD i 0 :: r ∧ r.Perm ((oth ws.length i).map fun k => ws.getD k 0) ∧ r.Pairwise fun a b => b ≤ a := by
  have sp : (sortI ws).Perm ws := List.mergeSort_perm _ _
  have rp : (sortI ws).reverse.Perm ws := (List.reverse_perm _).trans sp
  have so : (sortI ws).Pairwise fun a b => a ≤ b := by
    have := List.pairwise_mergeSort (le := fun a b : Int => decide (a ≤ b)) (fun a b c h1 h2 => by simp at *; omega) (fun a b => by simp; omega) ws
    exact this.imp fun h => by simpa using h
  have ro : (sortI ws).reverse.Pairwise fun a b => b ≤ a := List.pairwise_reverse.2 so
  cases e : (sortI ws).reverse with
  | nil =>
    rw [e] at rp
    have := rp.length_eq
    simp at this
    omega
  | cons a r =>
    rw [e] at rp ro
    have wi : ws.getD i 0 ∈ ws := by simp [List.getD, hi]
    have ai : a = ws.getD i 0 := by
      have h1 : a ∈ ws := rp.mem_iff.1 (List.mem_cons_self ..)
      rw [← ws_map ws] at h1
      obtain ⟨k, hk, rfl⟩ := List.mem_map.1 h1
      have h2 := hmax k (List.mem_range.1 hk)
      have h3 := rp.mem_iff.2 wi
      rcases List.mem_cons.1 h3 with z | z
      · exact z.symm
      · have := (List.pairwise_cons.1 ro).1 _ z
        omega
    subst ai
    refine ⟨r, rfl, ?_, (List.pairwise_cons.1 ro).2⟩
    have p2 : ws.Perm (ws.getD i 0 :: (oth ws.length i).map fun k => ws.getD k 0) := by
      have := (range_oth h4 hi).map fun k => ws.getD k 0
      rw [ws_map, List.map_cons] at this
      exact this
    exact (rp.trans p2).cons_inv
theorem rank_next {n i : Nat} {w : Nat → Int} {r : List Int} (hp : r.Perm ((oth n i).map w)) (ho : r.Pairwise fun a b => b ≤ a) (h0 : ∀ k, 0 ≤ w k) :
    ∃ v, (r ++ [0]).getD 0 0 = v ∧ (v = 0 ∨ ∃ j ∈ oth n i, w j = v) ∧ 0 ≤ v ∧ ∀ j ∈ oth n i, w j ≤ v := by
  cases r with
  | nil =>
    refine ⟨0, rfl, .inl rfl, Int.le_refl _, fun j hj => ?_⟩
    have := hp.length_eq
    simp at this
    rw [List.length_eq_zero_iff.1 this.symm] at hj
    cases hj
  | cons a r =>
    refine ⟨a, rfl, .inr ?_, ?_, fun j hj => ?_⟩
    · obtain ⟨j, hj, e⟩ := List.mem_map.1 (hp.mem_iff.1 (List.mem_cons_self ..))
      exact ⟨j, hj, e⟩
    · obtain ⟨j, hj, e⟩ := List.mem_map.1 (hp.mem_iff.1 (List.mem_cons_self ..))
      rw [← e]; exact h0 j
    · have := hp.mem_iff.2 (List.mem_map.2 ⟨j, hj, rfl⟩)
      rcases List.mem_cons.1 this with z | z
      · omega
      · exact (List.pairwise_cons.1 ho).1 _ z
end DL

/-! DU: t.count(x), t.index(x) on a tuple of ints. -/
namespace DL
open PySem PySem.Spec PyProof.Rows L2
section
variable {X : Cx} {Z : Fx} {m k : Nat}
theorem tyN_is {pins : List (Addr × Obj)} {σ : L2.St} {H : Hp} {s : Shared} {a : Addr} {xs : List V} (I : Inv X pins σ H s) (h : SqN X.K H a xs) :
    s.TypeIs (.ref a) "tuple" ∧ ∀ b, Value.ref a = .ref b → ∃ ob, s.heap.get? b = some ob ∧ ob.dict = none := by
  have key : ∃ o, s.heap.get? a = some o ∧ TO o := by
    rcases h with ⟨o, h, t⟩ | ⟨o, _, _, h, t, _⟩
    · obtain ⟨e, _⟩ := (show ObjOk X.prog X.w H s.heap a (.frz o (.tup xs)) from I.hok a _ h)
      exact ⟨o, e, t⟩
    · exact ⟨o, I.kIn a o h, t⟩
  obtain ⟨o, e, t⟩ := key
  refine ⟨⟨o, e, t.1⟩, fun b z => ?_⟩
  cases z
  exact ⟨o, e, t.2⟩
theorem pe_bmN {o e : Expr} {es : List Expr} {to : TE} {t : TA} {name : Str} {apos cpos : Pos} {id : String} {r : V → List V → Hp → VK → Prop} (slot : Slot "tuple" name id) (hty : typeOf (.builtin id) = pure (.type "method_descriptor")) (hm : MtR X id r) (ho : PE X o to) (ha : PA X (e :: es) t)
    (hbase : attributeBase o name X.env (eval o X.env) = eval o X.env)
    (hfew : ((backTo cpos (starEach (e :: es) X.env)).all (fun x => !x.1) && (backToKw cpos (keywordEach [] X.env)).all (fun x => x.1.isSome)
      && decide ((e :: es).length + ([] : List Keyword).length + (if ([] : List Keyword).isEmpty then 0 else 1) < 30)) = true)
    (hline : (apos.endLine == cpos.line) = true) (hs : starEach (e :: es) X.env = (false, eval e X.env) :: starEach es X.env) (hplain : (backTo cpos (starEach es X.env)).any (·.1) = false) :
    PE X (.Call (.Attribute o name apos) (e :: es) [] cpos) (fun σ H Q => to σ H fun x H1 => (∃ a xs, x = .ref a ∧ SqN X.K H1 a xs) ∧ t σ H1 fun vs H2 => r x vs H2 Q) := by
  refine ⟨fun pins s σ H Q I h => ?_⟩
  refine wpAny_Call_method_late hbase hfew hline rfl (thn (ho.run pins s σ H _ I h) fun v s1 ⟨x, H1, I1, r1, ⟨a, xs, ex, ty⟩, q1⟩ => ?_)
  subst ex
  cases r1
  obtain ⟨h1, h2⟩ := tyN_is I1 ty
  refine ⟨"tuple", id, PySem.F.plainAttrs_tuple, slot, hty, h1, h2, ?_⟩
  have hA := ha.run cpos pins s1 σ H1 _ I1 q1
  rw [hs] at hA ⊢
  refine Calls.callWith_builtin (by show (false || (backTo cpos (starEach es X.env)).any (·.1)) = false; rw [hplain] <;> rfl) (Calls.evalArgs_plain ?_)
  exact thn hA fun us s2 ⟨vs, H2, I2, r2, q2⟩ => hm pins s2 σ H2 (.ref a) vs (.ref a) us Q I2 rfl r2 q2
theorem d_methT {name : Str} {id : String} {g : List PyData → Option Out} {o e : Expr} {es : List Expr} {d : Dn Rv} {das : List (Dn Rv)} {apos cpos : Pos} (c : Cok Z X m k) (slot : Slot "tuple" name id) (hty : typeOf (.builtin id) = pure (.type "method_descriptor"))
    (hm : MtR X id (fun x xs H Q => rD X.K g (x :: xs) H Q)) (ho : PE X o (tD Z d)) (ha : PA X (e :: es) (tA Z das))
    (hbase : attributeBase o name X.env (eval o X.env) = eval o X.env := by rfl)
    (hfew : ((backTo cpos (starEach (e :: es) X.env)).all (fun x => !x.1) && (backToKw cpos (keywordEach [] X.env)).all (fun x => x.1.isSome)
      && decide ((e :: es).length + ([] : List Keyword).length + (if ([] : List Keyword).isEmpty then 0 else 1) < 30)) = true := by rfl)
    (hline : (apos.endLine == cpos.line) = true := by rfl) (he : starEach (e :: es) X.env = (false, eval e X.env) :: starEach es X.env := by rfl) (hpl : (backTo cpos (starEach es X.env)).any (·.1) = false := by rfl) :
    PE X (.Call (.Attribute o name apos) (e :: es) [] cpos) (tD Z (dM "tuple" g d das)) := by
  refine PE_imp (pe_bmN slot hty hm ho ha hbase hfew hline he hpl) fun σ H Q ⟨B, env, R, h⟩ => ?_
  refine held R h fun x H1 B1 env1 r _ R1 q1 p => ?_
  cases e1 : dat env1 r with
  | none => rw [e1] at p; exact p.elim
  | some y =>
    rw [e1] at p
    dsimp only at p
    split at p
    · next ht =>
      have ar := dat_ok R1 q1 e1
      refine ⟨?_, B1, env1, R1, post.imp (post.bnd (Vl1 := fun B _ _ vs rs => StAll Z B σ vs rs) p) fun vs H2 ⟨B2, env2, rs, s, R2, q2, p2⟩ => ?_⟩
      · cases y with
        | tuple ds =>
          obtain ⟨a, vs, rfl, h1, _⟩ := ar.tup
          rw [c.hK]
          exact ⟨a, vs, rfl, h1.mono R1.bh⟩
        | _ => simp [tyOf] at ht
      · rw [c.hK]
        exact app_rD R2 (.cons (q1.mono s) q2) p2
    · exact p.elim
/-- t.count(i) -/
def gCntT : List PyData → Option Out
  | [.tuple xs, .int i] => match intsOf xs with
    | some ns => some (.fz (.int (ns.count i : Nat)))
    | none => none
  | _ => none
theorem m_countT : MtR X "tuple.count" (fun x xs H Q => rD X.K gCntT (x :: xs) H Q) := by
  intro pins s σ H x xs v us Q I rx rv h
  obtain ⟨B, ds, out, sB, ar, hg, q⟩ := h
  unfold gCntT at hg
  split at hg
  · next ys i =>
    split at hg
    · next ns hn =>
      cases hg
      rw [intsOf_eq hn] at ar
      cases ar with
      | cons a1 t => cases t with
        | cons a2 t =>
          cases t
          obtain ⟨p1, ws, rfl, s1, d1⟩ := a1.tup
          rw [DaAll.ints d1] at s1
          rw [a2.int] at rv
          cases rx
          obtain ⟨u, rfl, ru⟩ := rv.one
          obtain ⟨tk, rfl⟩ := ru
          obtain ⟨its, rvs, ⟨⟨cls, dd, data, sl⟩, ho, hc, n, hd⟩, hlen⟩ := I.tuple (SqN.up sB s1)
          simp only at hc hd
          subst hc hd
          have hi := ints_of_vals rvs
          refine call_meets PySem.F.slot_tuple_count ⟨_, ho, rfl⟩ PySem.F.entry_tuple_count (PySem.F.args_tuple_count_2 _ _)
            (SeqAt.tuple_countAt p1 its.toArray n dd sl (.int i tk) (eqk i)) ⟨ho, fun y hy => (eqk_gives hi y (by simpa using hy)).at _ _, ?_⟩
          have ec : its.toArray.toList.countP (eqk i) = ns.count i := eqk_count hi
          refine ⟨.int (ns.count i : Nat), H, I.tok _, ⟨s.toks, ?_⟩, q.imm sB fun _ => .int _⟩
          show Value.int ((its.toArray.toList.countP (eqk i) : Nat) : Int) s.toks = Value.int ((ns.count i : Nat) : Int) s.toks
          rw [ec]
    · cases hg
  · cases hg
/-- t.index(i) -/
def gIndexT : List PyData → Option Out
  | [.tuple xs, .int i] => match intsOf xs with
    | some ns => if i ∈ ns then some (.fz (.int (ns.idxOf i : Nat))) else none
    | none => none
  | _ => none
theorem m_indexT : MtR X "tuple.index" (fun x xs H Q => rD X.K gIndexT (x :: xs) H Q) := by
  intro pins s σ H x xs v us Q I rx rv h
  obtain ⟨B, ds, out, sB, ar, hg, q⟩ := h
  unfold gIndexT at hg
  split at hg
  · next ys i =>
    split at hg
    · next ns hn =>
      split at hg
      · next hmem =>
        cases hg
        rw [intsOf_eq hn] at ar
        cases ar with
        | cons a1 t => cases t with
          | cons a2 t =>
            cases t
            obtain ⟨p1, ws, rfl, s1, d1⟩ := a1.tup
            rw [DaAll.ints d1] at s1
            rw [a2.int] at rv
            cases rx
            obtain ⟨u, rfl, ru⟩ := rv.one
            obtain ⟨tk, rfl⟩ := ru
            obtain ⟨its, rvs, pt, hlen⟩ := I.tuple (SqN.up sB s1)
            have hi := ints_of_vals rvs
            exact SeqAt.tuple_index_ints (show s.heap.IsTuple p1 its.toArray from pt) hi hmem ⟨.int (ns.idxOf i : Nat), H, I.tok _, ⟨s.toks, rfl⟩, q.imm sB fun _ => .int _⟩
      · cases hg
    · cases hg
  · cases hg
end
end DL

namespace DL
open PySem PySem.Spec PyProof.Rows L2
def B_law : Dn Fl := (dSeq (dSet 1 (dLst []))
  (dSeq (dSetF 2 (dCall F_law_some_room [(dVar 0), (dVar 1), (dC (.int 4))]))
  (dSeq (dParF 12 13 (dCall F_law_pays [(dVar 2)]) (dCall F_law_first_best [(dVar 2)]))
  (dSeq (dSetF 3 (dComp (dIt gZip3 [(dVar 2), (dVar 13), (dVar 12)]) (.tp [16, 17, 18]) dYes (dB gSub [(dB gIx [(dVar 16), (dVar 17)]), (dVar 18)]) [16, 17, 18]))
  (dSeq (dIfS (dOrT (dTruth (dB gNe [(dCall F_payments [(dVar 2)]), (dVar 12)])) (dTruth (dB gNe [(dCall F_kept [(dVar 2)]), (dVar 3)]))) (dRet (dC (.bool false))) dNext)
  (dSeq (dIfS (dOrT (dTruth (dB gLt [(dB gMin [(dVar 12)]), (dC (.int 0))])) (dTruth (dB gLt [(dB gMin [(dCall F_kept [(dVar 2)])]), (dC (.int 0))]))) (dRet (dC (.bool false))) dNext)
  (dSeq (dSetF 4 (dB gRgT [(dB gLen [(dVar 2)])]))
  (dSeq (dFor (dIt gSeq [(dVar 4)]) (.nm 5) (dSeq (dSetF 14 (dB gAdd [(dB (gHi gCut) [(dVar 4), (dVar 5)]), (dB (gLo gCut) [(dVar 4), (dB gAdd [(dVar 5), (dC (.int 1))])])]))
  (dSeq (dIfS (dTruth (dB gNe [(dB gIx [(dCall F_kept [(dVar 2)]), (dVar 5)]), (dB gSub [(dCall F_best_total [(dVar 2), (dVar 4)]), (dCall F_best_total [(dVar 2), (dVar 14)])])])) (dRet (dC (.bool false))) dNext)
  (dIfS (dAndT (dTruth (dB gEq [(dB gIx [(dVar 13), (dVar 5)]), (dC (.int 0))])) (dTruth (dB gNe [(dB gIx [(dVar 12), (dVar 5)]), (dC (.int 0))]))) (dRet (dC (.bool false))) dNext))))
  (dSeq (dSetF 6 (dComp (dIt gRng1 [(dB gAdd [(dC (.int 1)), (dCall F_law_draw [(dVar 0), (dVar 1), (dC (.int 4))])])]) (.nm 15) dYes (dCall F_law_draw [(dVar 0), (dVar 1), (dC (.int 10))]) [15]))
  (dSeq (dSetF 7 (dB gTuple [(dComp (dIt gSeq [(dVar 6)]) (.nm 19) dYes (dTup [(dC (.int 0)), (dVar 19)]) [19])]))
  (dSeq (dSetF 8 (dCall F_best_allotment [(dVar 7)]))
  (dSeq (dSetF 9 (dB gAdd [(dB gRev [(dB gSorted [(dVar 6)])]), (dLst [(dC (.int 0))])]))
  (dSeq (dIfS (dTruth (dB gNe [(dM "tuple" gCntT (dVar 8) [(dC (.int 1))]), (dC (.int 1))])) (dRet (dAnd (dB gEq [(dB gMax [(dVar 6)]), (dC (.int 0))]) (dB gEq [(dCall F_payments [(dVar 7)]), (dB gMul [(dLst [(dC (.int 0))]), (dB gLen [(dVar 6)])])]))) dNext)
  (dSeq (dSetF 10 (dM "tuple" gIndexT (dVar 8) [(dC (.int 1))]))
  (dSeq (dSetF 11 (dCall F_payments [(dVar 7)]))
  (dRet (dAnd (dB gEq [(dB gIx [(dVar 6), (dVar 10)]), (dB gIx [(dVar 9), (dC (.int 0))])]) (dAnd (dB gEq [(dB gIx [(dVar 11), (dVar 10)]), (dB gIx [(dVar 9), (dC (.int 1))])]) (dB gEq [(dB gSum [(dVar 11)]), (dB gIx [(dVar 9), (dC (.int 1))])])))))))))))))))))))
def F_law : Dn Rv := fnD 1 19 B_law
end DL

namespace DL
open PySem PySem.Spec PyProof.Rows L2
local macro_rules | `(tactic| walk_at "G") => `(tactic| first | (with_reducible assumption) | exact go_fz gAddN | exact go_fz (gSubN (by omega)) | exact go_fz gLtN | exact go_fz (gEqN _ _) | exact go_fz (gEqI _ _) | exact go_fz (gNeI _ _) | exact go_fz (gEqT _ _) | exact go_fz (gNeT _ _) | exact go_fz (gEqIs _ _) | exact go_fz (gNeIs _ _) | exact go_fz (gEqR _ _) | exact go_fz (gNeR _ _) | exact go_fz (gEqB _ _) | exact go_fz (gNeB _ _) | exact go_fz (gMaxI2 _ _) | exact go_fz (gMinI _ _) | exact go_fz gLenR | exact go_fz (gLenT _) | exact go_fz (gLenL _) | exact go_fz gInN | exact go_fz rfl | exact go_nl rfl)
local macro_rules | `(tactic| walk_at "As") => `(tactic| first | (with_reducible exact Afs.nil) | ((with_reducible refine' Afs.cons ?h1 ?h2); (case h1 => walk_at "A"); (case h2 => walk_at "As")))
local macro_rules | `(tactic| walk_at "V") => `(tactic| first | (with_reducible assumption) | ((with_reducible refine' a_own ?h); (case h => exact rfl)) | ((with_reducible refine' Af.a ?h); (case h => walk_at "A")))
local macro_rules | `(tactic| walk_at "F") => `(tactic| first | (with_reducible assumption) | assumption)
local macro_rules | `(tactic| walk_at "A") => `(tactic| first | (with_reducible assumption) | ((with_reducible refine' a_var ?h); (case h => exact rfl)) | (with_reducible exact a_c) | ((with_reducible refine' a_call ?h1 ?h2); (case h1 => walk_at "As"); (case h2 => walk_at "F")) | ((with_reducible refine' a_tup ?h); (case h => walk_at "As")) | ((with_reducible refine' a_lst ?h); (case h => walk_at "As")) | ((with_reducible refine' b_1 ?h1 ?h2); (case h1 => walk_at "V"); (case h2 => walk_at "G")) | ((with_reducible refine' b_2 ?h1 ?h2 ?h3); (case h1 => walk_at "V"); (case h2 => walk_at "V"); (case h3 => walk_at "G")) | ((with_reducible refine' a_and ?h1 (fun _ => ?h2)); (case h1 => walk_at "V"); (case h2 => walk_at "A")) | ((with_reducible refine' a_or ?h1 (fun _ => ?h2)); (case h1 => walk_at "V"); (case h2 => walk_at "A")) | ((with_reducible refine' a_not ?h1); (case h1 => walk_at "V")) | ((with_reducible refine' a_ife1 ?h1 ?h2 ?h3); (case h1 => walk_at "T"); (case h2 => walk_at "A"); (case h3 => walk_at "A")) | ((with_reducible refine' a_chain ?h1 ?h2 ?h3 ?h4 ?h5); (case h1 => walk_at "A"); (case h2 => walk_at "A"); (case h3 => walk_at "A"); (case h4 => exact rfl); (case h5 => exact rfl)))
local macro_rules | `(tactic| walk_at "T") => `(tactic| first | (with_reducible assumption) | ((with_reducible refine' t_truth ?h); (case h => walk_at "V")) | ((with_reducible refine' t_not ?h); (case h => walk_at "T")) | ((with_reducible refine' t_or ?h1 (fun _ => ?h2)); (case h1 => walk_at "T"); (case h2 => walk_at "T")) | ((with_reducible refine' t_and ?h1 (fun _ => ?h2)); (case h1 => walk_at "T"); (case h2 => walk_at "T")) | (with_reducible exact t_yes))

theorem rxl {r : Rv} {xs : List PyData} (h : Rx [] r (.list xs)) : ∃ r', r' = r := ⟨r, rfl⟩
theorem comp_ofE {di : Dn (List PyData)} {t : Tg} {tt : Dn Bool} {te : Dn Rv} {vs : List Nat} {e e1 : List Sl} {items : List PyData} {q : Res Rv} (d1 : di e = .ok items e1) (h : dComp (fun e => .ok items e) t tt te vs e1 = q) : dComp di t tt te vs e = q := by
  rw [← h]
  simp only [dComp, bnd, d1]
theorem min_nonneg {l : List Int} (hne : l ≠ []) (h : ∀ x ∈ l, 0 ≤ x) : decide (minL l < 0) = false := by
  have := h _ (minL_mem hne).1
  exact decide_eq_false (by omega)
theorem range_cut {n i : Nat} (hi : i < n) : (List.range n).take i ++ (List.range n).drop (i + 1) = oth n i := by
  have e : List.range n = List.range i ++ i :: (List.range (n - i - 1)).map (· + (i + 1)) := by
    apply List.ext_getElem
    · simp; omega
    · intro k h1 h2
      simp only [List.getElem_range]
      rw [List.getElem_append]
      split
      · next c => simp
      · next c =>
        simp only [List.length_range] at c
        by_cases z : k = i
        · subst z; simp
        · have : k - (List.range i).length = (k - i - 1) + 1 := by simp; omega
          simp only [this, List.getElem_cons_succ, List.getElem_map, List.getElem_range]
          omega
  unfold oth
  rw [e]
  have f1 : (List.range i).filter (fun j => !decide (j = i)) = List.range i := List.filter_eq_self.2 fun j hj => by have := List.mem_range.1 hj; simp; omega
  have f2 : ((List.range (n - i - 1)).map (· + (i + 1))).filter (fun j => !decide (j = i)) = (List.range (n - i - 1)).map (· + (i + 1)) := List.filter_eq_self.2 fun j hj => by
    obtain ⟨k, _, rfl⟩ := List.mem_map.1 hj
    simp; omega
  rw [List.filter_append, List.filter_cons_of_neg (by simp), f1, f2]
  congr 1
  · rw [List.take_append_of_le_length (by simp)]; simp
  · rw [List.drop_append]
    simp
theorem gCntN (l : List Int) (i : Int) : gCntT [tupI l, .int i] = some (.fz (.int (l.count i : Nat))) := by simp only [gCntT, tupI, intsOf_map]
theorem gIdxN {l : List Int} {i : Int} (h : i ∈ l) : gIndexT [tupI l, .int i] = some (.fz (.int (l.idxOf i : Nat))) := by simp only [gIndexT, tupI, intsOf_map, if_pos h]
theorem gSortI (l : List Int) : gSorted [.list (l.map .int)] = some (.nl ((sortI l).map .int)) := by simp only [gSorted, intsOf_map]
theorem gMulZ {n : Nat} (hn : n ≤ 1000) : gMul [.list [.int 0], nI n] = some (.nl ((List.replicate n (0 : Int)).map .int)) := by
  simp only [gMul, nI]
  rw [if_pos ⟨by decide, by omega, by omega⟩, Int.toNat_natCast]
  simp
theorem law_true : ∀ ns : List Int, ns.length ≤ 63 → ∃ e, F_law [.fz (.list (ns.map .int))] = .ok (.fz (.bool true)) e := by
  intro ns hn
  refine law_of (nl := 19) (B := B_law) (x := .fz (sc ns)) ?_
  refine w_then (e1 := [.fz (sc ns), tw0 0, .un, .un, .un, .un, .un, .un, .un, .un, .un, .un, .un, .un, .un, .un, .un, .un, .un, .un]) (s_setL (i := 1) .nil) ?_
  obtain ⟨m, R, t, h, h4, ht, hroom⟩ := some_room_eq hn (t := 0) (most := 4) (by decide) (by decide) (by decide)
  have n1 := h.n1
  have n4 := h.n4
  have m1 := h.m1
  have m3 := h.m3
  have hlen : ∀ b ∈ R, b.length = 2 ^ m := fun b hb => (h.bid b hb).len
  refine w_then (e1 := [.fz (sc ns), tw0 t, .fz (rmD R), .un, .un, .un, .un, .un, .un, .un, .un, .un, .un, .un, .un, .un, .un, .un, .un, .un]) (se_setF (i := 2) (town_call (xs := [nI 4]) hroom (i := 0) (j := 1) rfl rfl (.cons a_c .nil))) ?_
  refine w_then (e1 := [.fz (sc ns), tw0 t, .fz (rmD R), .un, .un, .un, .un, .un, .un, .un, .un, .un, .fz (.list ((pays R m).map .int)), .fz (tupI (opA R m)), .un, .un, .un, .un, .un, .un]) (se_parF (i := 12) (j := 13) (a_call (.cons (a_var (i := 2) rfl) .nil) (law_pays_fn h)).ae (a_call (.cons (a_var (i := 2) rfl) .nil) (first_best_fn h)).ae) ?_
  have a1 := keeps_fn h (e := [.fz (sc ns), tw0 t, .fz (rmD R), .un, .un, .un, .un, .un, .un, .un, .un, .un, .fz (.list ((pays R m).map .int)), .fz (tupI (opA R m)), .un, .un, .un, .un, .un, .un]) (r := 2) (o := 13) (p := 12) (x := 16) (y := 17) (z := 18) rfl rfl rfl rfl (fun i => [.fz (sc ns), tw0 t, .fz (rmD R), .un, .un, .un, .un, .un, .un, .un, .un, .un, .fz (.list ((pays R m).map .int)), .fz (tupI (opA R m)), .un, .un, .fz (tupI (R.getD i [])), .fz (.int ((opA R m).getD i 0)), .fz (.int (pay R m i)), .un]) (fun i _ => rfl) (fun i _ => rfl) (fun _ => rfl) (fun _ => rfl) (fun _ => rfl)
  refine w_then (e1 := [.fz (sc ns), tw0 t, .fz (rmD R), .fz (.list ((keps R m).map .int)), .un, .un, .un, .un, .un, .un, .un, .un, .fz (.list ((pays R m).map .int)), .fz (tupI (opA R m)), .un, .un, .un, .un, .un, .un]) (s_setF' (i := 3) a1) ?_
  refine w_then (s_if_skip (te_is (t_or (e := [.fz (sc ns), tw0 t, .fz (rmD R), .fz (.list ((keps R m).map .int)), .un, .un, .un, .un, .un, .un, .un, .un, .fz (.list ((pays R m).map .int)), .fz (tupI (opA R m)), .un, .un, .un, .un, .un, .un]) (t_truth (a_B2 (g := gNe) (a_call (.cons (a_var (i := 2) rfl) .nil) (payments_fn h)).a (a_var (i := 12) rfl).a (gNeIs _ _)).a) (fun _ => t_truth (a_B2 (g := gNe) (a_call (.cons (a_var (i := 2) rfl) .nil) (kept_fn h)).a (a_var (i := 3) rfl).a (gNeIs _ _)).a)) (by simp))) ?_
  have pne : pays R m ≠ [] := fun e => by have := congrArg List.length e; simp [pays] at this; rw [this] at n1; simp at n1
  have kne : keps R m ≠ [] := fun e => by have := congrArg List.length e; simp [keps] at this; rw [this] at n1; simp at n1
  have gMinN : ∀ l : List Int, l ≠ [] → gMin [.list (l.map .int)] = some (.fz (.int (minL l))) := fun l hl => by
    cases l with
    | nil => exact absurd rfl hl
    | cons a l => exact gMinL a l
  refine w_then (s_if_skip (te_is (t_or (e := [.fz (sc ns), tw0 t, .fz (rmD R), .fz (.list ((keps R m).map .int)), .un, .un, .un, .un, .un, .un, .un, .un, .fz (.list ((pays R m).map .int)), .fz (tupI (opA R m)), .un, .un, .un, .un, .un, .un]) (t_truth (a_B2 (g := gLt) (z := .bool (decide (minL (pays R m) < 0))) (a_B1 (g := gMin) (a_var (i := 12) rfl).a (gMinN _ pne)).a (a_c (x := .int 0)).a rfl).a) (fun _ => t_truth (a_B2 (g := gLt) (z := .bool (decide (minL (keps R m) < 0))) (a_B1 (g := gMin) (a_call (.cons (a_var (i := 2) rfl) .nil) (kept_fn h)).a (gMinN _ kne)).a (a_c (x := .int 0)).a rfl).a)) ?_)) ?_
  · rw [min_nonneg pne fun x hx => ?_, min_nonneg kne fun x hx => ?_]
    · rfl
    · obtain ⟨i, hi, rfl⟩ := List.mem_map.1 hx
      exact kep_nonneg i
    · obtain ⟨i, hi, rfl⟩ := List.mem_map.1 hx
      exact pay_nonneg h (List.mem_range.1 hi)
  refine w_then (e1 := [.fz (sc ns), tw0 t, .fz (rmD R), .fz (.list ((keps R m).map .int)), .fz (gT (List.range R.length)), .un, .un, .un, .un, .un, .un, .un, .fz (.list ((pays R m).map .int)), .fz (tupI (opA R m)), .un, .un, .un, .un, .un, .un]) (s_setF' (i := 4) (a_B1 (g := gRgT) (a_B1 (g := gLen) (a_var (i := 2) rfl).a gLenR).a (gRgTN (by omega)))) ?_
  have hg : Grp R.length (List.range R.length) := sub_grp (List.Sublist.refl _)
  have hrow := opA_row (m := m) (R := R)
  refine w_seq (w_forU nI (fun e => ∃ x5 x14, e = [.fz (sc ns), tw0 t, .fz (rmD R), .fz (.list ((keps R m).map .int)), .fz (gT (List.range R.length)), x5, .un, .un, .un, .un, .un, .un, .fz (.list ((pays R m).map .int)), .fz (tupI (opA R m)), x14, .un, .un, .un, .un, .un]) (List.range R.length) (i_seqT (a_var (i := 4) rfl)) ⟨_, _, rfl⟩ ?_ ?_)
  · rintro i _ hi ⟨x5, x14, rfl⟩
    have hi := List.mem_range.1 hi
    have hgo : Grp R.length (oth R.length i) := sub_grp List.filter_sublist
    refine ⟨_, rfl, ?_⟩
    have c1 : gHi gCut [gT (List.range R.length), nI i] = some (.fz (gT ((List.range R.length).take i))) := by
      rw [gT, gHiT _ _ (by simp; omega), ← List.map_take]; rfl
    have c2 : gLo gCut [gT (List.range R.length), nI (i + 1)] = some (.fz (gT ((List.range R.length).drop (i + 1)))) := by
      rw [gT, gLoT _ _ (by simp; omega), ← List.map_drop]; rfl
    have c3 : gAdd [gT ((List.range R.length).take i), gT ((List.range R.length).drop (i + 1))] = some (.fz (gT (oth R.length i))) := by
      rw [gT, gT, gAddT (by simp; omega), ← List.map_append, range_cut hi]; rfl
    refine w_then (e1 := [.fz (sc ns), tw0 t, .fz (rmD R), .fz (.list ((keps R m).map .int)), .fz (gT (List.range R.length)), .fz (nI i), .un, .un, .un, .un, .un, .un, .fz (.list ((pays R m).map .int)), .fz (tupI (opA R m)), .fz (gT (oth R.length i)), .un, .un, .un, .un, .un]) (s_setF' (i := 14) (a_B2 (g := gAdd) (a_B2 (g := gHi gCut) (a_var (i := 4) rfl).a (a_var (i := 5) rfl).a c1).a (a_B2 (g := gLo gCut) (a_var (i := 4) rfl).a (a_B2 (g := gAdd) (a_var (i := 5) rfl).a (a_c (x := nI 1)).a gAddN).a c2).a c3)) ?_
    refine w_then (s_if_skip (te_is (t_truth (a_B2 (g := gNe) (e := [.fz (sc ns), tw0 t, .fz (rmD R), .fz (.list ((keps R m).map .int)), .fz (gT (List.range R.length)), .fz (nI i), .un, .un, .un, .un, .un, .un, .fz (.list ((pays R m).map .int)), .fz (tupI (opA R m)), .fz (gT (oth R.length i)), .un, .un, .un, .un, .un]) (a_B2 (g := gIx) (a_call (.cons (a_var (i := 2) rfl) .nil) (kept_fn h)).a (a_var (i := 5) rfl).a (kep_ix hi)).a (a_B2 (g := gSub) (z := .int (kep R m i)) (a_call (.cons (a_var (i := 2) rfl) (.cons (a_var (i := 4) rfl) .nil)) (best_total_fn h hg)).a (a_call (.cons (a_var (i := 2) rfl) (.cons (a_var (i := 14) rfl) .nil)) (best_total_fn h hgo)).a rfl).a (gNeI _ _)).a) (by simp))) ?_
    refine w_ok (s_if_skip (te_is (t_and (e := [.fz (sc ns), tw0 t, .fz (rmD R), .fz (.list ((keps R m).map .int)), .fz (gT (List.range R.length)), .fz (nI i), .un, .un, .un, .un, .un, .un, .fz (.list ((pays R m).map .int)), .fz (tupI (opA R m)), .fz (gT (oth R.length i)), .un, .un, .un, .un, .un]) (t_truth (a_B2 (g := gEq) (a_B2 (g := gIx) (a_var (i := 13) rfl).a (a_var (i := 5) rfl).a (row_ix hrow hi)).a (a_c (x := .int 0)).a (gEqI _ _)).a) (fun _ => t_truth (a_B2 (g := gNe) (a_B2 (g := gIx) (a_var (i := 12) rfl).a (a_var (i := 5) rfl).a (pay_ix hi)).a (a_c (x := .int 0)).a (gNeI _ _)).a)) ?_)) ⟨rfl, _, _, rfl⟩
    by_cases c : (opA R m).getD i 0 = 0
    · rw [lost_pay h hi c]; simp
    · rw [decide_eq_false c]; rfl
  rintro _ ⟨x5, x14, rfl⟩
  refine ⟨fun _ => ?_, fun r hr => by cases hr⟩
  obtain ⟨v, v0, v1, hv⟩ := ae_draw hn (t := t) (by omega) (many := 4) (by decide) (e := [.fz (sc ns), tw0 t, .fz (rmD R), .fz (.list ((keps R m).map .int)), .fz (gT (List.range R.length)), x5, .un, .un, .un, .un, .un, .un, .fz (.list ((pays R m).map .int)), .fz (tupI (opA R m)), x14, .un, .un, .un, .un, .un]) (i := 0) (j := 1) rfl rfl (a_c (x := .int 4))
  obtain ⟨k0, rfl⟩ := Int.eq_ofNat_of_zero_le v0
  obtain ⟨kn, hkn⟩ : ∃ kn, kn = 1 + k0 := ⟨_, rfl⟩
  have hdi : dIt gRng1 [(dB gAdd [(dC (.int 1)), (dCall F_law_draw [(dVar 0), (dVar 1), (dC (.int 4))])])] [.fz (sc ns), tw0 t, .fz (rmD R), .fz (.list ((keps R m).map .int)), .fz (gT (List.range R.length)), x5, .un, .un, .un, .un, .un, .un, .fz (.list ((pays R m).map .int)), .fz (tupI (opA R m)), x14, .un, .un, .un, .un, .un] = .ok ((List.range kn).map nI) [.fz (sc ns), tw0 (t + 1), .fz (rmD R), .fz (.list ((keps R m).map .int)), .fz (gT (List.range R.length)), x5, .un, .un, .un, .un, .un, .un, .fz (.list ((pays R m).map .int)), .fz (tupI (opA R m)), x14, .un, .un, .un, .un, .un] :=
    it_eqE (xs := [nI kn]) (.cons (ae_B2 (g := gAdd) (z := nI kn) (a_c (x := .int 1)).ae hv (by show some (Out.fz (.int (1 + (k0 : Int)))) = _; simp [nI, hkn])) .nil) (rng1 (by omega))
  obtain ⟨ws, z1, z2, z3⟩ := comp_dr (β := Int) (di := fun e => .ok ((List.range kn).map nI) e) (tg := .nm 15) (te := dCall F_law_draw [(dVar 0), (dVar 1), (dC (.int 10))]) (vs := [15]) (e := [.fz (sc ns), tw0 (t + 1), .fz (rmD R), .fz (.list ((keps R m).map .int)), .fz (gT (List.range R.length)), x5, .un, .un, .un, .un, .un, .un, .fz (.list ((pays R m).map .int)), .fz (tupI (opA R m)), x14, .un, .un, .un, .un, .un]) (fun t => [.fz (sc ns), tw0 t, .fz (rmD R), .fz (.list ((keps R m).map .int)), .fz (gT (List.range R.length)), x5, .un, .un, .un, .un, .un, .un, .fz (.list ((pays R m).map .int)), .fz (tupI (opA R m)), x14, .un, .un, .un, .un, .un]) nI (fun y => 0 ≤ y ∧ y ≤ 9) PyData.int (List.range kn) (t + 1) rfl rfl fun t' x _ ht2' _ => by
      rw [List.length_range] at ht2'
      obtain ⟨v, v0, v1, hv⟩ := draw_call hn (t := t') (by omega) (many := 10) (by decide) (e := [.fz (sc ns), tw0 t', .fz (rmD R), .fz (.list ((keps R m).map .int)), .fz (gT (List.range R.length)), x5, .un, .un, .un, .un, .un, .un, .fz (.list ((pays R m).map .int)), .fz (tupI (opA R m)), x14, .fz (nI x), .un, .un, .un, .un]) (i := 0) (j := 1) rfl rfl (a_c (x := .int 10))
      exact ⟨v, ⟨v0, by omega⟩, _, _, _, _, rfl, hv, rfl, rfl⟩
  generalize ht4 : (t + 1) + (List.range kn).length = t2 at z3
  rw [List.length_range] at z1
  refine w_then (e1 := [.fz (sc ns), tw0 t2, .fz (rmD R), .fz (.list ((keps R m).map .int)), .fz (gT (List.range R.length)), x5, .fz (.list (ws.map .int)), .un, .un, .un, .un, .un, .fz (.list ((pays R m).map .int)), .fz (tupI (opA R m)), x14, .un, .un, .un, .un, .un]) (se_setF (i := 6) (x := .list (ws.map .int)) ⟨_, comp_ofE hdi z3, rfl⟩) ?_
  have w1 : 1 ≤ ws.length := by omega
  have w4 : ws.length ≤ 4 := by omega
  have hS := sgR_rm w1 w4 z2
  have a2 := a_map (t := .nm 19) (vs := [19]) (di := dIt gSeq [(dVar 6)]) (te := dTup [(dC (.int 0)), (dVar 19)]) (e := [.fz (sc ns), tw0 t2, .fz (rmD R), .fz (.list ((keps R m).map .int)), .fz (gT (List.range R.length)), x5, .fz (.list (ws.map .int)), .un, .un, .un, .un, .un, .fz (.list ((pays R m).map .int)), .fz (tupI (opA R m)), x14, .un, .un, .un, .un, .un]) PyData.int (fun w => tupI [0, w]) ws (i_seqL (a_var (i := 6) rfl)) (fun w => [.fz (sc ns), tw0 t2, .fz (rmD R), .fz (.list ((keps R m).map .int)), .fz (gT (List.range R.length)), x5, .fz (.list (ws.map .int)), .un, .un, .un, .un, .un, .fz (.list ((pays R m).map .int)), .fz (tupI (opA R m)), x14, .un, .un, .un, .un, .fz (.int w)]) rfl fun w _ => ⟨rfl, rfl, a_tup (.cons (a_c (x := .int 0)) (.cons (a_var (i := 19) rfl) .nil))⟩
  refine w_then (e1 := [.fz (sc ns), tw0 t2, .fz (rmD R), .fz (.list ((keps R m).map .int)), .fz (gT (List.range R.length)), x5, .fz (.list (ws.map .int)), .fz (rmD (sgR ws)), .un, .un, .un, .un, .fz (.list ((pays R m).map .int)), .fz (tupI (opA R m)), x14, .un, .un, .un, .un, .un]) (s_setF' (i := 7) (a_B1 (g := gTuple) (z := rmD (sgR ws)) a2.a (by rw [rmD, sgR, List.map_map]; rfl))) ?_
  refine w_then (e1 := [.fz (sc ns), tw0 t2, .fz (rmD R), .fz (.list ((keps R m).map .int)), .fz (gT (List.range R.length)), x5, .fz (.list (ws.map .int)), .fz (rmD (sgR ws)), .fz (tupI (opA (sgR ws) 1)), .un, .un, .un, .fz (.list ((pays R m).map .int)), .fz (tupI (opA R m)), x14, .un, .un, .un, .un, .un]) (s_setF' (i := 8) (a_call (.cons (a_var (i := 7) rfl) .nil) (best_allotment_fn hS))) ?_
  refine w_then (e1 := [.fz (sc ns), tw0 t2, .fz (rmD R), .fz (.list ((keps R m).map .int)), .fz (gT (List.range R.length)), x5, .fz (.list (ws.map .int)), .fz (rmD (sgR ws)), .fz (tupI (opA (sgR ws) 1)), .fz (.list (((sortI ws).reverse ++ [0]).map .int)), .un, .un, .fz (.list ((pays R m).map .int)), .fz (tupI (opA R m)), x14, .un, .un, .un, .un, .un]) (s_setF' (i := 9) (a_B2l (g := gAdd) (zs := (((sortI ws).reverse ++ [0]).map PyData.int)) (a_B1l (g := gRev) (zs := (sortI ws).reverse.map PyData.int) (a_B1l (g := gSorted) (a_var (i := 6) rfl).a (gSortI _)).a (by rw [List.map_reverse]; rfl)).a (a_lst (.cons (a_c (x := .int 0)) .nil)).a (by
    have hl : (sortI ws).length = ws.length := List.length_mergeSort ..
    have : ((sortI ws).reverse.map PyData.int).length + [PyData.int 0].length ≤ 100000 := by simp [hl]; omega
    simp only [gAdd]
    rw [if_pos this, List.map_append]; rfl))) ?_
  have sl := sgR_len ws
  have T := t_truth (a_B2 (g := gNe) (e := [.fz (sc ns), tw0 t2, .fz (rmD R), .fz (.list ((keps R m).map .int)), .fz (gT (List.range R.length)), x5, .fz (.list (ws.map .int)), .fz (rmD (sgR ws)), .fz (tupI (opA (sgR ws) 1)), .fz (.list (((sortI ws).reverse ++ [0]).map .int)), .un, .un, .fz (.list ((pays R m).map .int)), .fz (tupI (opA R m)), x14, .un, .un, .un, .un, .un]) (a_M (T := "tuple") (g := gCntT) (a_var (i := 8) rfl) rfl (.cons (a_c (x := .int 1)) .nil) (gCntN _ _)).a (a_c (x := .int 1)).a (gNeI _ _)).a
  rcases got_case w1 w4 z2 with ⟨g1, g2, g3⟩ | ⟨i, hi, g1, g2, g3⟩
  · refine w_seq (w_if (c := true) (te_is T ?_) (fun _ => ?_) (fun z => by cases z))
    · rw [g1, zero_count]; rfl
    have wne : ws ≠ [] := fun e => by rw [e] at w1; simp at w1
    have gMaxN : gMax [.list (ws.map .int)] = some (.fz (.int (maxL ws))) := by
      cases ws with
      | nil => exact absurd rfl wne
      | cons a l => exact gMaxL a l
    have hm0 : maxL ws = 0 := by
      have q := (maxL_mem wne).1
      have q0 := (z2 _ q).1
      rw [← ws_map ws] at q
      obtain ⟨k, hk, e⟩ := List.mem_map.1 q
      have := g3 k (List.mem_range.1 hk)
      rw [ws_map] at e
      omega
    have hp0 : pays (sgR ws) 1 = List.replicate ws.length 0 := by
      rw [List.eq_replicate_iff]
      refine ⟨by simp [pays, sl], fun x hx => ?_⟩
      obtain ⟨k, hk, rfl⟩ := List.mem_map.1 hx
      have hk := List.mem_range.1 hk
      refine lost_pay hS hk ?_
      rw [g1]
      rw [sl] at hk
      simp [List.getD, hk]
    refine w_ret (x := .bool true) (af_is (a_and (e := [.fz (sc ns), tw0 t2, .fz (rmD R), .fz (.list ((keps R m).map .int)), .fz (gT (List.range R.length)), x5, .fz (.list (ws.map .int)), .fz (rmD (sgR ws)), .fz (tupI (opA (sgR ws) 1)), .fz (.list (((sortI ws).reverse ++ [0]).map .int)), .un, .un, .fz (.list ((pays R m).map .int)), .fz (tupI (opA R m)), x14, .un, .un, .un, .un, .un]) (a_B2 (g := gEq) (a_B1 (g := gMax) (a_var (i := 6) rfl).a gMaxN).a (a_c (x := .int 0)).a (gEqI _ _)).a fun _ => a_B2 (g := gEq) (a_call (.cons (a_var (i := 7) rfl) .nil) (payments_fn hS)).a (a_B2l (g := gMul) (a_lst (.cons (a_c (x := .int 0)) .nil)).a (a_B1 (g := gLen) (z := nI ws.length) (a_var (i := 6) rfl).a (by rw [gLenL, List.length_map])).a (gMulZ (by omega))).a (gEqIs _ _)) (by rw [decide_eq_true hm0, decide_eq_true hp0]; rfl)) fun r hr => ⟨(fun z => by cases z), fun r' hr' => ?_⟩
    cases hr'
    rw [rx_true hr]
  · obtain ⟨u1, u2, u3⟩ := un1_facts w4 hi
    refine w_then (s_if_skip (te_is T ?_)) ?_
    · rw [g1, u1]; rfl
    refine w_then (e1 := [.fz (sc ns), tw0 t2, .fz (rmD R), .fz (.list ((keps R m).map .int)), .fz (gT (List.range R.length)), x5, .fz (.list (ws.map .int)), .fz (rmD (sgR ws)), .fz (tupI (opA (sgR ws) 1)), .fz (.list (((sortI ws).reverse ++ [0]).map .int)), .fz (nI i), .un, .fz (.list ((pays R m).map .int)), .fz (tupI (opA R m)), x14, .un, .un, .un, .un, .un]) (s_setF' (i := 10) (a_M (T := "tuple") (g := gIndexT) (a_var (i := 8) rfl) rfl (.cons (a_c (x := .int 1)) .nil) (by rw [g1, gIdxN u2, u3]; rfl))) ?_
    refine w_then (e1 := [.fz (sc ns), tw0 t2, .fz (rmD R), .fz (.list ((keps R m).map .int)), .fz (gT (List.range R.length)), x5, .fz (.list (ws.map .int)), .fz (rmD (sgR ws)), .fz (tupI (opA (sgR ws) 1)), .fz (.list (((sortI ws).reverse ++ [0]).map .int)), .fz (nI i), .fz (.list ((pays (sgR ws) 1).map .int)), .fz (.list ((pays R m).map .int)), .fz (tupI (opA R m)), x14, .un, .un, .un, .un, .un]) (s_setF' (i := 11) (a_call (.cons (a_var (i := 7) rfl) .nil) (payments_fn hS))) ?_
    obtain ⟨r, r1, r2, r3⟩ := rank_top w4 hi g3
    obtain ⟨vv, q1, q2, q3, q4⟩ := rank_next r2 r3 (fun k => w_nonneg z2 k)
    have hvo := vo1 w1 w4 z2 (i := i) q2 q3 q4
    have his : i < (sgR ws).length := by rw [sl]; exact hi
    have hpi : pay (sgR ws) 1 i = vv := by
      have e0 : pay (sgR ws) 1 i = Vo (sgR ws) 1 i - (Va (sgR ws) 1 - val ((sgR ws).getD i []) ((opA (sgR ws) 1).getD i 0)) := rfl
      have e1 : (opA (sgR ws) 1).getD i 0 = 1 := by rw [g1]; simp [un1, List.getD, hi]
      rw [e0, e1, hvo, g2, sgR_row hi]
      show vv - (ws.getD i 0 - ws.getD i 0) = vv
      omega
    have hsum : (pays (sgR ws) 1).sum = vv := by
      unfold pays
      rw [sum_rangeN, ← hpi, ← sg_one his (pay (sgR ws) 1 i)]
      apply sg_congr
      intro k hk
      by_cases c : i = k
      · rw [if_pos c, c]
      · rw [if_neg c]
        refine lost_pay hS hk ?_
        rw [g1]
        rw [sl] at hk
        simp [un1, List.getD, c, hk]
    have rk : (sortI ws).reverse ++ [0] = ws.getD i 0 :: (r ++ [0]) := by rw [r1]; rfl
    have x0 : ((sortI ws).reverse ++ [0]).getD 0 0 = ws.getD i 0 := by rw [rk]; rfl
    have x1 : ((sortI ws).reverse ++ [0]).getD 1 0 = vv := by rw [rk, ← q1]; rfl
    have ll : 2 ≤ ((sortI ws).reverse ++ [0]).length := by rw [rk]; simp
    have i0 : gIx [.list (((sortI ws).reverse ++ [0]).map .int), nI 0] = some (.fz (.int (ws.getD i 0))) := by rw [wsl_ix (by omega), x0]
    have i1 : gIx [.list (((sortI ws).reverse ++ [0]).map .int), nI 1] = some (.fz (.int vv)) := by rw [wsl_ix (by omega), x1]
    have b0 : Af (dB gIx [(dVar 9), (dC (.int 0))]) [.fz (sc ns), tw0 t2, .fz (rmD R), .fz (.list ((keps R m).map .int)), .fz (gT (List.range R.length)), x5, .fz (.list (ws.map .int)), .fz (rmD (sgR ws)), .fz (tupI (opA (sgR ws) 1)), .fz (.list (((sortI ws).reverse ++ [0]).map .int)), .fz (nI i), .fz (.list ((pays (sgR ws) 1).map .int)), .fz (.list ((pays R m).map .int)), .fz (tupI (opA R m)), x14, .un, .un, .un, .un, .un] (.int (ws.getD i 0)) := a_B2 (g := gIx) (a_var (i := 9) rfl).a (a_c (x := .int 0)).a i0
    have b1 : Af (dB gIx [(dVar 9), (dC (.int 1))]) [.fz (sc ns), tw0 t2, .fz (rmD R), .fz (.list ((keps R m).map .int)), .fz (gT (List.range R.length)), x5, .fz (.list (ws.map .int)), .fz (rmD (sgR ws)), .fz (tupI (opA (sgR ws) 1)), .fz (.list (((sortI ws).reverse ++ [0]).map .int)), .fz (nI i), .fz (.list ((pays (sgR ws) 1).map .int)), .fz (.list ((pays R m).map .int)), .fz (tupI (opA R m)), x14, .un, .un, .un, .un, .un] (.int vv) := a_B2 (g := gIx) (a_var (i := 9) rfl).a (a_c (x := .int 1)).a i1
    have b2 : Af (dB gIx [(dVar 6), (dVar 10)]) [.fz (sc ns), tw0 t2, .fz (rmD R), .fz (.list ((keps R m).map .int)), .fz (gT (List.range R.length)), x5, .fz (.list (ws.map .int)), .fz (rmD (sgR ws)), .fz (tupI (opA (sgR ws) 1)), .fz (.list (((sortI ws).reverse ++ [0]).map .int)), .fz (nI i), .fz (.list ((pays (sgR ws) 1).map .int)), .fz (.list ((pays R m).map .int)), .fz (tupI (opA R m)), x14, .un, .un, .un, .un, .un] (.int (ws.getD i 0)) := a_B2 (g := gIx) (a_var (i := 6) rfl).a (a_var (i := 10) rfl).a (wsl_ix hi)
    have b3 : Af (dB gIx [(dVar 11), (dVar 10)]) [.fz (sc ns), tw0 t2, .fz (rmD R), .fz (.list ((keps R m).map .int)), .fz (gT (List.range R.length)), x5, .fz (.list (ws.map .int)), .fz (rmD (sgR ws)), .fz (tupI (opA (sgR ws) 1)), .fz (.list (((sortI ws).reverse ++ [0]).map .int)), .fz (nI i), .fz (.list ((pays (sgR ws) 1).map .int)), .fz (.list ((pays R m).map .int)), .fz (tupI (opA R m)), x14, .un, .un, .un, .un, .un] (.int (pay (sgR ws) 1 i)) := a_B2 (g := gIx) (a_var (i := 11) rfl).a (a_var (i := 10) rfl).a (pay_ix his)
    have b4 : Af (dB gSum [(dVar 11)]) [.fz (sc ns), tw0 t2, .fz (rmD R), .fz (.list ((keps R m).map .int)), .fz (gT (List.range R.length)), x5, .fz (.list (ws.map .int)), .fz (rmD (sgR ws)), .fz (tupI (opA (sgR ws) 1)), .fz (.list (((sortI ws).reverse ++ [0]).map .int)), .fz (nI i), .fz (.list ((pays (sgR ws) 1).map .int)), .fz (.list ((pays R m).map .int)), .fz (tupI (opA R m)), x14, .un, .un, .un, .un, .un] (.int (pays (sgR ws) 1).sum) := a_B1 (g := gSum) (a_var (i := 11) rfl).a (gSumL _)
    refine w_ret (x := .bool true) (af_is (a_and (a_B2 (g := gEq) b2.a b0.a (gEqI _ _)).a fun _ => a_and (a_B2 (g := gEq) b3.a b1.a (gEqI _ _)).a fun _ => a_B2 (g := gEq) b4.a b1.a (gEqI _ _)) (by rw [decide_eq_true rfl, decide_eq_true hpi, decide_eq_true hsum]; rfl)) fun r hr => ?_
    rw [rx_true hr]
end DL

namespace DL
open PySem PySem.Spec PyProof.Rows L2
def topS (i : Nat) : Stmt := PySem.Challenge.pw_othersloss_k03_whole_payments.main.body.getD i (.Pass ⟨0, 0, 0, 0⟩)
structure Gb (K : PySem.W.Frag) (mg : Str → Option Value) : Prop where
  InvalidGroup : ExcF K mg "InvalidGroup"
  InvalidRoom : ExcF K mg "InvalidRoom"
  MOST : ∃ v u, mg "MOST" = some u ∧ RelV v u ∧ ∀ B, Da K B v (.int 4)
  SIZES : ∃ v u, mg "SIZES" = some u ∧ RelV v u ∧ ∀ B, Da K B v (.tuple [(.int 2), (.int 4), (.int 8)])
  all : mg "all" = none
  bool : mg "bool" = none
  enumerate : mg "enumerate" = none
  int : mg "int" = none
  isinstance : mg "isinstance" = none
  len : mg "len" = none
  list : mg "list" = none
  max : mg "max" = none
  min : mg "min" = none
  range : mg "range" = none
  sorted : mg "sorted" = none
  sum : mg "sum" = none
  tuple : mg "tuple" = none
  zip : mg "zip" = none
theorem sc_is_integer : FnScope ["value", "low", "high"] ["value", "low", "high"] (defScope (topS 7)) := ⟨rfl, rfl, rfl, by decide +kernel, rfl, by decide +kernel, by decide +kernel⟩
theorem ok_is_integer {P : Program} {w : World} {K : PySem.W.Frag} {mg : Str → Option Value} {base : Heap} (g : Gb K mg) (D : DefAt K mg "is_integer" (topS 7)) : Cal P w K mg base "is_integer" 3 1 F_is_integer := by
  refine cal_mk (k := 0) (np := 3) (nl := 0) (d := B_is_integer) D sc_is_integer (fun _ _ _ _ _ _ us hl => match us, hl with | [_, _, _], _ => rfl) (fun f cdv A outer s H E Z c => ?_)
  exact (s_one (s_ret (d_and (d_isi (T := "int") c (d_var 0) g.isinstance g.int (by decide) bt_int bt_isinstance) (d_and (d_not (d_isi (T := "bool") c (d_var 0) g.isinstance g.bool (by decide) bt_bool bt_isinstance)) (d_one (e_chain c o_le o_le (d_var 1) (d_var 0) (d_var 2)))))))
theorem sc_things_in : FnScope ["some", "thing"] ["some"] (defScope (topS 8)) := ⟨rfl, rfl, rfl, by decide +kernel, rfl, by decide +kernel, by decide +kernel⟩
theorem ok_things_in {P : Program} {w : World} {K : PySem.W.Frag} {mg : Str → Option Value} {base : Heap} (g : Gb K mg) (D : DefAt K mg "things_in" (topS 8)) : Cal P w K mg base "things_in" 1 1 F_things_in := by
  refine cal_mk (k := 0) (np := 1) (nl := 1) (d := B_things_in) D sc_things_in (fun _ _ _ _ _ _ us hl => match us, hl with | [_], _ => rfl) (fun f cdv A outer s H E Z c => ?_)
  exact (s_one (s_ret (d_comp ([("thing", 1)]) c (i_range1 g.range (c_cons d_int c_nil)) (blkOk_by (by kernel_rfl)) (fun _ _ _ _ _ Z c => (g_name (i := 1) c.n0 c.nd)) (fun _ _ _ _ _ Z c => (t_one (e_cmpT c (o_eq c.room) (e_op c o_mod (e_op c o_div (d_var 0) (e_op c o_div (e_ix c (e_glob c g.SIZES) (d_var 1)) d_int)) d_int) d_int (nomark _)))) (fun _ _ _ _ _ Z c => (d_var 1)))))
theorem sc_rises : FnScope ["value", "some", "thing", "power"] ["value"] (defScope (topS 9)) := ⟨rfl, rfl, rfl, by decide +kernel, rfl, by decide +kernel, by decide +kernel⟩
theorem ok_rises {P : Program} {w : World} {K : PySem.W.Frag} {mg : Str → Option Value} {base : Heap} (g : Gb K mg) (D : DefAt K mg "rises" (topS 9)) (h_things_in : Cal P w K mg base "things_in" 1 1 F_things_in) : Cal P w K mg base "rises" 1 2 F_rises := by
  refine cal_mk (k := 1) (np := 1) (nl := 3) (d := B_rises) D sc_rises (fun _ _ _ _ _ _ us hl => match us, hl with | [_], _ => rfl) (fun f cdv A outer s H E Z c => ?_)
  exact (s_cons (s_for c.passes c.calm (i_range1 g.range (c_cons (e_callB c c_len g.len bt_len (d_cons (d_var 0) d_nil)) c_nil)) (g_name (i := 1) c.n0 c.nd) (s_one (s_for c.passes c.calm (i_range1 g.range (c_cons d_int c_nil)) (g_name (i := 2) c.n0 c.nd) (s_cons (s_setF (i := 3) c.n0 c.nd (e_op c o_div (e_ix c (e_glob c g.SIZES) (d_var 2)) d_int))
  (s_one (s_if (PW.pt (d_andT (e_cmpT c o_lt (d_var 3) (e_callB c c_len g.len bt_len (d_cons (d_var 0) d_nil)) (nomark _)) (d_andT (e_cmpT c (o_notin c.room) (d_var 2) (d_call c h_things_in (d_cons (d_var 1) d_nil)) rfl) (d_and1T (e_cmpT c o_gt (e_ix c (d_var 0) (d_var 1)) (e_ix c (d_var 0) (e_op c o_add (d_var 1) (d_var 3))) (nomark _)))))) (s_one (s_ret d_bl)) s_nil))))))
  (s_one (s_ret d_bl)))
theorem sc_bids_for : FnScope ["value", "size", "one"] ["value", "size"] (defScope (topS 10)) := ⟨rfl, rfl, rfl, by decide +kernel, rfl, by decide +kernel, by decide +kernel⟩
theorem ok_bids_for {P : Program} {w : World} {K : PySem.W.Frag} {mg : Str → Option Value} {base : Heap} (g : Gb K mg) (D : DefAt K mg "bids_for" (topS 10)) (h_is_integer : Cal P w K mg base "is_integer" 3 1 F_is_integer) (h_rises : Cal P w K mg base "rises" 1 2 F_rises) : Cal P w K mg base "bids_for" 2 3 F_bids_for := by
  refine cal_mk (k := 2) (np := 2) (nl := 1) (d := B_bids_for) D sc_bids_for (fun _ _ _ _ _ _ us hl => match us, hl with | [_, _], _ => rfl) (fun f cdv A outer s H E Z c => ?_)
  exact (s_cons (s_if (PW.pt (d_orT (d_notT (d_test (d_isi (T := "tuple") c (d_var 0) g.isinstance g.tuple (by decide) bt_tuple bt_isinstance))) (d_orT (e_cmpT c (o_ne c.room) (e_callB c c_len g.len bt_len (d_cons (d_var 0) d_nil)) (d_var 1) (nomark _)) (d_or1T (d_notT (d_test (e_callB c (c_all c.calm) g.all bt_all (d_cons (d_comp ([("one", 2)]) c (i_any c (d_var 0)) (blkOk_by (by kernel_rfl)) (fun _ _ _ _ _ Z c => (g_name (i := 2) c.n0 c.nd)) (fun _ _ _ _ _ Z c => t_nil) (fun _ _ _ _ _ Z c => (d_call c h_is_integer (d_cons (d_var 2) (d_cons d_int (d_cons d_int d_nil)))))) d_nil)))))))) (s_one (s_ret d_bl)) s_nil)
  (s_one (s_ret (d_and (e_cmp c (o_eq c.room) (e_ix c (d_var 0) d_int) d_int (nomark _)) (d_one (d_call c h_rises (d_cons (d_var 0) d_nil)))))))
theorem sc_is_room : FnScope ["value", "size", "bid"] ["value"] (defScope (topS 11)) := ⟨rfl, rfl, rfl, by decide +kernel, rfl, by decide +kernel, by decide +kernel⟩
theorem ok_is_room {P : Program} {w : World} {K : PySem.W.Frag} {mg : Str → Option Value} {base : Heap} (g : Gb K mg) (D : DefAt K mg "is_room" (topS 11)) (h_bids_for : Cal P w K mg base "bids_for" 2 3 F_bids_for) : Cal P w K mg base "is_room" 1 4 F_is_room := by
  refine cal_mk (k := 3) (np := 1) (nl := 2) (d := B_is_room) D sc_is_room (fun _ _ _ _ _ _ us hl => match us, hl with | [_], _ => rfl) (fun f cdv A outer s H E Z c => ?_)
  exact (s_cons (s_if (PW.pt (d_orT (d_notT (d_test (d_isi (T := "tuple") c (d_var 0) g.isinstance g.tuple (by decide) bt_tuple bt_isinstance))) (d_or1T (d_notT (e_chainT c o_le o_le d_int (e_callB c c_len g.len bt_len (d_cons (d_var 0) d_nil)) (e_glob c g.MOST)))))) (s_one (s_ret d_bl)) s_nil)
  (s_cons (s_for c.passes c.calm (i_any c (e_glob c g.SIZES)) (g_name (i := 1) c.n0 c.nd) (s_one (s_if (d_test (e_callB c (c_all c.calm) g.all bt_all (d_cons (d_comp ([("bid", 2)]) c (i_any c (d_var 0)) (blkOk_by (by kernel_rfl)) (fun _ _ _ _ _ Z c => (g_name (i := 2) c.n0 c.nd)) (fun _ _ _ _ _ Z c => t_nil) (fun _ _ _ _ _ Z c => (d_call c h_bids_for (d_cons (d_var 2) (d_cons (d_var 1) d_nil))))) d_nil))) (s_one (s_ret d_bl)) s_nil)))
  (s_one (s_ret d_bl))))
theorem sc_check_room : FnScope ["room"] ["room"] (defScope (topS 12)) := ⟨rfl, rfl, rfl, by decide +kernel, rfl, by decide +kernel, by decide +kernel⟩
theorem ok_check_room {P : Program} {w : World} {K : PySem.W.Frag} {mg : Str → Option Value} {base : Heap} (g : Gb K mg) (D : DefAt K mg "check_room" (topS 12)) (h_is_room : Cal P w K mg base "is_room" 1 4 F_is_room) : Cal P w K mg base "check_room" 1 5 F_check_room := by
  refine cal_mk (k := 4) (np := 1) (nl := 0) (d := B_check_room) D sc_check_room (fun _ _ _ _ _ _ us hl => match us, hl with | [_], _ => rfl) (fun f cdv A outer s H E Z c => ?_)
  exact (s_one (s_if (d_notT (d_test (d_call c h_is_room (d_cons (d_var 0) d_nil)))) (s_one (s_raise c g.InvalidRoom)) s_nil))
theorem sc_allotments : FnScope ["room", "group", "some", "power", "longer", "allotment", "bidder"] ["room", "group"] (defScope (topS 14)) := ⟨rfl, rfl, rfl, by decide +kernel, rfl, by decide +kernel, by decide +kernel⟩
theorem ok_allotments {P : Program} {w : World} {K : PySem.W.Frag} {mg : Str → Option Value} {base : Heap} (g : Gb K mg) (D : DefAt K mg "allotments" (topS 14)) : Cal P w K mg base "allotments" 2 1 F_allotments := by
  refine cal_mk (k := 0) (np := 2) (nl := 5) (d := B_allotments) D sc_allotments (fun _ _ _ _ _ _ us hl => match us, hl with | [_, _], _ => rfl) (fun f cdv A outer s H E Z c => ?_)
  exact (s_cons (s_setF (i := 2) c.n0 c.nd (d_lst (c_cons (e_op c o_mul (d_tup (c_cons d_int c_nil)) (e_callB c c_len g.len bt_len (d_cons (d_var 0) d_nil))) c_nil)))
  (s_cons (s_setF (i := 3) c.n0 c.nd d_int)
  (s_cons (s_while 8 c.passes (e_cmpT c o_lt (d_var 3) (e_callB c c_len g.len bt_len (d_cons (e_ix c (d_var 0) d_int) d_nil)) (nomark _)) (s_cons (s_set (i := 4) c.n0 c.nd (e_callTy c c_list g.list bt_list (d_cons (d_var 2) d_nil)))
  (s_cons (s_for c.passes c.calm (i_any c (d_var 2)) (g_name (i := 5) c.n0 c.nd) (s_one (s_for c.passes c.calm (i_any c (d_var 1)) (g_name (i := 6) c.n0 c.nd) (s_one (s_append (i := 4) c (e_op c o_add (e_op c o_add (e_hi c (d_var 5) (d_var 6)) (d_tup (c_cons (e_op c o_add (e_ix c (d_var 5) (d_var 6)) (d_var 3)) c_nil))) (e_lo c (d_var 5) (e_op c o_add (d_var 6) d_int))))))))
  (s_cons (s_setF (i := 2) c.n0 c.nd (d_var 4))
  (s_one (s_setF (i := 3) c.n0 c.nd (e_op c o_mul d_int (d_var 3))))))))
  (s_one (s_ret (e_callB c (c_sorted c.room) g.sorted bt_sorted (d_cons (d_var 2) d_nil)))))))
theorem sc_total_of : FnScope ["room", "allotment", "bid", "some"] ["room", "allotment"] (defScope (topS 15)) := ⟨rfl, rfl, rfl, by decide +kernel, rfl, by decide +kernel, by decide +kernel⟩
theorem ok_total_of {P : Program} {w : World} {K : PySem.W.Frag} {mg : Str → Option Value} {base : Heap} (g : Gb K mg) (D : DefAt K mg "total_of" (topS 15)) : Cal P w K mg base "total_of" 2 1 F_total_of := by
  refine cal_mk (k := 0) (np := 2) (nl := 2) (d := B_total_of) D sc_total_of (fun _ _ _ _ _ _ us hl => match us, hl with | [_, _], _ => rfl) (fun f cdv A outer s H E Z c => ?_)
  exact (s_one (s_ret (e_callB c (c_sum c.calm) g.sum bt_sum (d_cons (d_comp ([("bid", 2), ("some", 3)]) c (i_zip2 c g.zip (c_cons (d_var 0) (c_cons (d_var 1) c_nil))) (blkOk_by (by kernel_rfl)) (fun _ _ _ _ _ Z c => (g_tup c.n0 c.calm c.hK (gs_cons (i := 2) c.nd (gs_cons (i := 3) c.nd gs_nil)))) (fun _ _ _ _ _ Z c => t_nil) (fun _ _ _ _ _ Z c => (e_ix c (d_var 2) (d_var 3)))) d_nil))))
theorem sc_best_for : FnScope ["room", "group", "best", "allotment", "total_here"] ["room", "group"] (defScope (topS 16)) := ⟨rfl, rfl, rfl, by decide +kernel, rfl, by decide +kernel, by decide +kernel⟩
theorem ok_best_for {P : Program} {w : World} {K : PySem.W.Frag} {mg : Str → Option Value} {base : Heap} (g : Gb K mg) (D : DefAt K mg "best_for" (topS 16)) (h_allotments : Cal P w K mg base "allotments" 2 1 F_allotments) (h_total_of : Cal P w K mg base "total_of" 2 1 F_total_of) : Cal P w K mg base "best_for" 2 2 F_best_for := by
  refine cal_mk (k := 1) (np := 2) (nl := 3) (d := B_best_for) D sc_best_for (fun _ _ _ _ _ _ us hl => match us, hl with | [_, _], _ => rfl) (fun f cdv A outer s H E Z c => ?_)
  exact (s_cons (s_setF (i := 2) c.n0 c.nd d_non)
  (s_cons (s_for c.passes c.calm (i_any c (d_call c h_allotments (d_cons (d_var 0) (d_cons (d_var 1) d_nil)))) (g_name (i := 3) c.n0 c.nd) (s_cons (s_setF (i := 4) c.n0 c.nd (d_call c h_total_of (d_cons (d_var 0) (d_cons (d_var 3) d_nil))))
  (s_one (s_if (PW.pt (d_orT (e_cmpT c o_is (d_var 2) d_non (nomark _)) (d_or1T (e_cmpT c o_gt (d_var 4) (e_ix c (d_var 2) d_int) (nomark _))))) (s_one (s_setF (i := 2) c.n0 c.nd (d_tup (c_cons (d_var 4) (c_cons (d_var 3) c_nil))))) s_nil))))
  (s_one (s_ret (d_var 2)))))
theorem sc_everyone : FnScope ["room"] ["room"] (defScope (topS 17)) := ⟨rfl, rfl, rfl, by decide +kernel, rfl, by decide +kernel, by decide +kernel⟩
theorem ok_everyone {P : Program} {w : World} {K : PySem.W.Frag} {mg : Str → Option Value} {base : Heap} (g : Gb K mg) (D : DefAt K mg "everyone" (topS 17)) : Cal P w K mg base "everyone" 1 1 F_everyone := by
  refine cal_mk (k := 0) (np := 1) (nl := 0) (d := B_everyone) D sc_everyone (fun _ _ _ _ _ _ us hl => match us, hl with | [_], _ => rfl) (fun f cdv A outer s H E Z c => ?_)
  exact (s_one (s_ret (d_listRg c (e_callB c c_len g.len bt_len (d_cons (d_var 0) d_nil)) g.list g.range)))
theorem sc_best_allotment : FnScope ["room"] ["room"] (defScope (topS 18)) := ⟨rfl, rfl, rfl, by decide +kernel, rfl, by decide +kernel, by decide +kernel⟩
theorem ok_best_allotment {P : Program} {w : World} {K : PySem.W.Frag} {mg : Str → Option Value} {base : Heap} (g : Gb K mg) (D : DefAt K mg "best_allotment" (topS 18)) (h_check_room : Cal P w K mg base "check_room" 1 5 F_check_room) (h_best_for : Cal P w K mg base "best_for" 2 2 F_best_for) (h_everyone : Cal P w K mg base "everyone" 1 1 F_everyone) : Cal P w K mg base "best_allotment" 1 6 F_best_allotment := by
  refine cal_mk (k := 5) (np := 1) (nl := 0) (d := B_best_allotment) D sc_best_allotment (fun _ _ _ _ _ _ us hl => match us, hl with | [_], _ => rfl) (fun f cdv A outer s H E Z c => ?_)
  exact (s_cons (s_expr (d_call c h_check_room (d_cons (d_var 0) d_nil)))
  (s_one (s_ret (e_ix c (d_call c h_best_for (d_cons (d_var 0) (d_cons (d_call c h_everyone (d_cons (d_var 0) d_nil)) d_nil))) d_int))))
theorem sc_check_group : FnScope ["room", "group", "one", "other"] ["room", "group"] (defScope (topS 19)) := ⟨rfl, rfl, rfl, by decide +kernel, rfl, by decide +kernel, by decide +kernel⟩
theorem ok_check_group {P : Program} {w : World} {K : PySem.W.Frag} {mg : Str → Option Value} {base : Heap} (g : Gb K mg) (D : DefAt K mg "check_group" (topS 19)) (h_is_integer : Cal P w K mg base "is_integer" 3 1 F_is_integer) : Cal P w K mg base "check_group" 2 2 F_check_group := by
  refine cal_mk (k := 1) (np := 2) (nl := 2) (d := B_check_group) D sc_check_group (fun _ _ _ _ _ _ us hl => match us, hl with | [_, _], _ => rfl) (fun f cdv A outer s H E Z c => ?_)
  exact (s_cons (s_if (PW.pt (d_orT (d_notT (d_test (d_isi (T := "tuple") c (d_var 1) g.isinstance g.tuple (by decide) bt_tuple bt_isinstance))) (d_or1T (d_notT (d_test (e_callB c (c_all c.calm) g.all bt_all (d_cons (d_comp ([("one", 2)]) c (i_any c (d_var 1)) (blkOk_by (by kernel_rfl)) (fun _ _ _ _ _ Z c => (g_name (i := 2) c.n0 c.nd)) (fun _ _ _ _ _ Z c => t_nil) (fun _ _ _ _ _ Z c => (d_call c h_is_integer (d_cons (d_var 2) (d_cons d_int (d_cons (e_op c o_sub (e_callB c c_len g.len bt_len (d_cons (d_var 0) d_nil)) d_int) d_nil)))))) d_nil))))))) (s_one (s_raise c g.InvalidGroup)) s_nil)
  (s_one (s_if (d_notT (d_test (e_callB c (c_all c.calm) g.all bt_all (d_cons (d_comp ([("one", 2), ("other", 3)]) c (i_zip2 c g.zip (c_cons (d_var 1) (c_cons (e_lo c (d_var 1) d_int) c_nil))) (blkOk_by (by kernel_rfl)) (fun _ _ _ _ _ Z c => (g_tup c.n0 c.calm c.hK (gs_cons (i := 2) c.nd (gs_cons (i := 3) c.nd gs_nil)))) (fun _ _ _ _ _ Z c => t_nil) (fun _ _ _ _ _ Z c => (e_cmp c o_lt (d_var 2) (d_var 3) (nomark _)))) d_nil)))) (s_one (s_raise c g.InvalidGroup)) s_nil)))
theorem sc_best_total : FnScope ["room", "group"] ["room", "group"] (defScope (topS 20)) := ⟨rfl, rfl, rfl, by decide +kernel, rfl, by decide +kernel, by decide +kernel⟩
theorem ok_best_total {P : Program} {w : World} {K : PySem.W.Frag} {mg : Str → Option Value} {base : Heap} (g : Gb K mg) (D : DefAt K mg "best_total" (topS 20)) (h_check_room : Cal P w K mg base "check_room" 1 5 F_check_room) (h_best_for : Cal P w K mg base "best_for" 2 2 F_best_for) (h_check_group : Cal P w K mg base "check_group" 2 2 F_check_group) : Cal P w K mg base "best_total" 2 6 F_best_total := by
  refine cal_mk (k := 5) (np := 2) (nl := 0) (d := B_best_total) D sc_best_total (fun _ _ _ _ _ _ us hl => match us, hl with | [_, _], _ => rfl) (fun f cdv A outer s H E Z c => ?_)
  exact (s_cons (s_expr (d_call c h_check_room (d_cons (d_var 0) d_nil)))
  (s_cons (s_expr (d_call c h_check_group (d_cons (d_var 0) (d_cons (d_var 1) d_nil))))
  (s_one (s_ret (e_ix c (d_call c h_best_for (d_cons (d_var 0) (d_cons (e_callTy c c_list g.list bt_list (d_cons (d_var 1) d_nil)) d_nil))) d_int)))))
theorem sc_outcome : FnScope ["room", "found", "best", "allotment", "bidder", "some", "others", "other"] ["room"] (defScope (topS 22)) := ⟨rfl, rfl, rfl, by decide +kernel, rfl, by decide +kernel, by decide +kernel⟩
theorem ok_outcome {P : Program} {w : World} {K : PySem.W.Frag} {mg : Str → Option Value} {base : Heap} (g : Gb K mg) (D : DefAt K mg "outcome" (topS 22)) (h_best_for : Cal P w K mg base "best_for" 2 2 F_best_for) (h_everyone : Cal P w K mg base "everyone" 1 1 F_everyone) : Cal P w K mg base "outcome" 1 3 F_outcome := by
  refine cal_mk (k := 2) (np := 1) (nl := 7) (d := B_outcome) D sc_outcome (fun _ _ _ _ _ _ us hl => match us, hl with | [_], _ => rfl) (fun f cdv A outer s H E Z c => ?_)
  exact (s_cons (s_setT (g_tup c.n0 c.calm c.hK (gs_cons (i := 2) c.nd (gs_cons (i := 3) c.nd gs_nil))) (d_call c h_best_for (d_cons (d_var 0) (d_cons (d_call c h_everyone (d_cons (d_var 0) d_nil)) d_nil))))
  (s_cons (s_set (i := 1) c.n0 c.nd (d_lst c_nil))
  (s_cons (s_for c.passes c.calm (i_enum c g.enumerate (c_cons (d_var 3) c_nil)) (g_tup c.n0 c.calm c.hK (gs_cons (i := 4) c.nd (gs_cons (i := 5) c.nd gs_nil))) (s_cons (s_setC (i := 6) ([("other", 7)]) c (i_any c (d_call c h_everyone (d_cons (d_var 0) d_nil))) (blkOk_by (by kernel_rfl)) (fun _ _ _ _ _ Z c => (g_name (i := 7) c.n0 c.nd)) (fun _ _ _ _ _ Z c => (t_one (e_cmpT c (o_ne c.room) (d_var 7) (d_var 4) (nomark _)))) (fun _ _ _ _ _ Z c => (d_var 7)) (sw_true rfl rfl rfl (by decide +kernel)))
  (s_one (s_append (i := 1) c (e_op c o_sub (e_ix c (d_call c h_best_for (d_cons (d_var 0) (d_cons (d_var 6) d_nil))) d_int) (e_op c o_sub (d_var 2) (e_ix c (e_ix c (d_var 0) (d_var 4)) (d_var 5))))))))
  (s_one (s_ret (d_tup (c_cons (d_var 3) (c_cons (d_var 1) c_nil))))))))
theorem sc_payments : FnScope ["room"] ["room"] (defScope (topS 23)) := ⟨rfl, rfl, rfl, by decide +kernel, rfl, by decide +kernel, by decide +kernel⟩
theorem ok_payments {P : Program} {w : World} {K : PySem.W.Frag} {mg : Str → Option Value} {base : Heap} (g : Gb K mg) (D : DefAt K mg "payments" (topS 23)) (h_check_room : Cal P w K mg base "check_room" 1 5 F_check_room) (h_outcome : Cal P w K mg base "outcome" 1 3 F_outcome) : Cal P w K mg base "payments" 1 6 F_payments := by
  refine cal_mk (k := 5) (np := 1) (nl := 0) (d := B_payments) D sc_payments (fun _ _ _ _ _ _ us hl => match us, hl with | [_], _ => rfl) (fun f cdv A outer s H E Z c => ?_)
  exact (s_cons (s_expr (d_call c h_check_room (d_cons (d_var 0) d_nil)))
  (s_one (s_ret (e_ix c (d_call c h_outcome (d_cons (d_var 0) d_nil)) d_int))))
theorem sc_kept_list : FnScope ["room", "allotment", "paid", "bid", "some", "payment"] ["room"] (defScope (topS 24)) := ⟨rfl, rfl, rfl, by decide +kernel, rfl, by decide +kernel, by decide +kernel⟩
theorem ok_kept_list {P : Program} {w : World} {K : PySem.W.Frag} {mg : Str → Option Value} {base : Heap} (g : Gb K mg) (D : DefAt K mg "kept_list" (topS 24)) (h_outcome : Cal P w K mg base "outcome" 1 3 F_outcome) : Cal P w K mg base "kept_list" 1 4 F_kept_list := by
  refine cal_mk (k := 3) (np := 1) (nl := 5) (d := B_kept_list) D sc_kept_list (fun _ _ _ _ _ _ us hl => match us, hl with | [_], _ => rfl) (fun f cdv A outer s H E Z c => ?_)
  exact (s_cons (s_setT (g_tup c.n0 c.calm c.hK (gs_cons (i := 1) c.nd (gs_cons (i := 2) c.nd gs_nil))) (d_call c h_outcome (d_cons (d_var 0) d_nil)))
  (s_one (s_ret (d_comp ([("bid", 3), ("some", 4), ("payment", 5)]) c (i_zip3 c g.zip (c_cons (d_var 0) (c_cons (d_var 1) (c_cons (d_var 2) c_nil)))) (blkOk_by (by kernel_rfl)) (fun _ _ _ _ _ Z c => (g_tup c.n0 c.calm c.hK (gs_cons (i := 3) c.nd (gs_cons (i := 4) c.nd (gs_cons (i := 5) c.nd gs_nil))))) (fun _ _ _ _ _ Z c => t_nil) (fun _ _ _ _ _ Z c => (e_op c o_sub (e_ix c (d_var 3) (d_var 4)) (d_var 5)))))))
theorem sc_kept : FnScope ["room"] ["room"] (defScope (topS 25)) := ⟨rfl, rfl, rfl, by decide +kernel, rfl, by decide +kernel, by decide +kernel⟩
theorem ok_kept {P : Program} {w : World} {K : PySem.W.Frag} {mg : Str → Option Value} {base : Heap} (g : Gb K mg) (D : DefAt K mg "kept" (topS 25)) (h_check_room : Cal P w K mg base "check_room" 1 5 F_check_room) (h_kept_list : Cal P w K mg base "kept_list" 1 4 F_kept_list) : Cal P w K mg base "kept" 1 6 F_kept := by
  refine cal_mk (k := 5) (np := 1) (nl := 0) (d := B_kept) D sc_kept (fun _ _ _ _ _ _ us hl => match us, hl with | [_], _ => rfl) (fun f cdv A outer s H E Z c => ?_)
  exact (s_cons (s_expr (d_call c h_check_room (d_cons (d_var 0) d_nil)))
  (s_one (s_ret (d_call c h_kept_list (d_cons (d_var 0) d_nil)))))
theorem sc_law_cell_at : FnScope ["script", "k", "spare", "again"] ["script", "k"] (defScope (topS 27)) := ⟨rfl, rfl, rfl, by decide +kernel, rfl, by decide +kernel, by decide +kernel⟩
theorem ok_law_cell_at {P : Program} {w : World} {K : PySem.W.Frag} {mg : Str → Option Value} {base : Heap} (g : Gb K mg) (D : DefAt K mg "_law_cell_at" (topS 27)) : Cal P w K mg base "_law_cell_at" 2 1 F_law_cell_at := by
  refine cal_mk (k := 0) (np := 2) (nl := 2) (d := B_law_cell_at) D sc_law_cell_at (fun _ _ _ _ _ _ us hl => match us, hl with | [_, _], _ => rfl) (fun f cdv A outer s H E Z c => ?_)
  exact (s_cons (s_if (e_cmpT c o_lt (d_var 1) (e_callB c c_len g.len bt_len (d_cons (d_var 0) d_nil)) (nomark _)) (s_one (s_ret (e_ix c (d_var 0) (d_var 1)))) s_nil)
  (s_cons (s_if (e_cmpT c (o_eq c.room) (d_var 0) (d_lst c_nil) (nomark _)) (s_one (s_ret d_int)) s_nil)
  (s_cons (s_setF (i := 2) c.n0 c.nd (e_ix c (d_var 0) (e_op c o_mod (d_var 1) (e_callB c c_len g.len bt_len (d_cons (d_var 0) d_nil)))))
  (s_cons (s_for c.passes c.calm (i_range1 g.range (c_cons (e_callB c (c_min c.calm) g.min bt_min (d_cons (e_op c o_div (d_var 1) (e_callB c c_len g.len bt_len (d_cons (d_var 0) d_nil))) (d_cons d_int d_nil))) c_nil)) (g_name (i := 3) c.n0 c.nd) (s_one (s_setF (i := 2) c.n0 c.nd (e_op c o_div (d_var 2) d_int))))
  (s_one (s_ret (e_op c o_add (e_op c o_add (e_op c o_mul (e_ix c (d_var 0) (e_op c o_mod (d_var 1) (e_callB c c_len g.len bt_len (d_cons (d_var 0) d_nil)))) d_int) (d_var 1)) (e_op c o_mul (d_var 2) d_int))))))))
theorem sc_law_mixed : FnScope ["script", "k", "many", "spun"] ["script", "k", "many"] (defScope (topS 28)) := ⟨rfl, rfl, rfl, by decide +kernel, rfl, by decide +kernel, by decide +kernel⟩
theorem ok_law_mixed {P : Program} {w : World} {K : PySem.W.Frag} {mg : Str → Option Value} {base : Heap} (g : Gb K mg) (D : DefAt K mg "_law_mixed" (topS 28)) (h_law_cell_at : Cal P w K mg base "_law_cell_at" 2 1 F_law_cell_at) : Cal P w K mg base "_law_mixed" 3 2 F_law_mixed := by
  refine cal_mk (k := 1) (np := 3) (nl := 1) (d := B_law_mixed) D sc_law_mixed (fun _ _ _ _ _ _ us hl => match us, hl with | [_, _, _], _ => rfl) (fun f cdv A outer s H E Z c => ?_)
  exact (s_cons (s_setF (i := 3) c.n0 c.nd (e_op c o_mod (e_op c o_add (e_op c o_add (e_op c o_mul (d_call c h_law_cell_at (d_cons (d_var 0) (d_cons (d_var 1) d_nil))) d_int) (e_op c o_mul d_int (d_var 1))) d_int) d_int))
  (s_one (s_ret (e_op c o_mod (e_op c o_mod (e_op c o_mod (e_op c o_pow (d_var 3) d_int) d_int) d_int) (d_var 2)))))
theorem sc_law_draw : FnScope ["script", "town", "many"] ["script", "town", "many"] (defScope (topS 29)) := ⟨rfl, rfl, rfl, by decide +kernel, rfl, by decide +kernel, by decide +kernel⟩
theorem ok_law_draw {P : Program} {w : World} {K : PySem.W.Frag} {mg : Str → Option Value} {base : Heap} (g : Gb K mg) (D : DefAt K mg "_law_draw" (topS 29)) (h_law_mixed : Cal P w K mg base "_law_mixed" 3 2 F_law_mixed) : Cal P w K mg base "_law_draw" 3 3 F_law_draw := by
  refine cal_mk (k := 2) (np := 3) (nl := 0) (d := B_law_draw) D sc_law_draw (fun _ _ _ _ _ _ us hl => match us, hl with | [_, _, _], _ => rfl) (fun f cdv A outer s H E Z c => ?_)
  exact (s_cons (s_append (i := 1) c d_int)
  (s_one (s_ret (d_call c h_law_mixed (d_cons (d_var 0) (d_cons (e_callB c c_len g.len bt_len (d_cons (d_var 1) d_nil)) (d_cons (d_var 2) d_nil)))))))
theorem sc_law_inside : FnScope ["some", "thing", "power"] ["some"] (defScope (topS 30)) := ⟨rfl, rfl, rfl, by decide +kernel, rfl, by decide +kernel, by decide +kernel⟩
theorem ok_law_inside {P : Program} {w : World} {K : PySem.W.Frag} {mg : Str → Option Value} {base : Heap} (g : Gb K mg) (D : DefAt K mg "_law_inside" (topS 30)) : Cal P w K mg base "_law_inside" 1 1 F_law_inside := by
  refine cal_mk (k := 0) (np := 1) (nl := 2) (d := B_law_inside) D sc_law_inside (fun _ _ _ _ _ _ us hl => match us, hl with | [_], _ => rfl) (fun f cdv A outer s H E Z c => ?_)
  exact (s_one (s_ret (d_comp ([("thing", 1), ("power", 2)]) c (i_enum c g.enumerate (c_cons (d_lst (c_cons d_int (c_cons d_int (c_cons d_int c_nil)))) c_nil)) (blkOk_by (by kernel_rfl)) (fun _ _ _ _ _ Z c => (g_tup c.n0 c.calm c.hK (gs_cons (i := 1) c.nd (gs_cons (i := 2) c.nd gs_nil)))) (fun _ _ _ _ _ Z c => (t_one (e_cmpT c (o_eq c.room) (e_op c o_mod (e_op c o_div (d_var 0) (d_var 2)) d_int) d_int (nomark _)))) (fun _ _ _ _ _ Z c => (d_var 1)))))
theorem sc_law_some_bid : FnScope ["script", "town", "things", "kind", "size", "made", "some", "worths", "low", "goal", "worth", "again", "thing"] ["script", "town", "things", "kind"] (defScope (topS 31)) := ⟨rfl, rfl, rfl, by decide +kernel, rfl, by decide +kernel, by decide +kernel⟩
theorem ok_law_some_bid {P : Program} {w : World} {K : PySem.W.Frag} {mg : Str → Option Value} {base : Heap} (g : Gb K mg) (D : DefAt K mg "_law_some_bid" (topS 31)) (h_law_draw : Cal P w K mg base "_law_draw" 3 3 F_law_draw) (h_law_inside : Cal P w K mg base "_law_inside" 1 1 F_law_inside) : Cal P w K mg base "_law_some_bid" 4 4 F_law_some_bid := by
  refine cal_mk (k := 3) (np := 4) (nl := 9) (d := B_law_some_bid) D sc_law_some_bid (fun _ _ _ _ _ _ us hl => match us, hl with | [_, _, _, _], _ => rfl) (fun f cdv A outer s H E Z c => ?_)
  exact (s_cons (s_setF (i := 4) c.n0 c.nd (e_ix c (d_lst (c_cons d_int (c_cons d_int (c_cons d_int c_nil)))) (e_op c o_sub (d_var 2) d_int)))
  (s_cons (s_if (e_cmpT c (o_eq c.room) (d_var 3) d_int (nomark _)) (s_cons (s_setF (i := 7) c.n0 c.nd (d_comp ([("again", 11)]) c (i_range1 g.range (c_cons (d_var 2) c_nil)) (blkOk_by (by kernel_rfl)) (fun _ _ _ _ _ Z c => (g_name (i := 11) c.n0 c.nd)) (fun _ _ _ _ _ Z c => t_nil) (fun _ _ _ _ _ Z c => (d_call c h_law_draw (d_cons (d_var 0) (d_cons (d_var 1) (d_cons d_int d_nil)))))))
  (s_one (s_ret (e_callTy c c_tuple g.tuple bt_tuple (d_cons (d_comp ([("some", 6)]) c (i_range1 g.range (c_cons (d_var 4) c_nil)) (blkOk_by (by kernel_rfl)) (fun _ _ _ _ _ Z c => (g_name (i := 6) c.n0 c.nd)) (fun _ _ _ _ _ Z c => t_nil) (fun _ _ _ _ _ Z c => (e_callB c (c_sum c.calm) g.sum bt_sum (d_cons (d_comp ([("thing", 12)]) c (i_any c (d_call c h_law_inside (d_cons (d_var 6) d_nil))) (blkOk_by (by kernel_rfl)) (fun _ _ _ _ _ Z c => (g_name (i := 12) c.n0 c.nd)) (fun _ _ _ _ _ Z c => t_nil) (fun _ _ _ _ _ Z c => (e_ix c (d_var 7) (d_var 12)))) d_nil)))) d_nil))))) s_nil)
  (s_cons (s_if (e_cmpT c (o_eq c.room) (d_var 3) d_int (nomark _)) (s_cons (s_setF (i := 7) c.n0 c.nd (d_comp ([("again", 11)]) c (i_range1 g.range (c_cons (d_var 2) c_nil)) (blkOk_by (by kernel_rfl)) (fun _ _ _ _ _ Z c => (g_name (i := 11) c.n0 c.nd)) (fun _ _ _ _ _ Z c => t_nil) (fun _ _ _ _ _ Z c => (d_call c h_law_draw (d_cons (d_var 0) (d_cons (d_var 1) (d_cons d_int d_nil)))))))
  (s_one (s_ret (e_callTy c c_tuple g.tuple bt_tuple (d_cons (d_comp ([("some", 6)]) c (i_range1 g.range (c_cons (d_var 4) c_nil)) (blkOk_by (by kernel_rfl)) (fun _ _ _ _ _ Z c => (g_name (i := 6) c.n0 c.nd)) (fun _ _ _ _ _ Z c => t_nil) (fun _ _ _ _ _ Z c => (e_callB c (c_max c.calm) g.max bt_max (d_cons (e_op c o_add (d_lst (c_cons d_int c_nil)) (d_comp ([("thing", 12)]) c (i_any c (d_call c h_law_inside (d_cons (d_var 6) d_nil))) (blkOk_by (by kernel_rfl)) (fun _ _ _ _ _ Z c => (g_name (i := 12) c.n0 c.nd)) (fun _ _ _ _ _ Z c => t_nil) (fun _ _ _ _ _ Z c => (e_ix c (d_var 7) (d_var 12))))) d_nil)))) d_nil))))) s_nil)
  (s_cons (s_if (e_cmpT c (o_eq c.room) (d_var 3) d_int (nomark _)) (s_cons (s_parF (i := 9) (j := 10) c (e_op c o_add d_int (d_call c h_law_draw (d_cons (d_var 0) (d_cons (d_var 1) (d_cons (e_op c o_sub (d_var 4) d_int) d_nil))))) (d_call c h_law_draw (d_cons (d_var 0) (d_cons (d_var 1) (d_cons d_int d_nil)))))
  (s_cons (s_set (i := 5) c.n0 c.nd (d_lst c_nil))
  (s_cons (s_for c.passes c.calm (i_range1 g.range (c_cons (d_var 4) c_nil)) (g_name (i := 6) c.n0 c.nd) (s_one (s_append (i := 5) c (d_ifE (e_cmpT c (o_eq c.room) (d_comp ([("thing", 12)]) c (i_any c (d_call c h_law_inside (d_cons (d_var 9) d_nil))) (blkOk_by (by kernel_rfl)) (fun _ _ _ _ _ Z c => (g_name (i := 12) c.n0 c.nd)) (fun _ _ _ _ _ Z c => (t_one (e_cmpT c (o_notin c.room) (d_var 12) (d_call c h_law_inside (d_cons (d_var 6) d_nil)) rfl))) (fun _ _ _ _ _ Z c => d_int)) (d_lst c_nil) (nomark _)) (d_var 10) d_int))))
  (s_one (s_ret (e_callTy c c_tuple g.tuple bt_tuple (d_cons (d_var 5) d_nil))))))) s_nil)
  (s_cons (s_set (i := 5) c.n0 c.nd (d_lst (c_cons d_int c_nil)))
  (s_cons (s_for c.passes c.calm (i_range2 g.range (c_cons d_int (c_cons (d_var 4) c_nil))) (g_name (i := 6) c.n0 c.nd) (s_cons (s_setF (i := 8) c.n0 c.nd (e_callB c (c_max c.calm) g.max bt_max (d_cons (d_comp ([("thing", 12)]) c (i_any c (d_call c h_law_inside (d_cons (d_var 6) d_nil))) (blkOk_by (by kernel_rfl)) (fun _ _ _ _ _ Z c => (g_name (i := 12) c.n0 c.nd)) (fun _ _ _ _ _ Z c => t_nil) (fun _ _ _ _ _ Z c => (e_ix c (d_var 5) (e_op c o_sub (d_var 6) (e_ix c (d_lst (c_cons d_int (c_cons d_int (c_cons d_int c_nil)))) (d_var 12)))))) d_nil)))
  (s_one (s_append (i := 5) c (e_callB c (c_min c.calm) g.min bt_min (d_cons d_int (d_cons (e_op c o_add (d_var 8) (e_ix c (d_lst (c_cons d_int (c_cons d_int (c_cons d_int (c_cons d_int (c_cons d_int c_nil)))))) (d_call c h_law_draw (d_cons (d_var 0) (d_cons (d_var 1) (d_cons d_int d_nil)))))) d_nil)))))))
  (s_one (s_ret (e_callTy c c_tuple g.tuple bt_tuple (d_cons (d_var 5) d_nil))))))))))
theorem sc_law_some_room : FnScope ["script", "town", "most", "again", "things", "made"] ["script", "town", "most"] (defScope (topS 32)) := ⟨rfl, rfl, rfl, by decide +kernel, rfl, by decide +kernel, by decide +kernel⟩
theorem ok_law_some_room {P : Program} {w : World} {K : PySem.W.Frag} {mg : Str → Option Value} {base : Heap} (g : Gb K mg) (D : DefAt K mg "_law_some_room" (topS 32)) (h_law_draw : Cal P w K mg base "_law_draw" 3 3 F_law_draw) (h_law_some_bid : Cal P w K mg base "_law_some_bid" 4 4 F_law_some_bid) : Cal P w K mg base "_law_some_room" 3 5 F_law_some_room := by
  refine cal_mk (k := 4) (np := 3) (nl := 3) (d := B_law_some_room) D sc_law_some_room (fun _ _ _ _ _ _ us hl => match us, hl with | [_, _, _], _ => rfl) (fun f cdv A outer s H E Z c => ?_)
  exact (s_cons (s_par (i := 4) (j := 5) c (e_op c o_add d_int (d_call c h_law_draw (d_cons (d_var 0) (d_cons (d_var 1) (d_cons d_int d_nil))))) (d_lst c_nil))
  (s_cons (s_for c.passes c.calm (i_range1 g.range (c_cons (e_op c o_add d_int (d_call c h_law_draw (d_cons (d_var 0) (d_cons (d_var 1) (d_cons (d_var 2) d_nil))))) c_nil)) (g_name (i := 3) c.n0 c.nd) (s_one (s_append (i := 5) c (d_call c h_law_some_bid (d_cons (d_var 0) (d_cons (d_var 1) (d_cons (d_var 4) (d_cons (d_call c h_law_draw (d_cons (d_var 0) (d_cons (d_var 1) (d_cons d_int d_nil)))) d_nil))))))))
  (s_one (s_ret (e_callTy c c_tuple g.tuple bt_tuple (d_cons (d_var 5) d_nil))))))
theorem sc_law_shares : FnScope ["room", "some", "bid", "longer", "own", "given", "more", "thing"] ["room"] (defScope (topS 33)) := ⟨rfl, rfl, rfl, by decide +kernel, rfl, by decide +kernel, by decide +kernel⟩
theorem ok_law_shares {P : Program} {w : World} {K : PySem.W.Frag} {mg : Str → Option Value} {base : Heap} (g : Gb K mg) (D : DefAt K mg "_law_shares" (topS 33)) (h_law_inside : Cal P w K mg base "_law_inside" 1 1 F_law_inside) : Cal P w K mg base "_law_shares" 1 2 F_law_shares := by
  refine cal_mk (k := 1) (np := 1) (nl := 7) (d := B_law_shares) D sc_law_shares (fun _ _ _ _ _ _ us hl => match us, hl with | [_], _ => rfl) (fun f cdv A outer s H E Z c => ?_)
  exact (s_cons (s_setF (i := 1) c.n0 c.nd (d_lst (c_cons (d_tup c_nil) c_nil)))
  (s_cons (s_for c.passes c.calm (i_any c (d_var 0)) (g_name (i := 2) c.n0 c.nd) (s_cons (s_set (i := 3) c.n0 c.nd (d_lst c_nil))
  (s_cons (s_for c.passes c.calm (i_any c (d_var 1)) (g_name (i := 4) c.n0 c.nd) (s_cons (s_setF (i := 5) c.n0 c.nd (e_callB c (c_sum c.calm) g.sum bt_sum (d_cons (d_var 4) d_nil)))
  (s_one (s_for c.passes c.calm (i_range1 g.range (c_cons (e_callB c c_len g.len bt_len (d_cons (d_var 2) d_nil)) c_nil)) (g_name (i := 6) c.n0 c.nd) (s_one (s_if (e_cmpT c (o_eq c.room) (d_comp ([("thing", 7)]) c (i_any c (d_call c h_law_inside (d_cons (d_var 6) d_nil))) (blkOk_by (by kernel_rfl)) (fun _ _ _ _ _ Z c => (g_name (i := 7) c.n0 c.nd)) (fun _ _ _ _ _ Z c => (t_one (e_cmpT c (o_in c.room) (d_var 7) (d_call c h_law_inside (d_cons (d_var 5) d_nil)) rfl))) (fun _ _ _ _ _ Z c => d_int)) (d_lst c_nil) (nomark _)) (s_one (s_append (i := 3) c (e_op c o_add (d_var 4) (d_tup (c_cons (d_var 6) c_nil))))) s_nil))))))
  (s_one (s_setF (i := 1) c.n0 c.nd (d_var 3))))))
  (s_one (s_ret (d_var 1)))))
theorem sc_law_worth_of : FnScope ["room", "own", "bid", "some"] ["room", "own"] (defScope (topS 34)) := ⟨rfl, rfl, rfl, by decide +kernel, rfl, by decide +kernel, by decide +kernel⟩
theorem ok_law_worth_of {P : Program} {w : World} {K : PySem.W.Frag} {mg : Str → Option Value} {base : Heap} (g : Gb K mg) (D : DefAt K mg "_law_worth_of" (topS 34)) : Cal P w K mg base "_law_worth_of" 2 1 F_law_worth_of := by
  refine cal_mk (k := 0) (np := 2) (nl := 2) (d := B_law_worth_of) D sc_law_worth_of (fun _ _ _ _ _ _ us hl => match us, hl with | [_, _], _ => rfl) (fun f cdv A outer s H E Z c => ?_)
  exact (s_one (s_ret (e_callB c (c_sum c.calm) g.sum bt_sum (d_cons (d_comp ([("bid", 2), ("some", 3)]) c (i_zip2 c g.zip (c_cons (d_var 0) (c_cons (d_var 1) c_nil))) (blkOk_by (by kernel_rfl)) (fun _ _ _ _ _ Z c => (g_tup c.n0 c.calm c.hK (gs_cons (i := 2) c.nd (gs_cons (i := 3) c.nd gs_nil)))) (fun _ _ _ _ _ Z c => t_nil) (fun _ _ _ _ _ Z c => (e_ix c (d_var 2) (d_var 3)))) d_nil))))
theorem sc_law_first_best : FnScope ["room", "best", "own"] ["room"] (defScope (topS 35)) := ⟨rfl, rfl, rfl, by decide +kernel, rfl, by decide +kernel, by decide +kernel⟩
theorem ok_law_first_best {P : Program} {w : World} {K : PySem.W.Frag} {mg : Str → Option Value} {base : Heap} (g : Gb K mg) (D : DefAt K mg "_law_first_best" (topS 35)) (h_law_shares : Cal P w K mg base "_law_shares" 1 2 F_law_shares) (h_law_worth_of : Cal P w K mg base "_law_worth_of" 2 1 F_law_worth_of) : Cal P w K mg base "_law_first_best" 1 3 F_law_first_best := by
  refine cal_mk (k := 2) (np := 1) (nl := 2) (d := B_law_first_best) D sc_law_first_best (fun _ _ _ _ _ _ us hl => match us, hl with | [_], _ => rfl) (fun f cdv A outer s H E Z c => ?_)
  exact (s_cons (s_setF (i := 1) c.n0 c.nd d_non)
  (s_cons (s_for c.passes c.calm (i_any c (d_call c h_law_shares (d_cons (d_var 0) d_nil))) (g_name (i := 2) c.n0 c.nd) (s_one (s_if (PW.pt (d_orT (e_cmpT c o_is (d_var 1) d_non (nomark _)) (d_or1T (e_cmpT c o_gt (d_call c h_law_worth_of (d_cons (d_var 0) (d_cons (d_var 2) d_nil))) (d_call c h_law_worth_of (d_cons (d_var 0) (d_cons (d_var 1) d_nil))) (nomark _))))) (s_one (s_setF (i := 1) c.n0 c.nd (d_var 2))) s_nil)))
  (s_one (s_ret (d_var 1)))))
theorem sc_law_most_for : FnScope ["room", "group", "best", "own", "bidder", "some"] ["room", "group"] (defScope (topS 36)) := ⟨rfl, rfl, rfl, by decide +kernel, rfl, by decide +kernel, by decide +kernel⟩
theorem ok_law_most_for {P : Program} {w : World} {K : PySem.W.Frag} {mg : Str → Option Value} {base : Heap} (g : Gb K mg) (D : DefAt K mg "_law_most_for" (topS 36)) (h_law_shares : Cal P w K mg base "_law_shares" 1 2 F_law_shares) (h_law_worth_of : Cal P w K mg base "_law_worth_of" 2 1 F_law_worth_of) : Cal P w K mg base "_law_most_for" 2 3 F_law_most_for := by
  refine cal_mk (k := 2) (np := 2) (nl := 4) (d := B_law_most_for) D sc_law_most_for (fun _ _ _ _ _ _ us hl => match us, hl with | [_, _], _ => rfl) (fun f cdv A outer s H E Z c => ?_)
  exact (s_cons (s_setF (i := 2) c.n0 c.nd d_int)
  (s_cons (s_for c.passes c.calm (i_any c (d_call c h_law_shares (d_cons (d_var 0) d_nil))) (g_name (i := 3) c.n0 c.nd) (s_one (s_if (e_cmpT c (o_eq c.room) (d_comp ([("bidder", 4), ("some", 5)]) c (i_enum c g.enumerate (c_cons (d_var 3) c_nil)) (blkOk_by (by kernel_rfl)) (fun _ _ _ _ _ Z c => (g_tup c.n0 c.calm c.hK (gs_cons (i := 4) c.nd (gs_cons (i := 5) c.nd gs_nil)))) (fun _ _ _ _ _ Z c => (t_one (PW.pt (d_andT (e_cmpT c o_gt (d_var 5) d_int (nomark _)) (d_and1T (e_cmpT c (o_notin c.room) (d_var 4) (d_var 1) rfl)))))) (fun _ _ _ _ _ Z c => d_int)) (d_lst c_nil) (nomark _)) (s_one (s_setF (i := 2) c.n0 c.nd (e_callB c (c_max c.calm) g.max bt_max (d_cons (d_var 2) (d_cons (d_call c h_law_worth_of (d_cons (d_var 0) (d_cons (d_var 3) d_nil))) d_nil))))) s_nil)))
  (s_one (s_ret (d_var 2)))))
theorem sc_law_pays : FnScope ["room", "bidder", "own", "made", "others", "other"] ["room"] (defScope (topS 37)) := ⟨rfl, rfl, rfl, by decide +kernel, rfl, by decide +kernel, by decide +kernel⟩
theorem ok_law_pays {P : Program} {w : World} {K : PySem.W.Frag} {mg : Str → Option Value} {base : Heap} (g : Gb K mg) (D : DefAt K mg "_law_pays" (topS 37)) (h_law_first_best : Cal P w K mg base "_law_first_best" 1 3 F_law_first_best) (h_law_most_for : Cal P w K mg base "_law_most_for" 2 3 F_law_most_for) : Cal P w K mg base "_law_pays" 1 4 F_law_pays := by
  refine cal_mk (k := 3) (np := 1) (nl := 5) (d := B_law_pays) D sc_law_pays (fun _ _ _ _ _ _ us hl => match us, hl with | [_], _ => rfl) (fun f cdv A outer s H E Z c => ?_)
  exact (s_cons (s_parT c (d_call c h_law_first_best (d_cons (d_var 0) d_nil)) (d_lst c_nil) (gs_cons (i := 2) c.nd (gs_cons (i := 3) c.nd gs_nil)))
  (s_cons (s_for c.passes c.calm (i_range1 g.range (c_cons (e_callB c c_len g.len bt_len (d_cons (d_var 0) d_nil)) c_nil)) (g_name (i := 1) c.n0 c.nd) (s_cons (s_setC (i := 4) ([("other", 5)]) c (i_range1 g.range (c_cons (e_callB c c_len g.len bt_len (d_cons (d_var 0) d_nil)) c_nil)) (blkOk_by (by kernel_rfl)) (fun _ _ _ _ _ Z c => (g_name (i := 5) c.n0 c.nd)) (fun _ _ _ _ _ Z c => (t_one (e_cmpT c (o_ne c.room) (d_var 5) (d_var 1) (nomark _)))) (fun _ _ _ _ _ Z c => (d_var 5)) (sw_true rfl rfl rfl (by decide +kernel)))
  (s_one (s_append (i := 3) c (e_op c o_sub (d_call c h_law_most_for (d_cons (d_var 0) (d_cons (d_var 4) d_nil))) (e_callB c (c_sum c.calm) g.sum bt_sum (d_cons (d_comp ([("other", 5)]) c (i_any c (d_var 4)) (blkOk_by (by kernel_rfl)) (fun _ _ _ _ _ Z c => (g_name (i := 5) c.n0 c.nd)) (fun _ _ _ _ _ Z c => t_nil) (fun _ _ _ _ _ Z c => (e_ix c (e_ix c (d_var 0) (d_var 5)) (e_ix c (d_var 2) (d_var 5))))) d_nil)))))))
  (s_one (s_ret (d_var 3)))))
theorem sc_law : FnScope ["script", "town", "room", "rest", "everyone_here", "bidder", "worths", "single", "got", "ranked", "winner", "paid", "due", "own", "others", "again", "bid", "some", "payment", "worth"] ["script"] (defScope (topS 38)) := ⟨rfl, rfl, rfl, by decide +kernel, rfl, by decide +kernel, by decide +kernel⟩
theorem fn_law {f : Addr} {fd : FuncData} {P : Program} {w : World} {K : PySem.W.Frag} {mg : Str → Option Value} {base : Heap} (g : Gb K mg) (D : Fun K "law" "law" (topS 38) f fd) (h_best_allotment : Cal P w K mg base "best_allotment" 1 6 F_best_allotment) (h_best_total : Cal P w K mg base "best_total" 2 6 F_best_total) (h_payments : Cal P w K mg base "payments" 1 6 F_payments) (h_kept : Cal P w K mg base "kept" 1 6 F_kept) (h_law_draw : Cal P w K mg base "_law_draw" 3 3 F_law_draw) (h_law_some_room : Cal P w K mg base "_law_some_room" 3 5 F_law_some_room) (h_law_first_best : Cal P w K mg base "_law_first_best" 1 3 F_law_first_best) (h_law_pays : Cal P w K mg base "_law_pays" 1 4 F_law_pays) : FnOk P w K mg base (L2.CX P w) 7 f fd ["script"] (spOf K mg 1 F_law) := by
  refine fn_ok (k := 6) (np := 1) (nl := 19) (d := B_law) D sc_law (fun cdv A outer s H E Z c => ?_)
  exact (s_cons (s_set (i := 1) c.n0 c.nd (d_lst c_nil))
  (s_cons (s_setF (i := 2) c.n0 c.nd (d_call c h_law_some_room (d_cons (d_var 0) (d_cons (d_var 1) (d_cons d_int d_nil)))))
  (s_cons (s_parF (i := 12) (j := 13) c (d_call c h_law_pays (d_cons (d_var 2) d_nil)) (d_call c h_law_first_best (d_cons (d_var 2) d_nil)))
  (s_cons (s_setC (i := 3) ([("bid", 16), ("some", 17), ("payment", 18)]) c (i_zip3 c g.zip (c_cons (d_var 2) (c_cons (d_var 13) (c_cons (d_var 12) c_nil)))) (blkOk_by (by kernel_rfl)) (fun _ _ _ _ _ Z c => (g_tup c.n0 c.calm c.hK (gs_cons (i := 16) c.nd (gs_cons (i := 17) c.nd (gs_cons (i := 18) c.nd gs_nil))))) (fun _ _ _ _ _ Z c => t_nil) (fun _ _ _ _ _ Z c => (e_op c o_sub (e_ix c (d_var 16) (d_var 17)) (d_var 18))) (sw_true rfl rfl rfl (by decide +kernel)))
  (s_cons (s_if (PW.pt (d_orT (e_cmpT c (o_ne c.room) (d_call c h_payments (d_cons (d_var 2) d_nil)) (d_var 12) (nomark _)) (d_or1T (e_cmpT c (o_ne c.room) (d_call c h_kept (d_cons (d_var 2) d_nil)) (d_var 3) (nomark _))))) (s_one (s_ret d_bl)) s_nil)
  (s_cons (s_if (PW.pt (d_orT (e_cmpT c o_lt (e_callB c (c_min c.calm) g.min bt_min (d_cons (d_var 12) d_nil)) d_int (nomark _)) (d_or1T (e_cmpT c o_lt (e_callB c (c_min c.calm) g.min bt_min (d_cons (d_call c h_kept (d_cons (d_var 2) d_nil)) d_nil)) d_int (nomark _))))) (s_one (s_ret d_bl)) s_nil)
  (s_cons (s_setF (i := 4) c.n0 c.nd (d_tupRg c (e_callB c c_len g.len bt_len (d_cons (d_var 2) d_nil)) g.tuple g.range))
  (s_cons (s_for c.passes c.calm (i_any c (d_var 4)) (g_name (i := 5) c.n0 c.nd) (s_cons (s_setF (i := 14) c.n0 c.nd (e_op c o_add (e_hi c (d_var 4) (d_var 5)) (e_lo c (d_var 4) (e_op c o_add (d_var 5) d_int))))
  (s_cons (s_if (e_cmpT c (o_ne c.room) (e_ix c (d_call c h_kept (d_cons (d_var 2) d_nil)) (d_var 5)) (e_op c o_sub (d_call c h_best_total (d_cons (d_var 2) (d_cons (d_var 4) d_nil))) (d_call c h_best_total (d_cons (d_var 2) (d_cons (d_var 14) d_nil)))) (nomark _)) (s_one (s_ret d_bl)) s_nil)
  (s_one (s_if (PW.pt (d_andT (e_cmpT c (o_eq c.room) (e_ix c (d_var 13) (d_var 5)) d_int (nomark _)) (d_and1T (e_cmpT c (o_ne c.room) (e_ix c (d_var 12) (d_var 5)) d_int (nomark _))))) (s_one (s_ret d_bl)) s_nil)))))
  (s_cons (s_setC (i := 6) ([("again", 15)]) c (i_range1 g.range (c_cons (e_op c o_add d_int (d_call c h_law_draw (d_cons (d_var 0) (d_cons (d_var 1) (d_cons d_int d_nil))))) c_nil)) (blkOk_by (by kernel_rfl)) (fun _ _ _ _ _ Z c => (g_name (i := 15) c.n0 c.nd)) (fun _ _ _ _ _ Z c => t_nil) (fun _ _ _ _ _ Z c => (d_call c h_law_draw (d_cons (d_var 0) (d_cons (d_var 1) (d_cons d_int d_nil))))) (sw_true rfl rfl rfl (by decide +kernel)))
  (s_cons (s_setF (i := 7) c.n0 c.nd (e_callTy c c_tuple g.tuple bt_tuple (d_cons (d_comp ([("worth", 19)]) c (i_any c (d_var 6)) (blkOk_by (by kernel_rfl)) (fun _ _ _ _ _ Z c => (g_name (i := 19) c.n0 c.nd)) (fun _ _ _ _ _ Z c => t_nil) (fun _ _ _ _ _ Z c => (d_tup (c_cons d_int (c_cons (d_var 19) c_nil))))) d_nil)))
  (s_cons (s_setF (i := 8) c.n0 c.nd (d_call c h_best_allotment (d_cons (d_var 7) d_nil)))
  (s_cons (s_setF (i := 9) c.n0 c.nd (e_op c o_add (e_rev c (e_callB c (c_sorted c.room) g.sorted bt_sorted (d_cons (d_var 6) d_nil))) (d_lst (c_cons d_int c_nil))))
  (s_cons (s_if (e_cmpT c (o_ne c.room) (d_methT c PySem.F.slot_tuple_count PySem.F.type_tuple_count m_countT (d_var 8) (d_cons d_int d_nil)) d_int (nomark _)) (s_one (s_ret (d_and (e_cmp c (o_eq c.room) (e_callB c (c_max c.calm) g.max bt_max (d_cons (d_var 6) d_nil)) d_int (nomark _)) (d_one (e_cmp c (o_eq c.room) (d_call c h_payments (d_cons (d_var 7) d_nil)) (e_op c o_mul (d_lst (c_cons d_int c_nil)) (e_callB c c_len g.len bt_len (d_cons (d_var 6) d_nil))) (nomark _)))))) s_nil)
  (s_cons (s_setF (i := 10) c.n0 c.nd (d_methT c PySem.F.slot_tuple_index PySem.F.type_tuple_index m_indexT (d_var 8) (d_cons d_int d_nil)))
  (s_cons (s_setF (i := 11) c.n0 c.nd (d_call c h_payments (d_cons (d_var 7) d_nil)))
  (s_one (s_ret (d_and (e_cmp c (o_eq c.room) (e_ix c (d_var 6) (d_var 10)) (e_ix c (d_var 9) d_int) (nomark _)) (d_and (e_cmp c (o_eq c.room) (e_ix c (d_var 11) (d_var 10)) (e_ix c (d_var 9) d_int) (nomark _)) (d_one (e_cmp c (o_eq c.room) (e_callB c (c_sum c.calm) g.sum bt_sum (d_cons (d_var 11) d_nil)) (e_ix c (d_var 9) d_int) (nomark _))))))))))))))))))))))
theorem all_mk {w : World} {K : PySem.W.Frag} {mg : Str → Option Value} {fa : Addr} (g : Gb K mg) (D_is_integer : DefAt K mg "is_integer" (topS 7)) (D_things_in : DefAt K mg "things_in" (topS 8)) (D_rises : DefAt K mg "rises" (topS 9)) (D_bids_for : DefAt K mg "bids_for" (topS 10)) (D_is_room : DefAt K mg "is_room" (topS 11)) (D_check_room : DefAt K mg "check_room" (topS 12)) (D_allotments : DefAt K mg "allotments" (topS 14)) (D_total_of : DefAt K mg "total_of" (topS 15)) (D_best_for : DefAt K mg "best_for" (topS 16)) (D_everyone : DefAt K mg "everyone" (topS 17)) (D_best_allotment : DefAt K mg "best_allotment" (topS 18)) (D_check_group : DefAt K mg "check_group" (topS 19)) (D_best_total : DefAt K mg "best_total" (topS 20)) (D_outcome : DefAt K mg "outcome" (topS 22)) (D_payments : DefAt K mg "payments" (topS 23)) (D_kept_list : DefAt K mg "kept_list" (topS 24)) (D_kept : DefAt K mg "kept" (topS 25)) (D_law_cell_at : DefAt K mg "_law_cell_at" (topS 27)) (D_law_mixed : DefAt K mg "_law_mixed" (topS 28)) (D_law_draw : DefAt K mg "_law_draw" (topS 29)) (D_law_inside : DefAt K mg "_law_inside" (topS 30)) (D_law_some_bid : DefAt K mg "_law_some_bid" (topS 31)) (D_law_some_room : DefAt K mg "_law_some_room" (topS 32)) (D_law_shares : DefAt K mg "_law_shares" (topS 33)) (D_law_worth_of : DefAt K mg "_law_worth_of" (topS 34)) (D_law_first_best : DefAt K mg "_law_first_best" (topS 35)) (D_law_most_for : DefAt K mg "_law_most_for" (topS 36)) (D_law_pays : DefAt K mg "_law_pays" (topS 37)) (D_law : DefAt K mg "law" (topS 38)) (hfa : mg "law" = some (.ref fa)) (hF : ∀ ns : List Int, ns.length ≤ 63 → ∃ e, F_law [.fz (.list (ns.map .int))] = .ok (.fz (.bool true)) e) :
    ∃ fd : FuncData, (∀ (s : Shared) (u : Value), BindsTo s fd ⟨[u], []⟩ [("script", u)]) ∧ ∀ base : Heap, K.In base → base.Ns mainGlobals mg → FnOk PySem.Challenge.pw_othersloss_k03_whole_payments w K mg base (L2.CX PySem.Challenge.pw_othersloss_k03_whole_payments w) 7 fa fd ["script"] (spLaw K) := by
  refine law_mk D_law hfa (fun _ _ _ _ _ _ _ => rfl) hF fun f fd base F => ?_
  have h_is_integer := ok_is_integer (P := PySem.Challenge.pw_othersloss_k03_whole_payments) (w := w) (base := base) g D_is_integer
  have h_things_in := ok_things_in (P := PySem.Challenge.pw_othersloss_k03_whole_payments) (w := w) (base := base) g D_things_in
  have h_rises := ok_rises (P := PySem.Challenge.pw_othersloss_k03_whole_payments) (w := w) (base := base) g D_rises h_things_in
  have h_bids_for := ok_bids_for (P := PySem.Challenge.pw_othersloss_k03_whole_payments) (w := w) (base := base) g D_bids_for h_is_integer h_rises
  have h_is_room := ok_is_room (P := PySem.Challenge.pw_othersloss_k03_whole_payments) (w := w) (base := base) g D_is_room h_bids_for
  have h_check_room := ok_check_room (P := PySem.Challenge.pw_othersloss_k03_whole_payments) (w := w) (base := base) g D_check_room h_is_room
  have h_allotments := ok_allotments (P := PySem.Challenge.pw_othersloss_k03_whole_payments) (w := w) (base := base) g D_allotments
  have h_total_of := ok_total_of (P := PySem.Challenge.pw_othersloss_k03_whole_payments) (w := w) (base := base) g D_total_of
  have h_best_for := ok_best_for (P := PySem.Challenge.pw_othersloss_k03_whole_payments) (w := w) (base := base) g D_best_for h_allotments h_total_of
  have h_everyone := ok_everyone (P := PySem.Challenge.pw_othersloss_k03_whole_payments) (w := w) (base := base) g D_everyone
  have h_best_allotment := ok_best_allotment (P := PySem.Challenge.pw_othersloss_k03_whole_payments) (w := w) (base := base) g D_best_allotment h_check_room h_best_for h_everyone
  have h_check_group := ok_check_group (P := PySem.Challenge.pw_othersloss_k03_whole_payments) (w := w) (base := base) g D_check_group h_is_integer
  have h_best_total := ok_best_total (P := PySem.Challenge.pw_othersloss_k03_whole_payments) (w := w) (base := base) g D_best_total h_check_room h_best_for h_check_group
  have h_outcome := ok_outcome (P := PySem.Challenge.pw_othersloss_k03_whole_payments) (w := w) (base := base) g D_outcome h_best_for h_everyone
  have h_payments := ok_payments (P := PySem.Challenge.pw_othersloss_k03_whole_payments) (w := w) (base := base) g D_payments h_check_room h_outcome
  have h_kept_list := ok_kept_list (P := PySem.Challenge.pw_othersloss_k03_whole_payments) (w := w) (base := base) g D_kept_list h_outcome
  have h_kept := ok_kept (P := PySem.Challenge.pw_othersloss_k03_whole_payments) (w := w) (base := base) g D_kept h_check_room h_kept_list
  have h_law_cell_at := ok_law_cell_at (P := PySem.Challenge.pw_othersloss_k03_whole_payments) (w := w) (base := base) g D_law_cell_at
  have h_law_mixed := ok_law_mixed (P := PySem.Challenge.pw_othersloss_k03_whole_payments) (w := w) (base := base) g D_law_mixed h_law_cell_at
  have h_law_draw := ok_law_draw (P := PySem.Challenge.pw_othersloss_k03_whole_payments) (w := w) (base := base) g D_law_draw h_law_mixed
  have h_law_inside := ok_law_inside (P := PySem.Challenge.pw_othersloss_k03_whole_payments) (w := w) (base := base) g D_law_inside
  have h_law_some_bid := ok_law_some_bid (P := PySem.Challenge.pw_othersloss_k03_whole_payments) (w := w) (base := base) g D_law_some_bid h_law_draw h_law_inside
  have h_law_some_room := ok_law_some_room (P := PySem.Challenge.pw_othersloss_k03_whole_payments) (w := w) (base := base) g D_law_some_room h_law_draw h_law_some_bid
  have h_law_shares := ok_law_shares (P := PySem.Challenge.pw_othersloss_k03_whole_payments) (w := w) (base := base) g D_law_shares h_law_inside
  have h_law_worth_of := ok_law_worth_of (P := PySem.Challenge.pw_othersloss_k03_whole_payments) (w := w) (base := base) g D_law_worth_of
  have h_law_first_best := ok_law_first_best (P := PySem.Challenge.pw_othersloss_k03_whole_payments) (w := w) (base := base) g D_law_first_best h_law_shares h_law_worth_of
  have h_law_most_for := ok_law_most_for (P := PySem.Challenge.pw_othersloss_k03_whole_payments) (w := w) (base := base) g D_law_most_for h_law_shares h_law_worth_of
  have h_law_pays := ok_law_pays (P := PySem.Challenge.pw_othersloss_k03_whole_payments) (w := w) (base := base) g D_law_pays h_law_first_best h_law_most_for
  exact fn_law g F h_best_allotment h_best_total h_payments h_kept h_law_draw h_law_some_room h_law_first_best h_law_pays
end DL

open PySem PySem.W PyProof.Rows
set_option maxHeartbeats 0 in
theorem PySem.Challenge.cw_othersloss_k03_whole_payments_holds : PySem.Challenge.rw_othersloss_k03_whole_payments.Holds := by
  w_on; o_law; k_head; (case hw => w_witness2)
  k_fill
  refine L2.walk_of (l := PySem.Challenge.rw_othersloss_k03_whole_payments) (n := 63) (k := 7) (x := "script") (CX := fun w => L2.CX PySem.Challenge.pw_othersloss_k03_whole_payments w) (sp := fun w => DL.spLaw _) rfl (by decide) rfl ⟨rfl, by decide, by decide⟩ (fun w h Y => PySem.W.kIn_of Y) ?F (fun _ _ a ns hl _ hS => ⟨a, ns, rfl, hS, hl, fun _ => rfl⟩) (fun _ _ _ _ _ h => DL.cx_false h)
  case F =>
    intro w mg fa h KX G hmg
    refine DL.all_mk ⟨?g_InvalidGroup, ?g_InvalidRoom, ?g_MOST, ?g_SIZES, ?g_all, ?g_bool, ?g_enumerate, ?g_int, ?g_isinstance, ?g_len, ?g_list, ?g_max, ?g_min, ?g_range, ?g_sorted, ?g_sum, ?g_tuple, ?g_zip⟩ ?D_is_integer ?D_things_in ?D_rises ?D_bids_for ?D_is_room ?D_check_room ?D_allotments ?D_total_of ?D_best_for ?D_everyone ?D_best_allotment ?D_check_group ?D_best_total ?D_outcome ?D_payments ?D_kept_list ?D_kept ?D_law_cell_at ?D_law_mixed ?D_law_draw ?D_law_inside ?D_law_some_bid ?D_law_some_room ?D_law_shares ?D_law_worth_of ?D_law_first_best ?D_law_most_for ?D_law_pays ?D_law hmg DL.law_true
    case g_InvalidGroup =>
      refine' DL.exc_mk KX G ?a ?e ?k ?b ?t
      (case a => k_is); (case e => k_exc); (case k => k_is); (case b => k_is); (case t => k_is)
    case g_InvalidRoom =>
      refine' DL.exc_mk KX G ?a ?e ?k ?b ?t
      (case a => k_is); (case e => k_exc); (case k => k_is); (case b => k_is); (case t => k_is)
    case g_MOST =>
      refine' DL.int_mk KX G ?e
      (case e => k_is)
    case g_SIZES =>
      refine' DL.sizes_mk KX G ?e ?l
      (case e => k_is); (case l => k_is)
    case g_all => exact PySem.W.mg_none_of KX G (by k_is)
    case g_bool => exact PySem.W.mg_none_of KX G (by k_is)
    case g_enumerate => exact PySem.W.mg_none_of KX G (by k_is)
    case g_int => exact PySem.W.mg_none_of KX G (by k_is)
    case g_isinstance => exact PySem.W.mg_none_of KX G (by k_is)
    case g_len => exact PySem.W.mg_none_of KX G (by k_is)
    case g_list => exact PySem.W.mg_none_of KX G (by k_is)
    case g_max => exact PySem.W.mg_none_of KX G (by k_is)
    case g_min => exact PySem.W.mg_none_of KX G (by k_is)
    case g_range => exact PySem.W.mg_none_of KX G (by k_is)
    case g_sorted => exact PySem.W.mg_none_of KX G (by k_is)
    case g_sum => exact PySem.W.mg_none_of KX G (by k_is)
    case g_tuple => exact PySem.W.mg_none_of KX G (by k_is)
    case g_zip => exact PySem.W.mg_none_of KX G (by k_is)
    case D_is_integer =>
      refine' DL.def_mk KX G ?a ?l ?c ?k
      (case a => k_is); (case l => k_is); (case c => k_is); (case k => k_is)
    case D_things_in =>
      refine' DL.def_mk KX G ?a ?l ?c ?k
      (case a => k_is); (case l => k_is); (case c => k_is); (case k => k_is)
    case D_rises =>
      refine' DL.def_mk KX G ?a ?l ?c ?k
      (case a => k_is); (case l => k_is); (case c => k_is); (case k => k_is)
    case D_bids_for =>
      refine' DL.def_mk KX G ?a ?l ?c ?k
      (case a => k_is); (case l => k_is); (case c => k_is); (case k => k_is)
    case D_is_room =>
      refine' DL.def_mk KX G ?a ?l ?c ?k
      (case a => k_is); (case l => k_is); (case c => k_is); (case k => k_is)
    case D_check_room =>
      refine' DL.def_mk KX G ?a ?l ?c ?k
      (case a => k_is); (case l => k_is); (case c => k_is); (case k => k_is)
    case D_allotments =>
      refine' DL.def_mk KX G ?a ?l ?c ?k
      (case a => k_is); (case l => k_is); (case c => k_is); (case k => k_is)
    case D_total_of =>
      refine' DL.def_mk KX G ?a ?l ?c ?k
      (case a => k_is); (case l => k_is); (case c => k_is); (case k => k_is)
    case D_best_for =>
      refine' DL.def_mk KX G ?a ?l ?c ?k
      (case a => k_is); (case l => k_is); (case c => k_is); (case k => k_is)
    case D_everyone =>
      refine' DL.def_mk KX G ?a ?l ?c ?k
      (case a => k_is); (case l => k_is); (case c => k_is); (case k => k_is)
    case D_best_allotment =>
      refine' DL.def_mk KX G ?a ?l ?c ?k
      (case a => k_is); (case l => k_is); (case c => k_is); (case k => k_is)
    case D_check_group =>
      refine' DL.def_mk KX G ?a ?l ?c ?k
      (case a => k_is); (case l => k_is); (case c => k_is); (case k => k_is)
    case D_best_total =>
      refine' DL.def_mk KX G ?a ?l ?c ?k
      (case a => k_is); (case l => k_is); (case c => k_is); (case k => k_is)
    case D_outcome =>
      refine' DL.def_mk KX G ?a ?l ?c ?k
      (case a => k_is); (case l => k_is); (case c => k_is); (case k => k_is)
    case D_payments =>
      refine' DL.def_mk KX G ?a ?l ?c ?k
      (case a => k_is); (case l => k_is); (case c => k_is); (case k => k_is)
    case D_kept_list =>
      refine' DL.def_mk KX G ?a ?l ?c ?k
      (case a => k_is); (case l => k_is); (case c => k_is); (case k => k_is)
    case D_kept =>
      refine' DL.def_mk KX G ?a ?l ?c ?k
      (case a => k_is); (case l => k_is); (case c => k_is); (case k => k_is)
    case D_law_cell_at =>
      refine' DL.def_mk KX G ?a ?l ?c ?k
      (case a => k_is); (case l => k_is); (case c => k_is); (case k => k_is)
    case D_law_mixed =>
      refine' DL.def_mk KX G ?a ?l ?c ?k
      (case a => k_is); (case l => k_is); (case c => k_is); (case k => k_is)
    case D_law_draw =>
      refine' DL.def_mk KX G ?a ?l ?c ?k
      (case a => k_is); (case l => k_is); (case c => k_is); (case k => k_is)
    case D_law_inside =>
      refine' DL.def_mk KX G ?a ?l ?c ?k
      (case a => k_is); (case l => k_is); (case c => k_is); (case k => k_is)
    case D_law_some_bid =>
      refine' DL.def_mk KX G ?a ?l ?c ?k
      (case a => k_is); (case l => k_is); (case c => k_is); (case k => k_is)
    case D_law_some_room =>
      refine' DL.def_mk KX G ?a ?l ?c ?k
      (case a => k_is); (case l => k_is); (case c => k_is); (case k => k_is)
    case D_law_shares =>
      refine' DL.def_mk KX G ?a ?l ?c ?k
      (case a => k_is); (case l => k_is); (case c => k_is); (case k => k_is)
    case D_law_worth_of =>
      refine' DL.def_mk KX G ?a ?l ?c ?k
      (case a => k_is); (case l => k_is); (case c => k_is); (case k => k_is)
    case D_law_first_best =>
      refine' DL.def_mk KX G ?a ?l ?c ?k
      (case a => k_is); (case l => k_is); (case c => k_is); (case k => k_is)
    case D_law_most_for =>
      refine' DL.def_mk KX G ?a ?l ?c ?k
      (case a => k_is); (case l => k_is); (case c => k_is); (case k => k_is)
    case D_law_pays =>
      refine' DL.def_mk KX G ?a ?l ?c ?k
      (case a => k_is); (case l => k_is); (case c => k_is); (case k => k_is)
    case D_law =>
      refine' DL.def_mk KX G ?a ?l ?c ?k
      (case a => k_is); (case l => k_is); (case c => k_is); (case k => k_is)


import PyProof.Rows.All
import HandS.ForMost
import HandS.Wide
import HandS.IsInst
import HandS.TupAny
import HandS.TupMul
import HandS.Style
import HandS.Flow
import HandS.Words
import HandS.Strs
import HandS.Zip
import KE.SortData
import KE.GoesZip
import HandS.AnyAll
import HandS.GenOver
import HandS.Defaults
import HandS.HeadHook2
import HandS.HeadHook4
import HandS.EndTab
import HandS.Head0
import HandS.Head1
import HandS.Head2
import HandS.Head3
import HandS.Head4
import PySem.Challenge.RW_reckonhall_k73_whole_stacks_and_nudges
set_option Elab.async false
set_option linter.all false
set_option maxRecDepth 100000
namespace RV
open PySem PySem.Spec PyProof.Rows L2
/-! ### tuples whose object is known to have no dict -/
def SqU (H : Hp) (a : Addr) (xs : List V) : Prop := ∃ o, H a = some (.frz o (.tup xs)) ∧ o.dict = none
theorem SqU.t {K H a xs} (h : SqU H a xs) : SqT K H a xs := let ⟨o, h, _⟩ := h; .inl (.inr ⟨o, h⟩)
section
variable {X : Cx} {pins : List (Addr × Obj)} {σ : L2.St} {H : Hp} {s : Shared} {es : List Expr} {t : TA} {pos : Pos}
/-- a new tuple is laid -/
theorem laidU {h' : Heap} {a : Addr} {xs : List V} {its : List Value} {t' : Nat} (I : L2.Inv X pins σ H s) (k : ∀ b u, s.heap.get? b = some u → h'.get? b = some u) (hp : s.heap.objs.size ≤ a) (hz : xs.length ≤ sizeLine) (r : Vals xs its)
    (e : h'.get? a = some { cls := .type "tuple", data := .seq its.toArray }) : L2.Inv X pins σ (upd H a (.frz { cls := .type "tuple", data := .seq its.toArray } (.tup xs))) { s with heap := h', toks := t' } :=
  I.laid (o := .frz { cls := .type "tuple", data := .seq its.toArray } (.tup xs)) k hp ⟨e, hz, its, r, ⟨_, e, rfl, _, rfl⟩⟩
def tTupF (t : TA) : TE := fun σ H Q => t σ H fun xs H1 => xs.length ≤ sizeLine ∧ ∀ p o, o.dict = none → H1 p = none → Q (.ref p) (upd H1 p (.frz o (.tup xs)))
theorem pe_tupF {x1} (h : PA X es t) : PE X (.Tuple es x1 pos) (tTupF t) := by
  refine ⟨fun pins s σ H Q I hq => ?_⟩
  refine wpAny_Tuple_spliced (thn (h.run pos pins s σ H _ I hq) fun us s1 ⟨xs, H1, I1, r, z, q⟩ => ⟨by rw [← r.length]; exact z, ?_⟩)
  exact ⟨.ref s1.heap.objs.size, _, laidU (t' := s1.toks) I1 (fun b u e => Heap.get?_push_of_some _ e) (Nat.le_refl _) z r (Heap.get?_push_size _ rfl), rfl, q _ _ rfl (I1.hok.fresh (Nat.le_refl _))⟩
/-- tuple(list), tuple(tuple) -/
theorem call_tupleF : CallR X (.type "tuple") (fun xs H Q => ∃ p ys, xs = [.ref p] ∧ ((SqL X.K H p ys ∧ ∀ l o, o.dict = none → H l = none → Q (.ref l) (upd H l (.frz o (.tup ys)))) ∨ (SqT X.K H p ys ∧ Q (.ref p) H))) := by
  intro pins s σ H xs us Q I r h
  obtain ⟨p, ys, rfl, h⟩ := h
  obtain ⟨u, rfl, rx⟩ := vals1 r
  cases rx
  rcases h with ⟨hq, q⟩ | ⟨hq, q⟩
  · obtain ⟨its, r', pl, hz⟩ := I.list hq
    have hlen := r'.length
    refine call_tuple_list pl.isList (fun h' kp => ?_) (by simp only [List.size_toArray] <;> omega)
    have I1 : L2.Inv X pins σ H { s with heap := h' } := I.kept (t' := s.toks) kp
    exact ⟨.ref h'.objs.size, _, laidU (s := { s with heap := h' }) (t' := s.toks) I1 (fun b u e => Heap.get?_push_of_some _ e) (Nat.le_refl _) hz r' (Heap.get?_push_size _ rfl), rfl, q _ _ rfl (I1.hok.fresh (Nat.le_refl _))⟩
  · obtain ⟨its, r', pl, hz⟩ := I.tuple hq
    exact call_tuple_same pl ⟨.ref p, H, I, rfl, q⟩
/-- t + u -/
def rCatF (K : PySem.W.Frag) : R2 := fun x y H Q => ∃ a b xs ys, x = .ref a ∧ y = .ref b ∧ SqT K H a xs ∧ SqT K H b ys ∧ xs.length + ys.length ≤ sizeLine ∧
  (xs = [] → Q (.ref b) H) ∧ (xs ≠ [] → ys = [] → Q (.ref a) H) ∧ (xs ≠ [] → ys ≠ [] → ∀ p o, o.dict = none → H p = none → Q (.ref p) (upd H p (.frz o (.tup (xs ++ ys)))))
theorem op_catF : OpR X (binaryOp .Add) (rCatF X.K) := by
  intro pins s σ H x y v u Q I rx ry h
  obtain ⟨a, b, xs, ys, rfl, rfl, ha, hb, hz, q0, q1, q2⟩ := h
  by_cases hx : xs = []
  · subst hx
    cases rx
    cases ry
    obtain ⟨its, r1, p1, _⟩ := I.tuple ha
    obtain ⟨its2, r2, p2, _⟩ := I.tuple hb
    cases r1
    exact cat_tup0 p1 p2 ⟨.ref b, H, I, rfl, q0 rfl⟩
  · cases rx
    cases ry
    obtain ⟨its, r1, p1, _⟩ := I.tuple ha
    obtain ⟨its2, r2, p2, _⟩ := I.tuple hb
    refine HT.cat_tup p1 p2 (fun z => hx (r1.nil_iff.mp z)) (fun z => ⟨.ref a, H, I, rfl, q1 hx (r2.nil_iff.mp z)⟩) (fun z => ?_) (by rw [← r1.length, ← r2.length]; exact hz)
    exact ⟨.ref s.heap.objs.size, _, laidU (t' := s.toks) I (fun b ob q => Heap.get?_push_of_some _ q) (Nat.le_refl _) (by rw [List.length_append]; exact hz) (r1.append r2) (Heap.get?_push_size _ rfl), rfl, q2 hx (fun w => z (r2.nil_iff.mpr w)) _ _ rfl (I.hok.fresh (Nat.le_refl _))⟩
/-- t[lo:hi]: the whole of it is t itself -/
def rSlF (K : PySem.W.Frag) : V → Option Int → Option Int → Hp → VK → Prop := fun x lo hi H Q => ∃ a xs, x = .ref a ∧ SqT K H a xs ∧
  (HT.sIx xs.length 0 lo = 0 ∧ HT.sIx xs.length xs.length hi = xs.length → Q (.ref a) H) ∧ (¬ (HT.sIx xs.length 0 lo = 0 ∧ HT.sIx xs.length xs.length hi = xs.length) → ∀ p o, o.dict = none → H p = none → Q (.ref p) (upd H p (.frz o (.tup (cutV xs lo hi)))))
theorem sl_tupF : SlR X (rSlF X.K) := by
  intro pins s σ H x v vl vu lo hi sl Q I rx hs pl pu h
  obtain ⟨a, xs, rfl, hx, q1, q2⟩ := h
  by_cases hw : HT.sIx xs.length 0 lo = 0 ∧ HT.sIx xs.length xs.length hi = xs.length
  · cases rx
    obtain ⟨its, r, ht, hz⟩ := I.tuple hx
    have hlen : its.toArray.size = xs.length := by rw [List.size_toArray]; exact r.length.symm
    refine ⟨"tuple", _, PyProof.Rows.slot_tuple_getitem.lookup, ht.typeIs, ?_⟩
    exact getItem_tuple_whole ht hs pl pu (by rw [hlen]; exact hw) ⟨.ref a, H, I, rfl, q1 hw⟩
  · cases rx
    obtain ⟨its, r, ht, hz⟩ := I.tuple hx
    have hlen : its.toArray.size = xs.length := by rw [List.size_toArray]; exact r.length.symm
    refine ⟨"tuple", _, PyProof.Rows.slot_tuple_getitem.lookup, ht.typeIs, ?_⟩
    refine HT.getItem_tuple_cut ht hs pl pu (by rw [hlen]; exact hw) ?_ (by rw [hlen]; exact hz)
    rw [hlen]
    exact ⟨.ref s.heap.objs.size, _, laidU (t' := s.toks) I (fun b ob q => Heap.get?_push_of_some _ q) (Nat.le_refl _) (Nat.le_trans (cutV_length xs lo hi) hz) ((r.drop (HT.sIx xs.length 0 lo)).take (HT.sIx xs.length xs.length hi - HT.sIx xs.length 0 lo)) (Heap.get?_push_size _ rfl), rfl, q2 hw _ _ rfl (I.hok.fresh (Nat.le_refl _))⟩
/-- t * k -/
def rRepF (K : PySem.W.Frag) : R2 := fun x y H Q => ∃ l k xs, x = .ref l ∧ y = .int k ∧ SqT K H l xs ∧ xs ≠ [] ∧ 2 ≤ k ∧ k ≤ 1000 ∧ xs.length ≤ 1000 ∧ ∀ p o, o.dict = none → H p = none → Q (.ref p) (upd H p (.frz o (.tup (List.replicate k.toNat xs).flatten)))
theorem op_repF : OpR X (binaryOp .Mult) (rRepF X.K) := by
  intro pins s σ H x y v u Q I rx ry h
  obtain ⟨l, k, xs, rfl, rfl, hT, hne, h1, h2, hz, q⟩ := h
  cases rx
  obtain ⟨t, rfl⟩ := ry
  obtain ⟨its, r, ⟨⟨cls, dd, data, sl⟩, ho, hc, n, hd⟩, hs⟩ := I.tuple hT
  simp only at hc hd
  subst hc hd
  have hle : its.length = xs.length := r.length.symm
  have hn : its ≠ [] := fun e => hne (by
    rw [e] at hle
    exact List.eq_nil_of_length_eq_zero hle.symm)
  have hi : its.toArray.isEmpty = false := by
    cases its with
    | nil => exact absurd rfl hn
    | cons a b => rfl
  have hsz0 : its.toArray.size = xs.length := by rw [List.size_toArray, hle]
  have hm : ((its.toArray.size : Nat) : Int) * k ≤ 1000000 := by
    rw [hsz0]
    have a1 : ((xs.length : Nat) : Int) * k ≤ 1000 * k := Int.mul_le_mul_of_nonneg_right (by omega) (by omega)
    omega
  have flen : (List.replicate k.toNat its).flatten.length ≤ sizeLine := by
    rw [PyProof.Rows.lm_len_rep_flat, hle, sizeLine_eq]
    have a1 : k.toNat * xs.length ≤ 1000 * 1000 := Nat.mul_le_mul (by omega) hz
    omega
  have c0 : (decide (k < -(2 ^ 63)) || decide (k ≥ 2 ^ 63)) = false := by
    rw [decide_eq_false (by omega), decide_eq_false (by omega)] <;> rfl
  have c1 : (its.toArray.isEmpty || k == 1) = false := by
    rw [hi, Bool.false_or]
    exact beq_eq_false_iff_ne.mpr (by omega)
  have c2 : (decide (k ≤ 0) || its.toArray.isEmpty) = false := by
    rw [hi, Bool.or_false]
    exact decide_eq_false (by omega)
  have c4 : Builtin.Tuple.tupleTooMany (((its.toArray.size : Nat) : Int) * k) = false := by
    unfold Builtin.Tuple.tupleTooMany
    rw [sizeLine_eq]
    exact decide_eq_false (by omega)
  refine wpAny_binaryOp_repeat_ref (T := "tuple") (U := "int") (by decide) ⟨_, ho, rfl⟩ (fun s' => typeIs_int s' k t) noFill_tuple_mul F.fills_int_mul F.slot_int_rmul repeat_tuple F.slot_int_index.lookup
    (call_meets F.slot_int_rmul (typeIs_int s k t) F.entry_int_rmul (F.args_int_rmul_2 _ _) (int_rmul_tuple k t l its.toArray n dd sl)
      ⟨ho, rfl, ⟨_, ho, rfl⟩, call_meets F.slot_tuple_mul ⟨_, ho, rfl⟩ F.entry_tuple_mul (F.args_tuple_mul_2 _ _) (tuple_mulW l its.toArray n dd sl k t c0 c1 c2 (by omega) c4 (by rw [size_rep, List.size_toArray]; exact flen)) ⟨ho, ?_⟩⟩)
  rw [size_rep]
  exact ⟨.ref s.heap.objs.size, _, laidU (t' := s.toks) I (fun b ob q => Heap.get?_push_of_some _ q) (Nat.le_refl _) (by rw [PyProof.Rows.lm_len_rep_flat, sizeLine_eq]; have a1 : k.toNat * xs.length ≤ 1000 * 1000 := Nat.mul_le_mul (by omega) hz; omega) (r.rep k.toNat) (Heap.get?_push_size _ rfl), rfl, q _ _ rfl (I.hok.fresh (Nat.le_refl _))⟩
end
end RV

namespace RV
open PySem PySem.Spec PyProof.Rows L2
/-! ### t[::-1] -/
section
variable {prog : Program} {w : World} {A : Around} {E : Value → Shared → Prop} {s : Shared}
theorem applied_rev {sl : Addr} {vl vu vs : Value} {n : Nat} {Q : Int × Int × Nat → Shared → Prop} (hs : s.heap.IsSliceOf sl vl vu vs) (pl : IsPart vl none) (pu : IsPart vu none) (ps : IsPart vs (some (-1)))
    (h : Q ((n : Int) - 1, -1, n) s) : wpAny (model prog w) A (Builtin.Slice.sliceApplied (.ref sl) (pure (n : Int))) Q E s := by
  obtain ⟨os, hos, hcs, hds⟩ := id hs
  unfold Builtin.Slice.sliceApplied Builtin.Slice.sliceFields
  refine wpAny_bind (wpAny_bind (wpAny_field hos hds (x := vl) rfl (wpAny_bind (wpAny_field hos hds (x := vu) rfl (wpAny_bind (wpAny_field hos hds (x := vs) rfl (wpAny_pure ?_)))))))
  refine wpAny_bind (HT.slicePart_ ps ?_)
  show wpAny _ _ (if ((-1 : Int) == 0) = true then _ else _) _ _ s
  rw [if_neg (by decide)]
  refine wpAny_bind (HT.slicePart_ pl (wpAny_bind (HT.slicePart_ pu (wpAny_bind (wpAny_pure ?_)))))
  show wpAny _ _ (pure ((n : Int) - 1, (-1 : Int), Builtin.Slice.slicePlaces ((n : Int) - 1) (-1) (-1))) _ _ s
  have e : Builtin.Slice.slicePlaces ((n : Int) - 1) (-1) (-1) = n := by
    unfold Builtin.Slice.slicePlaces
    rw [if_neg (by decide)]
    split
    · have : ((n : Int) - 1 - -1 - 1) / (- -1) = (n : Int) - 1 := by
        have : (- -1 : Int) = 1 := by decide
        rw [this, Int.ediv_one]; omega
      rw [this]; omega
    · omega
  rw [e]
  exact wpAny_pure h
theorem range_rev : ∀ (l : List Value), (List.range l.length).filterMap (fun (m : Nat) => l[l.length - 1 - m]?) = l.reverse := fun l => by
  have h : ∀ (k : Nat), k ≤ l.length → (List.range k).filterMap (fun (m : Nat) => l[l.length - 1 - m]?) = l.reverse.take k := fun k => by
    induction k with
    | zero => intro _; simp
    | succ k ih =>
      intro hk
      have h2 : l.length - 1 - k < l.length := by omega
      rw [List.range_succ, List.filterMap_append, ih (by omega), List.take_add_one]
      congr 1
      rw [List.getElem?_reverse (by omega), List.getElem?_eq_getElem h2]
      simp [List.getElem?_eq_getElem h2]
  rw [h l.length (Nat.le_refl _), List.take_of_length_le (by simp)]
theorem pick_rev (xs : Array Value) : ((List.range xs.size).filterMap fun (m : Nat) => xs[(((xs.size : Int) - 1) + (m : Int) * (-1)).toNat]?).toArray = xs.toList.reverse.toArray := by
  congr 1
  rw [← range_rev xs.toList, Array.length_toList]
  have e : ∀ (k : Nat), k ≤ xs.size → (List.range k).filterMap (fun (m : Nat) => xs[(((xs.size : Int) - 1) + (m : Int) * (-1)).toNat]?) = (List.range k).filterMap (fun (m : Nat) => xs.toList[xs.size - 1 - m]?) := fun k => by
    induction k with
    | zero => intro _; rfl
    | succ k ih =>
      intro hk
      rw [List.range_succ, List.filterMap_append, List.filterMap_append, ih (by omega)]
      congr 1
      have h1 : (((xs.size : Int) - 1) + (k : Int) * (-1)).toNat = xs.size - 1 - k := by omega
      simp only [List.filterMap_cons, List.filterMap_nil, h1, Array.getElem?_toList]
  exact e xs.size (Nat.le_refl _)
theorem getItem_tuple_rev {t sl : Addr} {items : Array Value} {vl vu vs : Value} {Q : Value → Shared → Prop} (ht : IsTup s.heap t items) (hs : s.heap.IsSliceOf sl vl vu vs) (pl : IsPart vl none) (pu : IsPart vu none) (ps : IsPart vs (some (-1)))
    (h : Q (.ref s.heap.objs.size) { s with heap := s.heap.push { cls := .type "tuple", data := .seq items.toList.reverse.toArray } })
    (hsz : items.size ≤ sizeLine) : wpAny (model prog w) A (getItem (.ref t) (.ref sl)) Q E s := by
  have htake : sizeOk (.seq items.toList.reverse.toArray) := by
    show items.toList.reverse.toArray.size ≤ sizeLine
    rw [List.size_toArray, List.length_reverse, Array.length_toList]
    exact hsz
  obtain ⟨os, hos, hcs, hds⟩ := id hs
  have hTs : s.TypeIs (.ref sl) "slice" := ⟨os, hos, hcs⟩
  unfold getItem
  try with_reducible refine wpAny_holding ?_
  first | refine wpAny_bind (wpAny_pure ?_) | skip
  refine wpAny_bind (wpAny_sequenceKey ht.typeIs (by decide) ?_)
  refine wpAny_bind (wpAny_callSpecial?_slot (name := Str.ofString "__getitem__") ht.typeIs PyProof.Rows.slot_tuple_getitem
    (wpAny_call_entry PyProof.Rows.slot_tuple_getitem ht.typeIs entry_tuple_getitem ?_ (args_tuple_getitem _ _)))
  show wpAny _ _ (Builtin.Tuple.tupleItemsOf (.ref t) >>= _) _ _ s
  refine wpAny_bind (tupleItemsOf_ ht ?_)
  refine wpAny_bind (wpAny_typeOf hTs ?_)
  rw [if_pos (by decide)]
  refine wpAny_bind (applied_rev hs pl pu ps ?_)
  have hno : ¬ ((((items.size : Int) - 1) == 0 && (-1 : Int) == 1 && items.size == items.size) = true) := by
    intro q
    rw [Bool.and_eq_true, Bool.and_eq_true] at q
    exact absurd q.1.2 (by decide)
  show wpAny _ _ (if (((items.size : Int) - 1) == 0 && (-1 : Int) == 1 && items.size == items.size) = true then _ else _) _ _ s
  rw [if_neg hno, pick_rev]
  first
    | exact wpAny_bind (m := Builtin.Tuple.tupleExact _) (wpAny_newObj_type (wpAny_pure ⟨_, rfl, wpAny_pure h⟩) htake)
    | exact wpAny_bind (m := Builtin.Tuple.tupleExact _) (wpAny_newObj_type (wpAny_bind (wpAny_pure (wpAny_pure ⟨_, rfl, wpAny_pure h⟩))) htake)
    | exact wpAny_bind (wpAny_bind (m := Builtin.Tuple.tupleExact _) (wpAny_newObj_type (wpAny_pure (wpAny_pure ⟨_, rfl, wpAny_pure h⟩)) htake))
    | exact wpAny_bind (wpAny_bind (m := Builtin.Tuple.tupleExact _) (wpAny_newObj_type (wpAny_pure ⟨_, rfl, wpAny_pure h⟩) htake))
end
section
variable {X : Cx}
/-- x[::-1] of a list, a tuple -/
def tRevA (K : PySem.W.Frag) (te : TE) : TE := fun σ H Q => te σ H fun x H1 => ∃ a xs, x = .ref a ∧
  ((SqL K H1 a xs ∧ ∀ p, H1 p = none → Q (.ref p) (upd H1 p (.lst xs.reverse))) ∨ (SqT K H1 a xs ∧ ∀ p o, o.dict = none → H1 p = none → Q (.ref p) (upd H1 p (.frz o (.tup xs.reverse)))))
theorem pe_revA {e : Expr} {te : TE} {k : Nat} {p1 p2 p3 pos : Pos} (he : PE X e te) : PE X (.Subscript e (.Slice none none (some (.UnaryOp .USub (.Constant (.int 1) k p1) p2)) p3) pos) (tRevA X.K te) := by
  refine ⟨fun pins s σ H Q I h => ?_⟩
  refine Subscript_ (thn (he.run pins s σ H _ I h) fun v s1 ⟨x, H1, I1, r1, q1⟩ => ?_)
  obtain ⟨a, xs, ex, q⟩ := q1
  subst ex
  cases r1
  have hst : PO X (some (.UnaryOp .USub (.Constant (.int 1) k p1) p2)) (tPart (tUn (rU fun i => .int (-i)) (tC (.int 1)))) := po_some (pe_un un_neg pe_int)
  refine wpAny_Slice (thn (po_none.run pins s1 σ H1 (fun o H2 => o = none ∧ H2 = H1) I1 ⟨rfl, rfl⟩) fun vl s2 ⟨l, H2, I2, pl, el, e2⟩ => ?_)
  subst el e2
  refine thn (po_none.run pins s2 σ H2 (fun o H3 => o = none ∧ H3 = H2) I2 ⟨rfl, rfl⟩) fun vu s3 ⟨u, H3, I3, pu, eu, e3⟩ => ?_
  subst eu e3
  refine thn (hst.run pins s3 σ H3 (fun o H4 => o = some (-1) ∧ H4 = H3) I3 ⟨1, rfl, -1, rfl, rfl, rfl⟩) fun vs s4 ⟨o, H4, I4, ps, eo, e4⟩ => ?_
  subst eo e4
  have I5 : Inv X pins σ H4 { s4 with heap := s4.heap.push { cls := .type "slice", data := .fields #[vl, vu, vs] } } := I4.kept (t' := s4.toks) fun b ob q => Heap.get?_push_of_some _ q
  show wpAny (model X.prog X.w) X.A (subscriptTail e (.Slice none none (some (.UnaryOp .USub (.Constant (.int 1) k p1) p2)) p3) (.ref a) (.ref s4.heap.objs.size)) (EP X pins σ Q) X.xe { s4 with heap := s4.heap.push { cls := .type "slice", data := .fields #[vl, vu, vs] } }
  rcases q with ⟨hx, q⟩ | ⟨hx, q⟩
  · obtain ⟨its, r, ht, hz⟩ := I5.list hx
    have hlen := r.length
    refine tail_any (ops := [.ref a, .ref s4.heap.objs.size]) ht.isList.typeIs (PySem.slot_list_getitem.lookup) ?_ (by with_unfolding_all rfl)
    refine wpAny_getItem_list_slice ht.isList (Heap.IsSliceOf.new _ vl vu vs) pl pu ps (by decide) ?_ (by rw [List.size_toArray]; omega)
    rw [PySem.W.krv_pick]
    refine ⟨.ref _, _, I5.laid (t' := s4.toks) (o := .lst xs.reverse) (fun b ob q => Heap.get?_push_of_some _ q) (Nat.le_refl _) ?_, rfl, q _ (I5.hok.fresh (Nat.le_refl _))⟩
    exact ⟨by rw [List.length_reverse]; exact hz, _, 0, r.reverse, Heap.get?_push_size _ rfl⟩
  · obtain ⟨its, r, ht, hz⟩ := I5.tuple hx
    have hlen := r.length
    refine tail_any (ops := [.ref a, .ref s4.heap.objs.size]) ht.typeIs (PyProof.Rows.slot_tuple_getitem.lookup) ?_ (by with_unfolding_all rfl)
    refine getItem_tuple_rev ht (Heap.IsSliceOf.new _ vl vu vs) pl pu ps ?_ (by rw [List.size_toArray]; omega)
    exact ⟨.ref _, _, laidU (t' := s4.toks) I5 (fun b ob q => Heap.get?_push_of_some _ q) (Nat.le_refl _) (by rw [List.length_reverse]; exact hz) r.reverse (Heap.get?_push_size _ rfl), rfl, q _ _ rfl (I5.hok.fresh (Nat.le_refl _))⟩
end
end RV

namespace RV
open PySem PySem.Spec PyProof.Rows L2 PySem.W
/-! ### sorted of a tuple -/
section
variable {prog : Program} {w : World} {A : Around} {E : Value → Shared → Prop} {s : Shared} {β : Type} {vs : List Value} {bs : List β} {enc : β → PyData} {R : Value → β → Prop}
/-- the items of a tuple, collected: the heap grows -/
theorem collect_tup {t : Addr} {Q : List Value → Shared → Prop} (ht : IsTup s.heap t vs.toArray) (h : ∀ h1, (∀ b o, s.heap.get? b = some o → h1.get? b = some o) → s.heap.objs.size ≤ h1.objs.size → Q vs { s with heap := h1 }) (hsz : vs.length ≤ sizeLine) :
    wpAny (model prog w) A (collect (.ref t)) Q E s := by
  obtain ⟨o, ho, hc, n, hd⟩ := id ht
  have fin : Q vs { s with heap := (s.heap.push (seqObj "list" #[] 0)).update s.heap.objs.size (Obj.mapSeq (· ++ vs.toArray)) } := h _ (fun b o' hb => by
    rw [Heap.get?_update_ne _ _ _ _ (Nat.ne_of_lt (Heap.lt_size hb))]
    exact Heap.get?_push_of_some _ hb) (by rw [Heap.size_update, Heap.size_push]; exact Nat.le_succ _)
  unfold collect
  refine wpAny_bind (wpAny_runValue (codeAny_builtin entry_proto_collect' ?_))
  show wpAny _ _ (do again (.builtin "list.__iadd__" ⟨[← newList [], .ref t], []⟩)) _ _ s
  refine wpAny_bind (wpAny_newList (wpAny_pure ⟨Code.quiet_builtin _ (by decide +kernel), codeAny_builtin entry_list_iadd' ?_⟩))
  show wpAny _ _ (Builtin.List.listExtendWith (.ref s.heap.objs.size) (.ref t) (.ref s.heap.objs.size)) _ _ { s with heap := s.heap.push (seqObj "list" #[] 0) }
  unfold Builtin.List.listExtendWith
  have ho' : (s.heap.push (seqObj "list" #[] 0)).get? t = some o := Heap.get?_push_of_some _ ho
  refine wpAny_bind (wpAny_typeOf (T := "tuple") ⟨o, ho', hc⟩ ?_)
  have hq : (Value.type "tuple" == Value.type "tuple") = true := by rfl
  rw [if_pos (by rw [hq]; simp)]
  refine wpAny_bind (listItems_at ho' hd ?_)
  refine wpAny_bind (listItems_at (xs := #[]) (n := 0) (Heap.get?_push_size _ rfl) rfl ?_)
  rw [if_neg (by simp)]
  refine wpAny_bind (listUpdate_at (xs := #[]) (n := 0) (Heap.get?_push_size _ rfl) rfl ?_ (Nat.zero_le _) (by show (#[] ++ vs.toArray).size ≤ sizeLine + 1; simp only [Array.size_append, List.size_toArray, List.length_nil]; omega))
  refine wpAny_pure ?_
  show wpAny (model prog w) A (do
      let o ← load s.heap.objs.size
      match o.data with
      | .seq xs _ => pure xs.toList
      | _ => unsupported "internal:collect") Q E { s with heap := (s.heap.push (seqObj "list" #[] 0)).update s.heap.objs.size (Obj.mapSeq (· ++ vs.toArray)) }
  refine wpAny_bind (wpAny_load (get?_update_seq (Heap.get?_push_size _ rfl) _) ?_)
  show wpAny _ _ (pure ((#[] : Array Value) ++ vs.toArray).toList) Q E _
  rw [show ((#[] : Array Value) ++ vs.toArray).toList = vs by simp]
  exact wpAny_pure fin
theorem sorted_tup {t : Addr} {Q : Value → Shared → Prop} (ht : IsTup s.heap t vs.toArray) (e : EachIs R vs bs) (er : EachIs (fun v b => ∃ as, Reads s.heap v (enc b) as) vs bs) (hal : AllAlike (bs.map enc)) (hk : Sortable (bs.map enc)) (hL : bs.length ≤ sizeLine)
    (hu : ∀ b, b ∈ bs → A.units + 2 + (enc b).depth < cLine)
    (h : ∀ (out : List Value) (a : Addr) (h' : Heap) (ep : Nat), out.length = bs.length → EachIs R out (bs.mergeSort (dataLe false enc)) → (∀ b o, s.heap.get? b = some o → h'.get? b = some o) → s.heap.objs.size ≤ a → h'.get? a = some (seqObj "list" out.toArray ep) → Q (.ref a) { s with heap := h' }) :
    wpAny (model prog w) A (call (.builtin "sorted") [.ref t]) Q E s := by
  have hLv : vs.length ≤ sizeLine := by rw [e.length]; exact hL
  refine Calls.call_function_entry kind_sorted plain_sorted entry_sorted (args_sorted1 _) ?_
  unfold Builtin.«sorted»
  refine wpAny_bind (m := checkCount "sorted" 1 1 _) (wpAny_pure ?_)
  refine wpAny_bind (collect_tup ht (fun h1 k1 hsz => ?_) hLv)
  refine wpAny_bind (wpAny_newList ?_ hLv)
  have hoL : (h1.push (seqObj "list" vs.toArray 0)).get? h1.objs.size = some (seqObj "list" vs.toArray 0) := Heap.get?_push_size _ rfl
  have keep : ∀ b o, s.heap.get? b = some o → b ≠ h1.objs.size ∧ (h1.push (seqObj "list" vs.toArray 0)).get? b = some o := fun b o q => ⟨Nat.ne_of_lt (Heap.lt_size (k1 b o q)), Heap.get?_push_of_some _ (k1 b o q)⟩
  have er' : EachIs (fun v b => ∃ as, Reads (sortingHeap (h1.push (seqObj "list" vs.toArray 0)) h1.objs.size vs) v (enc b) as) vs bs := er.mono fun _ _ ⟨as, r⟩ => ⟨as, PyProof.Rows.Reads.keeps (fun b o q => sortingHeap_old (keep b o q).1 (keep b o q).2) r⟩
  refine wpAny_bind (wpAny_holding (wpAny_call_entry slot_list_sort ⟨_, hoL, rfl⟩ entry_list_sort (wpAny_mono (list_sort_vals (κ := dataKind (sortingHeap (h1.push (seqObj "list" vs.toArray 0)) h1.objs.size vs) (bs.map enc)) (s := { s with heap := h1.push (seqObj "list" vs.toArray 0) })
    (P := fun f s' => f = .done (.ret .none) ∧ s' = { s with heap := sortedHeap (h1.push (seqObj "list" vs.toArray 0)) h1.objs.size vs (sortVals (dataKind (sortingHeap (h1.push (seqObj "list" vs.toArray 0)) h1.objs.size vs) (bs.map enc)) false vs vs).toArray }) hoL (SortsAt.data (s := { s with heap := sortingHeap (h1.push (seqObj "list" vs.toArray 0)) h1.objs.size vs }) (each_map (R := fun v d => ∃ as, Reads (sortingHeap (h1.push (seqObj "list" vs.toArray 0)) h1.objs.size vs) v d as) enc er') hal hk (bound_map hu)) hLv ⟨rfl, rfl⟩) (fun f s' hf => ?_) fun _ _ e => e) (args_list_sort _)))
  obtain ⟨rfl, rfl⟩ := hf
  refine ⟨_, rfl, wpAny_pure ⟨_, rfl, ?_⟩⟩
  obtain ⟨ep, he⟩ := sortedHeap_at (vs := vs) (out := (sortVals (dataKind (sortingHeap (h1.push (seqObj "list" vs.toArray 0)) h1.objs.size vs) (bs.map enc)) false vs vs).toArray) hoL
  exact h _ _ _ ep (by rw [sortVals_length false rfl]; exact e.length) (sortVals_data false e er' hal) (fun b o q => (sortedHeap_old (keep b o q).1 (Heap.lt_size (keep b o q).2)).trans (keep b o q).2) hsz he
end
end RV

namespace RV
open PySem PySem.Spec PyProof.Rows L2

/-! ### slots, handles -/
inductive Sl where
  | un
  | sh (d : PyData)
  | ow (ds : List PyData)
  | lk (ds : List PyData)
abbrev En := List Sl
inductive Hd where
  | val (d : PyData)
  | slot (i : Nat)

/-! ### what is set apart: m: the own lists (they may be changed), z: lists that are protected (they may not, nor be seen) -/
structure OZ where
  m : Addr → Prop
  z : Addr → Prop
def OZ.av (O : OZ) (a : Addr) : Prop := O.m a ∨ O.z a
/-! ### representation -/
def KlL (K : PySem.W.Frag) (a : Addr) (xs : List V) : Prop :=
  ∃ (o : Obj) (its : Array Value) (n : Nat), K.lookup a = some o ∧ o.cls = .type "list" ∧ o.dict = none ∧ o.data = .seq its n ∧ its.size ≤ sizeLine ∧ Vals xs its.toList
/-- a list that nobody may change (the script) -/
def FrL (K : PySem.W.Frag) (H : Hp) (a : Addr) (xs : List V) : Prop := (∃ o, H a = some (.frz o (.lst xs))) ∨ KlL K a xs
/-- how it is told -/
abbrev frn (ds : List PyData) : PyData := .dict [(.none, .list ds)]
/-- a tracked list whose object is not among O -/
def SqA (H : Hp) (O : OZ) (a : Addr) (xs : List V) : Prop := ¬ O.av a ∧ H a = some (.lst xs)
theorem FrL.sq {K H a xs} (h : FrL K H a xs) : SqL K H a xs := h.elim (fun h => .inl (.inr h)) .inr

mutual
inductive RD (K : PySem.W.Frag) (H : Hp) (O : OZ) : V → PyData → Prop
  | non : RD K H O .non .none
  | bl (b : Bool) : RD K H O (.bl b) (.bool b)
  | int (i : Int) : RD K H O (.int i) (.int i)
  | str (x : Str) : RD K H O (.str x) (.str x)
  | lst {a : Addr} {xs : List V} {ds : List PyData} : SqA H O a xs → RDs K H O xs ds → RD K H O (.ref a) (.list ds)
  | tup {a : Addr} {xs : List V} {ds : List PyData} : SqU H a xs → RDs K H O xs ds → RD K H O (.ref a) (.tuple ds)
  | frn {a : Addr} {xs : List V} {ds : List PyData} : FrL K H a xs → RDs K H O xs ds → RD K H O (.ref a) (.dict [(.none, .list ds)])
inductive RDs (K : PySem.W.Frag) (H : Hp) (O : OZ) : List V → List PyData → Prop
  | nil : RDs K H O [] []
  | cons {v : V} {vs : List V} {d : PyData} {ds : List PyData} : RD K H O v d → RDs K H O vs ds → RDs K H O (v :: vs) (d :: ds)
end

section
variable {K : PySem.W.Frag} {H H' : Hp} {O O' : OZ}

/-- what may be changed in place: an own list, a code object's table -/
def Mv (O : OZ) (b : Addr) (u : HO) : Prop := (O.m b ∧ ∃ xs, u = .lst xs) ∨ ∃ ps, u = .tbl ps
/-- a table that a generator expression may ask -/
def TabG (H : Hp) (P : Addr) : Prop := ∃ ps : Array Value, H P = some (.tbl ps) ∧ TriplesOk ps.toList
theorem TabG.ne {H : Hp} {P b : Addr} {u : HO} (h : TabG H P) (e : H b = some u) (n : ∀ ps, u ≠ .tbl ps) : b ≠ P := fun z => by
  obtain ⟨ps, h, _⟩ := h
  rw [z, h] at e
  exact n ps (Option.some.inj e).symm
theorem TabG.nn {H : Hp} {P b : Addr} (h : TabG H P) (e : H b = none) : P ≠ b := fun z => by
  obtain ⟨ps, h, _⟩ := h
  rw [z, e] at h
  cases h
theorem TabG.same {H H' : Hp} {P : Addr} (s : Same H H') (h : TabG H P) : TabG H' P := let ⟨ps, h, t⟩ := h; ⟨ps, s _ _ h, t⟩
theorem TabG.upd {H : Hp} {P b : Addr} {u : HO} (h : TabG H P) (n : P ≠ b) : TabG (upd H b u) P := let ⟨ps, h, t⟩ := h; ⟨ps, by rw [upd_ne n]; exact h, t⟩
/-- what a step of the machine may do -/
structure G (O : OZ) (H : Hp) (O' : OZ) (H' : Hp) : Prop where
  keep : ∀ b u, H b = some u → ¬ Mv O b u → H' b = some u
  sub : ∀ b, O'.m b → O.m b ∨ H b = none
  zz : O'.z = O.z
  tb : ∀ b ps, H b = some (.tbl ps) → ∃ qs, H' b = some (.tbl qs) ∧ (TriplesOk ps.toList → TriplesOk qs.toList)
theorem G.tab {O O' : OZ} {H H' : Hp} {P : Addr} (g : G O H O' H') (h : TabG H P) : TabG H' P := let ⟨ps, h1, h2⟩ := h; let ⟨qs, h3, h4⟩ := g.tb P ps h1; ⟨qs, h3, h4 h2⟩
/-- all is kept, but the tables may have grown -/
structure SameT (H H' : Hp) : Prop where
  keep : ∀ b u, H b = some u → (∀ ps, u ≠ .tbl ps) → H' b = some u
  tb : ∀ b ps, H b = some (.tbl ps) → ∃ qs, H' b = some (.tbl qs) ∧ (TriplesOk ps.toList → TriplesOk qs.toList)
theorem SameT.of {H H' : Hp} (s : Same H H') : SameT H H' := ⟨fun b u h _ => s b u h, fun b ps h => ⟨ps, s b _ h, id⟩⟩
theorem SameT.refl {H : Hp} : SameT H H := .of (.refl H)
theorem SameT.nn {H H' : Hp} (s : SameT H H') {b : Addr} (h : H b ≠ none) : H' b ≠ none := fun e => by
  cases q : H b with
  | none => exact h q
  | some u =>
    by_cases t : ∃ ps, u = .tbl ps
    · obtain ⟨ps, rfl⟩ := t
      obtain ⟨qs, h', _⟩ := s.tb b ps q
      rw [e] at h'; cases h'
    · have := s.keep b u q fun ps e => t ⟨ps, e⟩
      rw [e] at this; cases this
theorem SameT.lst {H H' : Hp} (s : SameT H H') {b : Addr} {xs : List V} (h : H b = some (.lst xs)) : H' b = some (.lst xs) := s.keep b _ h fun ps z => by cases z
theorem SameT.tab {H H' : Hp} {P : Addr} (g : SameT H H') (h : TabG H P) : TabG H' P := let ⟨ps, h1, h2⟩ := h; let ⟨qs, h3, h4⟩ := g.tb P ps h1; ⟨qs, h3, h4 h2⟩
theorem SameT.trans {H H' H2 : Hp} (a : SameT H H') (b : SameT H' H2) : SameT H H2 := ⟨fun c u h n => b.keep c u (a.keep c u h n) n, fun c ps h => let ⟨qs, h1, h2⟩ := a.tb c ps h; let ⟨rs, h3, h4⟩ := b.tb c qs h1; ⟨rs, h3, fun t => h4 (h2 t)⟩⟩
theorem nMv {O : OZ} {b : Addr} {u : HO} (h : ¬ (O.m b ∧ ∃ xs, u = .lst xs)) (n : ∀ ps, u ≠ .tbl ps) : ¬ Mv O b u := fun z => z.elim h fun ⟨ps, e⟩ => n ps e
/-- what values outlive -/
structure M (O : OZ) (H : Hp) (O' : OZ) (H' : Hp) : Prop where
  lst : ∀ b xs, H b = some (.lst xs) → ¬ O.av b → H' b = some (.lst xs) ∧ ¬ O'.av b
  frz : ∀ b o u, H b = some (.frz o u) → H' b = some (.frz o u)
theorem G.to (g : G O H O' H') : M O H O' H' :=
  ⟨fun b u h n => ⟨g.keep _ _ h (nMv (fun m => n (.inl m.1)) fun ps z => by cases z), fun q => q.elim (fun q => (g.sub b q).elim (fun q => n (.inl q)) fun z => by rw [h] at z; cases z) fun q => n (.inr (by rw [← g.zz]; exact q))⟩,
    fun b o u h => g.keep _ _ h (nMv (fun ⟨_, _, e⟩ => by cases e) fun ps z => by cases z)⟩
theorem M.trans {O2 : OZ} {H2 : Hp} (a : M O H O' H') (b : M O' H' O2 H2) : M O H O2 H2 :=
  ⟨fun c xs h n => b.lst c xs (a.lst c xs h n).1 (a.lst c xs h n).2, fun c o u h => b.frz c o u (a.frz c o u h)⟩
theorem G.refl : G O H O H := ⟨fun _ _ h _ => h, fun _ h => .inl h, rfl, fun _ ps h => ⟨ps, h, id⟩⟩
theorem G.mv {b u} (g : G O H O' H') (h : H b = some u) (n : ¬ Mv O b u) : ¬ Mv O' b u := fun q => by
  rcases q with q | q
  · refine n (.inl ⟨(g.sub b q.1).elim id fun z => ?_, q.2⟩)
    rw [h] at z; cases z
  · exact n (.inr q)
theorem G.trans {O2 : OZ} {H2 : Hp} (a : G O H O' H') (b : G O' H' O2 H2) : G O H O2 H2 where
  keep := fun c u h n => b.keep c u (a.keep c u h n) (a.mv h n)
  sub := fun c h => (b.sub c h).elim (a.sub c) fun z => by
    by_cases n : O.m c
    · exact .inl n
    · cases q : H c with
      | none => exact .inr rfl
      | some u =>
        by_cases t : ∃ ps, u = .tbl ps
        · obtain ⟨ps, rfl⟩ := t
          obtain ⟨ps', h', _⟩ := a.tb c ps q
          rw [h'] at z; cases z
        · rw [a.keep c u q (nMv (fun m => n m.1) fun ps e => t ⟨ps, e⟩)] at z; cases z
  zz := b.zz.trans a.zz
  tb := fun c ps h => let ⟨qs, h1, h2⟩ := a.tb c ps h; let ⟨rs, h3, h4⟩ := b.tb c qs h1; ⟨rs, h3, fun t => h4 (h2 t)⟩
theorem G.sameT (s : SameT H H') : G O H O H' := ⟨fun b u h n => s.keep b u h fun ps e => n (.inr ⟨ps, e⟩), fun _ h => .inl h, rfl, s.tb⟩
theorem G.same (s : Same H H') : G O H O H' := ⟨fun b u h _ => s b u h, fun _ h => .inl h, rfl, fun b ps h => ⟨ps, s b _ h, id⟩⟩
theorem M.same (s : Same H H') : M O H O H' := (G.same s).to
theorem M.less (s : ∀ b, O'.av b → O.av b) : M O H O' H := ⟨fun b u h n => ⟨h, fun q => n (s b q)⟩, fun b o u h => h⟩
theorem M.refl : M O H O H := G.refl.to
/-- fewer own lists -/
theorem G.less {m : Addr → Prop} (s : ∀ b, m b → O.m b) : G O H ⟨m, O.z⟩ H := ⟨fun b u h _ => h, fun b h => .inl (s b h), rfl, fun _ ps h => ⟨ps, h, id⟩⟩

theorem SqA.mono {a xs} (g : M O H O' H') (h : SqA H O a xs) : SqA H' O' a xs := ⟨(g.lst _ _ h.2 h.1).2, (g.lst _ _ h.2 h.1).1⟩
theorem FrL.mono {a xs} (g : M O H O' H') (h : FrL K H a xs) : FrL K H' a xs := h.elim (fun ⟨o, h⟩ => .inl ⟨o, g.frz _ _ _ h⟩) .inr
theorem SqU.mono {a xs} (g : M O H O' H') (h : SqU H a xs) : SqU H' a xs := let ⟨o, h, e⟩ := h; ⟨o, g.frz _ _ _ h, e⟩
mutual
theorem RD.mono (g : M O H O' H') : ∀ {d : PyData} {v : V}, RD K H O v d → RD K H' O' v d
  | .none, _, .non => .non
  | .bool _, _, .bl b => .bl b
  | .int _, _, .int i => .int i
  | .str _, _, .str x => .str x
  | .list ds, _, .lst h r => .lst (h.mono g) (RDs.mono g r)
  | .tuple ds, _, .tup h r => .tup (SqU.mono g h) (RDs.mono g r)
  | .dict _, _, .frn h r => .frn (h.mono g) (RDs.mono g r)
theorem RDs.mono (g : M O H O' H') : ∀ {ds : List PyData} {vs : List V}, RDs K H O vs ds → RDs K H' O' vs ds
  | [], _, .nil => .nil
  | d :: ds, _, .cons a b => .cons (RD.mono g a) (RDs.mono g b)
end
mutual
theorem RD.dp : ∀ {d : PyData} {v : V}, d.canLay0 = true → RD K H O v d → Dp K H v d
  | .none, _, _, .non => .non
  | .bool _, _, _, .bl b => .bl b
  | .int _, _, _, .int i => .int i
  | .str _, _, _, .str x => .str x
  | .list ds, _, e, .lst h r => .lst (.of h.2) (RDs.dp (by simpa [PyData.canLay0] using e) r)
  | .tuple ds, _, e, .tup h r => .tup h.t (RDs.dp (by simpa [PyData.canLay0] using e) r)
  | .dict _, _, e, _ => by simp [PyData.canLay0] at e
theorem RDs.dp : ∀ {ds : List PyData} {vs : List V}, PyData.canLayAll0 ds = true → RDs K H O vs ds → DpAll K H vs ds
  | [], _, _, .nil => .nil
  | d :: ds, _, e, .cons a b => by
    have e' := Bool.and_eq_true_iff.mp (show (d.canLay0 && PyData.canLayAll0 ds) = true by simpa [PyData.canLayAll0] using e)
    exact .cons (RD.dp e'.1 a) (RDs.dp e'.2 b)
end
theorem RDs.length : ∀ {ds : List PyData} {vs : List V}, RDs K H O vs ds → vs.length = ds.length
  | _, _, .nil => rfl
  | _, _, .cons _ b => by rw [List.length_cons, List.length_cons, b.length]
theorem RDs.get : ∀ {ds : List PyData} {vs : List V} {i : Nat} {d : PyData}, RDs K H O vs ds → ds[i]? = some d → ∃ v, vs[i]? = some v ∧ RD K H O v d
  | _, _, _, _, .nil, e => by simp at e
  | _, _, 0, d, .cons a _, e => by
    simp only [List.getElem?_cons_zero, Option.some.injEq] at e
    subst e
    exact ⟨_, rfl, a⟩
  | _, _, i + 1, d, .cons _ b, e => by
    obtain ⟨v, h1, h2⟩ := b.get (i := i) (d := d) (by simpa using e)
    exact ⟨v, by simpa using h1, h2⟩
theorem RDs.append : ∀ {ds es : List PyData} {vs ws : List V}, RDs K H O vs ds → RDs K H O ws es → RDs K H O (vs ++ ws) (ds ++ es)
  | _, _, _, _, .nil, s => s
  | _, _, _, _, .cons a b, s => .cons a (b.append s)
theorem RDs.one {v : V} {d : PyData} (h : RD K H O v d) : RDs K H O [v] [d] := .cons h .nil
theorem RDs.take : ∀ {ds : List PyData} {vs : List V} (n : Nat), RDs K H O vs ds → RDs K H O (vs.take n) (ds.take n)
  | _, _, 0, _ => .nil
  | _, _, _ + 1, .nil => .nil
  | _, _, n + 1, .cons a b => .cons a (b.take n)
theorem RDs.drop : ∀ {ds : List PyData} {vs : List V} (n : Nat), RDs K H O vs ds → RDs K H O (vs.drop n) (ds.drop n)
  | _, _, 0, r => r
  | _, _, _ + 1, .nil => .nil
  | _, _, n + 1, .cons _ b => b.drop n
theorem RDs.set {v : V} {d : PyData} (h : RD K H O v d) : ∀ {ds : List PyData} {vs : List V} (i : Nat), RDs K H O vs ds → RDs K H O (vs.set i v) (ds.set i d)
  | _, _, _, .nil => .nil
  | _, _, 0, .cons _ b => .cons h b
  | _, _, i + 1, .cons a b => .cons a (b.set h i)
theorem RDs.reverse : ∀ {ds : List PyData} {vs : List V}, RDs K H O vs ds → RDs K H O vs.reverse ds.reverse
  | _, _, .nil => .nil
  | _, _, .cons a b => by rw [List.reverse_cons, List.reverse_cons]; exact b.reverse.append (.one a)
theorem RDs.eraseIdx : ∀ {ds : List PyData} {vs : List V} (i : Nat), RDs K H O vs ds → RDs K H O (vs.eraseIdx i) (ds.eraseIdx i)
  | _, _, _, .nil => .nil
  | _, _, 0, .cons _ b => b
  | _, _, i + 1, .cons a b => .cons a (b.eraseIdx i)
theorem RDs.dropLast {ds : List PyData} {vs : List V} (h : RDs K H O vs ds) : RDs K H O vs.dropLast ds.dropLast := by
  rw [List.dropLast_eq_take, List.dropLast_eq_take, h.length]; exact h.take _
theorem RDs.ints : ∀ {ns : List Int} {vs : List V}, RDs K H O vs (ns.map .int) → vs = ns.map .int
  | [], _, .nil => rfl
  | n :: ns, _, .cons a b => by cases a; rw [List.map_cons, b.ints]
theorem RDs.strs : ∀ {ns : List Str} {vs : List V}, RDs K H O vs (ns.map .str) → vs = ns.map .str
  | [], _, .nil => rfl
  | n :: ns, _, .cons a b => by cases a; rw [List.map_cons, b.strs]
theorem RDs.of_ints : ∀ (ns : List Int), RDs K H O (ns.map .int) (ns.map .int)
  | [] => .nil
  | n :: ns => .cons (.int n) (of_ints ns)
/-! no list within -/
mutual
def lfree : PyData → Bool
  | .list _ => false
  | .dict _ => false
  | .tuple ds => lfrees ds
  | _ => true
def lfrees : List PyData → Bool
  | [] => true
  | d :: ds => lfree d && lfrees ds
end
mutual
theorem RD.free : ∀ {d : PyData} {v : V}, lfree d = true → RD K H O v d → RD K H O' v d
  | .none, _, _, .non => .non
  | .bool _, _, _, .bl b => .bl b
  | .int _, _, _, .int i => .int i
  | .str _, _, _, .str x => .str x
  | .list ds, _, e, _ => by simp [lfree] at e
  | .tuple ds, _, e, .tup h r => .tup h (RDs.free (by simpa [lfree] using e) r)
  | .dict ds, _, e, _ => by simp [lfree] at e
theorem RDs.free : ∀ {ds : List PyData} {vs : List V}, lfrees ds = true → RDs K H O vs ds → RDs K H O' vs ds
  | [], _, _, .nil => .nil
  | d :: ds, _, e, .cons a b => by
    have e' := Bool.and_eq_true_iff.mp (show (lfree d && lfrees ds) = true by simpa [lfrees] using e)
    exact .cons (RD.free e'.1 a) (RDs.free e'.2 b)
end

def fetch (env : En) : Hd → Option PyData
  | .val d => some d
  | .slot i => match env[i]? with
    | some (.sh d) => some d
    | some (.ow ds) => some (.list ds)
    | some (.lk ds) => some (.list ds)
    | _ => none
/-! ### the environment -/
/-- the tables of the program's defs -/
class Tb where
  T : Addr → Prop
def Own (env : En) (i : Nat) : Prop := ∃ ds, env[i]? = some (Sl.ow ds) ∨ env[i]? = some (Sl.lk ds)
structure Rep [Tb] (K : PySem.W.Frag) (H : Hp) (O : OZ) (σ : L2.St) (env : En) : Prop where
  len : env.length = σ.length
  sh : ∀ (i : Nat) (d : PyData), env[i]? = some (Sl.sh d) → ∃ v, σ[i]? = some (some v) ∧ RD K H O v d
  ow : ∀ (i : Nat) (ds : List PyData), (env[i]? = some (Sl.ow ds) ∨ env[i]? = some (Sl.lk ds)) → ∃ a xs, σ[i]? = some (some (V.ref a)) ∧ (O.m a ∧ ¬ O.z a) ∧ H a = some (.lst xs) ∧ RDs K H O xs ds
  inj : ∀ (i j : Nat) (a : Addr), Own env i → Own env j → σ[i]? = some (some (V.ref a)) → σ[j]? = some (some (V.ref a)) → i = j
  zt : ∀ b, O.z b → H b ≠ none ∧ ¬ O.m b
  tb : ∀ P, Tb.T P → TabG H P
variable [Tb]
theorem Rep.less {σ env m} (r : Rep K H O σ env) (s : ∀ b, m b → O.m b) (h : ∀ (i : Nat) (a : Addr), Own env i → σ[i]? = some (some (V.ref a)) → m a) : Rep K H ⟨m, O.z⟩ σ env where
  len := r.len
  sh := fun i d e => let ⟨v, e1, e2⟩ := r.sh i d e; ⟨v, e1, e2.mono (G.less s).to⟩
  ow := fun i ds e => let ⟨a, xs, e1, e2, e3, e4⟩ := r.ow i ds e; ⟨a, xs, e1, ⟨h i a ⟨ds, e⟩ e1, e2.2⟩, e3, e4.mono (G.less s).to⟩
  inj := r.inj
  zt := fun b hb => ⟨(r.zt b hb).1, fun q => (r.zt b hb).2 (s b q)⟩
  tb := r.tb
/-- the heap grows -/
theorem Rep.sameT {σ env} (r : Rep K H O σ env) (s : SameT H H') : Rep K H' O σ env where
  len := r.len
  sh := fun i d e => let ⟨v, e1, e2⟩ := r.sh i d e; ⟨v, e1, e2.mono (G.sameT s).to⟩
  ow := fun i ds e => let ⟨a, xs, e1, e2, e3, e4⟩ := r.ow i ds e; ⟨a, xs, e1, e2, s.lst e3, e4.mono (G.sameT s).to⟩
  inj := r.inj
  zt := fun b hb => ⟨s.nn (r.zt b hb).1, (r.zt b hb).2⟩
  tb := fun P h => s.tab (r.tb P h)
theorem Rep.same {σ env} (r : Rep K H O σ env) (s : Same H H') : Rep K H' O σ env := r.sameT (.of s)
abbrev OZ.plus (O : OZ) (p : Addr) : OZ := ⟨fun b => O.m b ∨ b = p, O.z⟩
theorem apartGT {p : Addr} (np : H p = none) (s : SameT H H') : G O H (O.plus p) H' :=
  ⟨fun b u h n => s.keep b u h fun ps e => n (.inr ⟨ps, e⟩), fun b h => h.elim .inl fun z => .inr (by rw [z]; exact np), rfl, s.tb⟩
theorem apartG {p : Addr} (np : H p = none) (s : Same H H') : G O H (O.plus p) H' := apartGT np (.of s)
/-- a new address is set apart -/
theorem Rep.apart {σ env p} (r : Rep K H O σ env) (np : H p = none) : Rep K H (O.plus p) σ env where
  len := r.len
  sh := fun i d e => let ⟨v, e1, e2⟩ := r.sh i d e; ⟨v, e1, e2.mono (apartG np (.refl H)).to⟩
  ow := fun i ds e => let ⟨a, xs, e1, e2, e3, e4⟩ := r.ow i ds e; ⟨a, xs, e1, ⟨.inl e2.1, e2.2⟩, e3, e4.mono (apartG np (.refl H)).to⟩
  inj := r.inj
  zt := fun b hb => ⟨(r.zt b hb).1, fun q => q.elim (r.zt b hb).2 fun z => (r.zt b hb).1 (by rw [z]; exact np)⟩
  tb := r.tb

/-- a result: fr: a new list that nobody else holds -/
def Res (K : PySem.W.Frag) (H : Hp) (O : OZ) (σ : L2.St) (env : En) (v : V) (d : PyData) (fr : Bool) : Prop :=
  if fr = true then ∃ p xs ds, v = .ref p ∧ d = .list ds ∧ (O.m p ∧ ¬ O.z p) ∧ H p = some (.lst xs) ∧ RDs K H O xs ds ∧ ∀ (i : Nat), Own env i → σ[i]? ≠ some (some (V.ref p))
  else RD K H O v d
/-- it may be shared -/
theorem Res.shared {σ env v d fr} (r : Rep K H O σ env) (h : Res K H O σ env v d fr) : ∃ O', Rep K H O' σ env ∧ RD K H O' v d ∧ G O H O' H := by
  cases fr with
  | false => exact ⟨O, r, h, .refl⟩
  | true =>
    obtain ⟨p, xs, ds, rfl, rfl, op, hp, hx, hn⟩ := h
    have s : ∀ b, (O.m b ∧ b ≠ p) → O.m b := fun b h => h.1
    refine ⟨⟨fun b => O.m b ∧ b ≠ p, O.z⟩, r.less s fun i a o e => ⟨?_, fun z => hn i o (by rw [e, z])⟩, .lst ⟨fun q => q.elim (fun q => q.2 rfl) op.2, hp⟩ (hx.mono (G.less s).to), .less s⟩
    obtain ⟨ds', q⟩ := id o
    obtain ⟨a', _, e1, e2, _⟩ := r.ow i ds' q
    rw [e] at e1; cases e1; exact e2.1
/-- what an operation hands back: a new list, or a value over the old and new tuples -/
def New (K : PySem.W.Frag) (H : Hp) (O : OZ) (v : V) (H' : Hp) (d : PyData) (fr : Bool) : Prop :=
  Same H H' ∧ if fr = true then ∃ p xs ds, v = .ref p ∧ d = .list ds ∧ H p = none ∧ H' p = some (.lst xs) ∧ RDs K H O xs ds else RD K H' O v d
theorem New.res {σ env v d fr} (r : Rep K H O σ env) (h : New K H O v H' d fr) : ∃ O', Rep K H' O' σ env ∧ Res K H' O' σ env v d fr ∧ G O H O' H' := by
  obtain ⟨s, h⟩ := h
  cases fr with
  | false => exact ⟨O, r.same s, h, .same s⟩
  | true =>
    obtain ⟨p, xs, ds, rfl, rfl, np, hp, hx⟩ := h
    refine ⟨O.plus p, (r.apart np).same s, ⟨p, xs, ds, rfl, rfl, ⟨.inr rfl, fun z => (r.zt p z).1 np⟩, hp, hx.mono (apartG np s).to, fun i ⟨ds', o⟩ e => ?_⟩, apartG np s⟩
    obtain ⟨a, _, e1, _, e3, _⟩ := r.ow i ds' o
    rw [e] at e1; cases e1
    rw [np] at e3; cases e3
/-- a handle, what it holds -/
def RH (K : PySem.W.Frag) (H : Hp) (O : OZ) (σ : L2.St) (v : V) : Hd → Prop
  | .val d => RD K H O v d
  | .slot i => σ[i]? = some (some v)
/-- held in any way: an own list's items, or a value -/
inductive RF (K : PySem.W.Frag) (H : Hp) (O : OZ) : V → PyData → Prop
  | lst {a xs ds} : ¬ O.z a → H a = some (.lst xs) → RDs K H O xs ds → RF K H O (.ref a) (.list ds)
  | val {v d} : RD K H O v d → RF K H O v d
theorem RH.mono {σ v h} (g : M O H O' H') (r : RH K H O σ v h) : RH K H' O' σ v h := by
  cases h with
  | val d => exact RD.mono g r
  | slot i => exact r
theorem RH.fetch {σ env v h d} (rp : Rep K H O σ env) (r : RH K H O σ v h) (e : fetch env h = some d) : RF K H O v d := by
  cases h with
  | val d' => cases e; exact .val r
  | slot i =>
    have r : σ[i]? = some (some v) := r
    simp only [RV.fetch] at e
    split at e
    · rename_i d' q
      cases e
      obtain ⟨v', e1, e2⟩ := rp.sh i _ q
      rw [r] at e1; cases e1; exact .val e2
    · rename_i ds q
      cases e
      obtain ⟨a, xs, e1, e2, e3, e4⟩ := rp.ow i ds (.inl q)
      rw [r] at e1; cases e1; exact .lst e2.2 e3 e4
    · rename_i ds q
      cases e
      obtain ⟨a, xs, e1, e2, e3, e4⟩ := rp.ow i ds (.inr q)
      rw [r] at e1; cases e1; exact .lst e2.2 e3 e4
    · cases e
theorem RF.dp {v d} (c : d.canLay0 = true) (h : RF K H O v d) : Dp K H v d := by
  cases h with
  | lst z a b => exact .lst (.of a) (b.dp (by simpa [PyData.canLay0] using c))
  | val r => exact r.dp c
theorem RF.list {v ds} (h : RF K H O v (.list ds)) : ∃ a xs, v = .ref a ∧ H a = some (.lst xs) ∧ RDs K H O xs ds := by
  cases h with
  | lst z a b => exact ⟨_, _, rfl, a, b⟩
  | val r => cases r with | lst a b => exact ⟨_, _, rfl, a.2, b⟩
theorem RF.tuple {v ds} (h : RF K H O v (.tuple ds)) : ∃ a xs, v = .ref a ∧ SqU H a xs ∧ RDs K H O xs ds := by
  cases h with
  | val r => cases r with | tup a b => exact ⟨_, _, rfl, a, b⟩
theorem RF.frn {v ds} (h : RF K H O v (.dict [(.none, .list ds)])) : ∃ a xs, v = .ref a ∧ SqL K H a xs ∧ RDs K H O xs ds := by
  cases h with
  | val r => cases r with | frn a b => exact ⟨_, _, rfl, a.sq, b⟩
theorem RF.int {v i} (h : RF K H O v (.int i)) : v = .int i := by cases h with | val r => cases r; rfl
theorem RF.bool {v i} (h : RF K H O v (.bool i)) : v = .bl i := by cases h with | val r => cases r; rfl
theorem RF.str {v i} (h : RF K H O v (.str i)) : v = .str i := by cases h with | val r => cases r; rfl
theorem RF.none {v} (h : RF K H O v .none) : v = .non := by cases h with | val r => cases r; rfl
/-- no own list -/
abbrev OZ.none (O : OZ) : OZ := ⟨fun _ => False, O.z⟩
theorem RF.rd {v d} (h : RF K H O v d) : RD K H O.none v d := by
  have g : M O H O.none H := (G.less fun _ h => h.elim).to
  cases h with
  | lst z a b => exact .lst ⟨fun q => q.elim id z, a⟩ (b.mono g)
  | val r => exact r.mono g
inductive RFs (K : PySem.W.Frag) (H : Hp) (O : OZ) : List V → List PyData → Prop
  | nil : RFs K H O [] []
  | cons {v vs d ds} : RF K H O v d → RFs K H O vs ds → RFs K H O (v :: vs) (d :: ds)
theorem RFs.rds : ∀ {vs ds}, RFs K H O vs ds → RDs K H O.none vs ds
  | _, _, .nil => .nil
  | _, _, .cons a b => .cons a.rd b.rds
end
end RV

namespace RV
open PySem PySem.Spec PyProof.Rows L2

/-! ### the small language -/
inductive Op2 where
  | add | sub | mul | fdiv | mod | pow
  deriving DecidableEq
inductive Cm where
  | eq | ne | lt | le | gt | ge | inn | notin
  deriving DecidableEq
inductive Fn where
  | len | abs | int | list | tuple | sum | max | min | sorted | all | any | isInt | isBool | isStr | isTup | lenset | sortset | index | count | join | isNone | notNone
  deriving DecidableEq
/-- a target of names -/
inductive TN where
  | nm (i : Nat)
  | tup (ts : List TN)
mutual
inductive CE where
  | con (d : PyData)
  | var (i : Nat)
  | bin (o : Op2) (a b : CE)
  | neg (a : CE)
  | nott (a : CE)
  | andd (a b : CE)
  | orr (a b : CE)
  | cmp (o : Cm) (a b : CE)
  | chain (o o2 : Cm) (a b c : CE)
  | chain3 (o o2 o3 : Cm) (a b c d : CE)
  | ite (c : CT) (a b : CE)
  | tup (es : List CE)
  | lst (es : List CE)
  | idx (a b : CE)
  | idxm (a b : CE)
  | lenset (c : CE)
  | join (s : Str) (c : CE)
  | slc (a : CE) (lo hi : Option CE)
  | rev (a : CE)
  | call (f : Nat) (es : List CE)
  | fn (b : Fn) (es : List CE)
  | lc (elt : CE) (t : TN) (it : CI) (ifs : Option CT) (own : List Nat)
  | pop (i : Nat)
  | popAt (i : Nat) (c : CE)
  | lstR (it : CI)
  | tupR (it : CI)
  | gq (al : Bool) (elt : CE) (t : TN) (it : CI) (ifs : Option CT) (own : List Nat)
inductive CT where
  | val (c : CE)
  | andd (a b : CT)
  | orr (a b : CT)
  | nott (a : CT)
inductive CI where
  | seq (c : CE)
  | rng1 (a : CE)
  | rng2 (a b : CE)
  | rng3 (a b c : CE)
  | enm (c : CE)
  | zip (a b : CE)
end
inductive CS where
  | ex (c : CE)
  | app (i : Nat) (c : CE)
  | asg (t : TN) (c : CE)
  | sto (i : Nat) (ix c : CE)
  | aug (i : Nat) (o : Op2) (c : CE)
  | augs (i : Nat) (ix : CE) (o : Op2) (c : CE)
  | ret (c : CE)
  | retn
  | ife (c : CT) (a b : List CS)
  | forr (t : TN) (it : CI) (body : List CS)
  | whl (c : CT) (body : List CS)
inductive Out where
  | nx (e : En)
  | rt (d : PyData) (fr : Bool)
structure CD where
  np : Nat
  nl : Nat
  body : List CS

/-! ### operations by values -/
def ixN' (n : Nat) (i : Int) : Option Nat := L2.ixN n i
def intsOf : List PyData → Option (List Int)
  | [] => some []
  | .int i :: r => (intsOf r).bind fun l => some (i :: l)
  | _ => none
def strsOf : List PyData → Option (List Str)
  | [] => some []
  | .str x :: r => (strsOf r).bind fun l => some (x :: l)
  | _ => none
def boolsOf : List PyData → Option (List Bool)
  | [] => some []
  | .bool x :: r => (boolsOf r).bind fun l => some (x :: l)
  | _ => none
def divOk (j : Int) : Bool := decide (j ≠ 0 ∧ j.natAbs < 1073741824)
def op2 : Op2 → PyData → PyData → Option (PyData × Bool)
  | .add, .int i, .int j => some (.int (i + j), false)
  | .add, .list a, .list b => if a.length + b.length ≤ sizeLine then some (.list (a ++ b), true) else none
  | .add, .tuple a, .tuple b => if a.length + b.length ≤ sizeLine then some (.tuple (a ++ b), false) else none
  | .add, .str a, .str b => if a.length + b.length ≤ sizeLine then some (.str (a ++ b), false) else none
  | .sub, .int i, .int j => some (.int (i - j), false)
  | .mul, .int i, .int j => if i.natAbs.log2 + j.natAbs.log2 < 1000000 then some (.int (i * j), false) else none
  | .mul, .list a, .int k => if -(2 ^ 63) ≤ k ∧ k < 2 ^ 63 ∧ a.length * k.toNat ≤ sizeLine then some (.list (List.replicate k.toNat a).flatten, true) else none
  | .mul, .tuple a, .int k => if a ≠ [] ∧ 2 ≤ k ∧ k ≤ 1000 ∧ a.length ≤ 1000 then some (.tuple (List.replicate k.toNat a).flatten, false) else none
  | .fdiv, .int i, .int j => if j ≠ 0 ∧ j.natAbs < 1073741824 then some (.int (i.fdiv j), false) else if 0 < j ∧ j.natAbs.log2 < 9000 then some (.int (i.fdiv j), false) else none
  | .mod, .int i, .int j => if j ≠ 0 then some (.int (i.fmod j), false) else none
  | .pow, .int i, .int j => if 0 ≤ j ∧ j ≤ 1000000 ∧ i.natAbs < 2 ^ 64 then some (.int (i ^ j.toNat), false) else none
  | _, _, _ => none
/-- a op= b: ints and texts -/
def aug2 : Op2 → PyData → PyData → Option PyData
  | .add, .int i, .int j => some (.int (i + j))
  | .sub, .int i, .int j => some (.int (i - j))
  | .mul, .int i, .int j => if (-(2 ^ 64) < i ∧ i < 2 ^ 64) ∨ (-(2 ^ 64) < j ∧ j < 2 ^ 64) then some (.int (i * j)) else none
  | .fdiv, .int i, .int j => if 0 < j ∧ j < 1073741824 then some (.int (i / j)) else none
  | .mod, .int i, .int j => if 0 < j then some (.int (i % j)) else none
  | .add, .str a, .str b => if a.length + b.length ≤ sizeLine then some (.str (a ++ b)) else none
  | _, _, _ => none
def eqD (a b : PyData) : Option Bool := if SeqAt.shaped a = true ∧ SeqAt.shaped b = true then some (PyData.eqv a b) else none
def ltD (a b : PyData) : Option Bool := match a, b with
  | .int i, .int j => some (decide (i < j))
  | .str x, .str y => some (decide (x.cps.toList < y.cps.toList))
  | .tuple ds, .tuple es => (intsOf ds).bind fun ns => (intsOf es).bind fun ms => some (HT.lexLt ns ms)
  | _, _ => none
def inD (x c : PyData) : Option Bool := match c with
  | .list ds => if SeqAt.shaped c = true ∧ SeqAt.shaped x = true then some (ds.any fun y => PyData.eqv y x) else none
  | .tuple ds => if SeqAt.shaped c = true ∧ SeqAt.shaped x = true then some (ds.any fun y => PyData.eqv y x) else none
  | _ => none
def cmpD : Cm → PyData → PyData → Option Bool
  | .eq, a, b => eqD a b
  | .ne, a, b => (eqD a b).map not
  | .lt, a, b => ltD a b
  | .le, a, b => match a, b with
    | .int i, .int j => some (decide (i ≤ j))
    | _, _ => none
  | .gt, a, b => match a, b with
    | .int i, .int j => some (decide (j < i))
    | _, _ => none
  | .ge, a, b => match a, b with
    | .int i, .int j => some (decide (j ≤ i))
    | _, _ => none
  | .inn, a, b => inD a b
  | .notin, a, b => (inD a b).map not
def truD : PyData → Option Bool
  | .none => some false
  | .bool b => some b
  | .int i => some (i != 0)
  | .str x => if x.length ≤ sizeLine then some ((x.length : Int) != 0) else none
  | .list ds => some (!ds.isEmpty)
  | .tuple ds => some (!ds.isEmpty)
  | .dict _ => none
def idxD : PyData → PyData → Option PyData
  | .list ds, .int i => atI ds i
  | .tuple ds, .int i => atI ds i
  | .dict [(.none, .list ds)], .int i => atI ds i
  | .str x, .int i => if x.length ≤ sizeLine then (atI x.cps.toList i).bind fun c => some (.str ⟨#[c]⟩) else none
  | _, _ => none
/-- l[lo:hi] -/
def cutD {α : Type} (xs : List α) (lo hi : Option Int) : List α := (xs.drop (HT.sIx xs.length 0 lo)).take (HT.sIx xs.length xs.length hi - HT.sIx xs.length 0 lo)
def slcD (d : PyData) (lo hi : Option Int) : Option (PyData × Bool) := match d with
  | .list ds => some (.list (cutD ds lo hi), true)
  | .tuple ds => some (.tuple (cutD ds lo hi), false)
  | .str x => if x.length ≤ sizeLine then some (.str ⟨(cutD x.cps.toList lo hi).toArray⟩, false) else none
  | _ => none
def revD : PyData → Option (PyData × Bool)
  | .list ds => some (.list ds.reverse, true)
  | .tuple ds => some (.tuple ds.reverse, false)
  | _ => none
def sortOk (ds : List PyData) : Bool := (ds.all fun d => ds.all fun d' => PySem.W.alike d d') &&
  ((ds.all fun d => match d with | .tuple (_ :: _) => true | _ => false) || (ds.all fun d => match d with | .none => false | .tuple _ => false | _ => true)) &&
  (ds.all fun d => SeqAt.shaped d) && decide (ds.length ≤ sizeLine)
def maxI : List Int → Option Int
  | [] => none
  | x :: xs => some (xs.foldl max x)
def minI : List Int → Option Int
  | [] => none
  | x :: xs => some (xs.foldl min x)
def fLen : List PyData → Option (PyData × Bool)
  | [.list ds] => some (.int ds.length, false)
  | [.tuple ds] => some (.int ds.length, false)
  | [.dict [(.none, .list ds)]] => some (.int ds.length, false)
  | [.str x] => if x.length ≤ sizeLine then some (.int x.length, false) else none
  | _ => none
def fAbs : List PyData → Option (PyData × Bool)
  | [.int i] => some (.int i.natAbs, false)
  | _ => none
def fInt : List PyData → Option (PyData × Bool)
  | [.int i] => some (.int i, false)
  | [.bool b] => some (.int (if b then 1 else 0), false)
  | _ => none
def fList : List PyData → Option (PyData × Bool)
  | [.list ds] => some (.list ds, true)
  | [.tuple ds] => some (.list ds, true)
  | _ => none
def fTuple : List PyData → Option (PyData × Bool)
  | [.list ds] => some (.tuple ds, false)
  | [.tuple ds] => some (.tuple ds, false)
  | _ => none
def fSum : List PyData → Option (PyData × Bool)
  | [.list ds] => (intsOf ds).bind fun ns => some (.int ns.sum, false)
  | [.tuple ds] => (intsOf ds).bind fun ns => some (.int ns.sum, false)
  | _ => none
def fMax : List PyData → Option (PyData × Bool)
  | [.list ds] => (intsOf ds).bind fun ns => (maxI ns).bind fun m => some (.int m, false)
  | [.tuple ds] => (intsOf ds).bind fun ns => (maxI ns).bind fun m => some (.int m, false)
  | [.int i, .int j] => some (.int (max i j), false)
  | _ => none
def fMin : List PyData → Option (PyData × Bool)
  | [.list ds] => (intsOf ds).bind fun ns => (minI ns).bind fun m => some (.int m, false)
  | [.tuple ds] => (intsOf ds).bind fun ns => (minI ns).bind fun m => some (.int m, false)
  | [.int i, .int j] => some (.int (min i j), false)
  | _ => none
def fSorted : List PyData → Option (PyData × Bool)
  | [.list ds] => if sortOk ds = true then some (.list (ds.mergeSort (PySem.W.dataLe false id)), true) else none
  | [.tuple ds] => if sortOk ds = true then some (.list (ds.mergeSort (PySem.W.dataLe false id)), true) else none
  | _ => none
def fAll : List PyData → Option (PyData × Bool)
  | [.list ds] => (boolsOf ds).bind fun bs => some (.bool (bs.all id), false)
  | _ => none
def fAny : List PyData → Option (PyData × Bool)
  | [.list ds] => (boolsOf ds).bind fun bs => some (.bool (bs.any id), false)
  | _ => none
def tyOf : PyData → Option String
  | .none => some "NoneType"
  | .bool _ => some "bool"
  | .int _ => some "int"
  | .str _ => some "str"
  | .list _ => some "list"
  | .tuple _ => some "tuple"
  | .dict _ => none
def fIs (n : String) : List PyData → Option (PyData × Bool)
  | [d] => (tyOf d).bind fun t => some (.bool (t == n || (t == "bool" && n == "int")), false)
  | _ => none
def fNone (b : Bool) : List PyData → Option (PyData × Bool)
  | [.none] => some (.bool b, false)
  | [_] => some (.bool (!b), false)
  | _ => none
def idxOfD (ds : List PyData) (d : PyData) : Option Nat := ds.findIdx? fun y => PyData.eqv y d
def fIdx : List PyData → Option (PyData × Bool)
  | [.tuple ds, d] => if SeqAt.shaped (.tuple ds) = true ∧ SeqAt.shaped d = true then (idxOfD ds d).bind fun j => some (.int j, false) else none
  | [.list ds, d] => if SeqAt.shaped (.list ds) = true ∧ SeqAt.shaped d = true ∧ ds.length ≤ sizeLine then (idxOfD ds d).bind fun j => some (.int j, false) else none
  | _ => none
def sameSeq : PyData → PyData → Bool
  | .tuple _, .tuple _ => true
  | .list _, .list _ => true
  | _, _ => false
def fnD : Fn → List PyData → Option (PyData × Bool)
  | .len => fLen
  | .abs => fAbs
  | .int => fInt
  | .list => fList
  | .tuple => fTuple
  | .sum => fSum
  | .max => fMax
  | .min => fMin
  | .sorted => fSorted
  | .all => fAll
  | .any => fAny
  | .isInt => fIs "int"
  | .isBool => fIs "bool"
  | .isStr => fIs "str"
  | .isTup => fIs "tuple"
  | .isNone => fNone true
  | .notNone => fNone false
  | _ => fun _ => none
def itemsOf : PyData → Option (List PyData)
  | .list ds => some ds
  | .tuple ds => some ds
  | .str x => some (x.cps.toList.map fun c => .str ⟨#[c]⟩)
  | _ => none
def lstOf : PyData → Option (List PyData)
  | .list ds => some ds
  | _ => none
def zipOf : PyData → PyData → Option (List PyData)
  | .list ds, .list es => some (List.zipWith (fun p q => .tuple [p, q]) ds es)
  | .tuple ds, .tuple es => some (List.zipWith (fun p q => .tuple [p, q]) ds es)
  | .list ds, .tuple es => some (List.zipWith (fun p q => .tuple [p, q]) ds es)
  | _, _ => none
def joinD : PyData → PyData → Option PyData
  | .str a, .list ds => (strsOf ds).bind fun ys => if (ys.map (·.length)).sum + ys.length * a.length ≤ 16777216 then some (.str (Txt.join a ys)) else none
  | .str a, .tuple ds => (strsOf ds).bind fun ys => if (ys.map (·.length)).sum + ys.length * a.length ≤ 16777216 then some (.str (Txt.join a ys)) else none
  | _, _ => none
def enmOf : PyData → Option (List PyData)
  | .list ds => some ds
  | .str x => some (x.cps.toList.map fun c => .str ⟨#[c]⟩)
  | _ => none
def rgOk (i : Int) : Bool := decide (-(2 ^ 62) ≤ i ∧ i < 2 ^ 62)
def rgD (lo hi : Int) : List PyData := (List.range (hi - lo).toNat).map fun (k : Nat) => .int (lo + k)

/-! ### steps on the environment -/
/-- a name gets a value -/
def slOf : Bool → PyData → Sl
  | true, .list ds => .ow ds
  | _, d => .sh d
def stN (i : Nat) (d : PyData) (fr : Bool) (e : En) : Option En := match e[i]? with
  | some (.lk _) => none
  | none => none
  | some _ => some (e.set i (slOf fr d))
mutual
def asN : TN → PyData → Bool → En → Option En
  | .nm i, d, fr, e => stN i d fr e
  | .tup ts, .tuple ds, _, e => asNs ts ds e
  | _, _, _, _ => none
def asNs : List TN → List PyData → En → Option En
  | [], [], e => some e
  | t :: ts, d :: ds, e => (asN t d false e).bind fun e' => asNs ts ds e'
  | _, _, _ => none
end
def frz : Sl → Sl
  | .ow ds => .sh (.list ds)
  | s => s
def isLk : Sl → Bool
  | .lk _ => true
  | _ => false
/-- every own list is shared from here on -/
def frzAll (e : En) : Option En := if e.any isLk then none else some (e.map frz)
def noal (d : PyData) (fr : Bool) : Bool := match fr, d with
  | true, .list ds => lfrees ds
  | _, d => lfree d
def lock (h : Hd) (e : En) : List Nat × En := match h with
  | .slot i => match e[i]? with
    | some (.ow ds) => ([i], e.set i (.lk ds))
    | _ => ([], e)
  | _ => ([], e)
def unl (i : Nat) (e : En) : En := match e[i]? with
  | some (.lk ds) => e.set i (.ow ds)
  | _ => e
def unls : List Nat → En → En
  | [], e => e
  | i :: r, e => unls r (unl i e)
/-- a block's own names: shared ahead of it -/
def fzO : List Nat → En → Option En
  | [], e => some e
  | i :: r, e => match e[i]? with
    | some (.lk _) => none
    | none => none
    | some s => fzO r (e.set i (frz s))
def wip : List Nat → En → En
  | [], e => e
  | i :: r, e => (wip r e).set i .un
def rsto (e0 : En) : List Nat → En → En
  | [], e => e
  | i :: r, e => match e0[i]? with
    | some s => (rsto e0 r e).set i s
    | none => rsto e0 r e
abbrev Rs := Option (PyData × Bool × En)
abbrev Fs := Nat → List PyData → Option (PyData × Bool)
def hdl (c : CE) (r : Rs) (e : En) : Option (Hd × En) := match c with
  | .var i => match e[i]? with
    | some (.sh d) => some (.val d, e)
    | some (.ow _) => some (.slot i, e)
    | some (.lk _) => some (.slot i, e)
    | _ => none
  | _ => r.bind fun x => some (.val x.1, x.2.2)
def fetchs (e : En) : List Hd → Option (List PyData)
  | [] => some []
  | h :: r => (fetch e h).bind fun d => (fetchs e r).bind fun ds => some (d :: ds)
def aft (d : PyData) (fr : Bool) (e : En) : Rs := if noal d fr = true then some (d, fr, e) else (frzAll e).bind fun e' => some (d, fr, e')
def lcL (step : PyData → En → Option (List PyData × En)) : List PyData → En → Option (List PyData × En)
  | [], e => some ([], e)
  | d :: ds, e => (step d e).bind fun x => (lcL step ds x.2).bind fun y => some (x.1 ++ y.1, y.2)
/-- all (al), any of a generator's items: what each item gives (nothing, or its truth) -/
def gqL (al : Bool) (step : PyData → En → Option (Option Bool × En)) : List PyData → En → Option (Bool × En)
  | [], e => some (al, e)
  | d :: ds, e => (step d e).bind fun x => match x.1 with
    | none => gqL al step ds x.2
    | some b => if b = al then gqL al step ds x.2 else some (b, x.2)
def boolOf : PyData → Option Bool
  | .bool b => some b
  | _ => none
def forL (step : PyData → En → Option Out) : List PyData → En → Option Out
  | [], e => some (.nx e)
  | d :: ds, e => (step d e).bind fun
    | .nx e' => forL step ds e'
    | .rt d f => some (.rt d f)
def whL (tst : En → Option (Bool × En)) (body : En → Option Out) : Nat → En → Option Out
  | 0, _ => none
  | n + 1, e => (tst e).bind fun x => if x.1 = true then (body x.2).bind fun
      | .nx e' => whL tst body n e'
      | .rt d f => some (.rt d f)
    else some (.nx x.2)
def intOf : PyData → Option Int
  | .int i => some i
  | _ => none

mutual
def evE (Φ : Fs) : CE → En → Rs
  | .con d, e => some (d, false, e)
  | .var i, e => match e[i]? with
    | some (.sh d) => some (d, false, e)
    | some (.ow ds) => some (.list ds, false, e.set i (.sh (.list ds)))
    | _ => none
  | .bin o a b, e => (hdl a (evE Φ a e) e).bind fun x => (hdl b (evE Φ b x.2) x.2).bind fun y =>
      (fetch y.2 x.1).bind fun d1 => (fetch y.2 y.1).bind fun d2 => (op2 o d1 d2).bind fun r => some (r.1, r.2, y.2)
  | .neg a, e => (hdl a (evE Φ a e) e).bind fun x => (fetch x.2 x.1).bind fun d => (intOf d).bind fun i => some (.int (-i), false, x.2)
  | .nott a, e => (hdl a (evE Φ a e) e).bind fun x => (fetch x.2 x.1).bind fun d => (truD d).bind fun b => some (.bool (!b), false, x.2)
  | .andd a b, e => (evE Φ a e).bind fun x => (truD x.1).bind fun t => if t = true then (evE Φ b x.2.2).bind fun y => some (y.1, false, y.2.2) else some (x.1, false, x.2.2)
  | .orr a b, e => (evE Φ a e).bind fun x => (truD x.1).bind fun t => if t = true then some (x.1, false, x.2.2) else (evE Φ b x.2.2).bind fun y => some (y.1, false, y.2.2)
  | .cmp o a b, e => (hdl a (evE Φ a e) e).bind fun x => (hdl b (evE Φ b x.2) x.2).bind fun y =>
      (fetch y.2 x.1).bind fun d1 => (fetch y.2 y.1).bind fun d2 => (cmpD o d1 d2).bind fun r => some (.bool r, false, y.2)
  | .chain o o2 a b c, e => (hdl a (evE Φ a e) e).bind fun x => (hdl b (evE Φ b x.2) x.2).bind fun y =>
      (fetch y.2 x.1).bind fun d1 => (fetch y.2 y.1).bind fun d2 => (cmpD o d1 d2).bind fun r => if r = true then
        (hdl c (evE Φ c y.2) y.2).bind fun z => (fetch z.2 y.1).bind fun d2' => (fetch z.2 z.1).bind fun d3 => (cmpD o2 d2' d3).bind fun r2 => some (.bool r2, false, z.2)
      else some (.bool false, false, y.2)
  | .chain3 o o2 o3 a b c d, e => (hdl a (evE Φ a e) e).bind fun x => (hdl b (evE Φ b x.2) x.2).bind fun y =>
      (fetch y.2 x.1).bind fun d1 => (fetch y.2 y.1).bind fun d2 => (cmpD o d1 d2).bind fun r => if r = true then
        (hdl c (evE Φ c y.2) y.2).bind fun z => (fetch z.2 y.1).bind fun d2' => (fetch z.2 z.1).bind fun d3 => (cmpD o2 d2' d3).bind fun r2 => if r2 = true then
          (hdl d (evE Φ d z.2) z.2).bind fun u => (fetch u.2 z.1).bind fun d3' => (fetch u.2 u.1).bind fun d4 => (cmpD o3 d3' d4).bind fun r3 => some (.bool r3, false, u.2)
        else some (.bool false, false, z.2)
      else some (.bool false, false, y.2)
  | .ite c a b, e => (evT Φ c e).bind fun x => if x.1 = true then evE Φ a x.2 else evE Φ b x.2
  | .tup es, e => (evEs Φ es e).bind fun x => if x.1.length ≤ sizeLine then some (.tuple x.1, false, x.2) else none
  | .lst es, e => (evEs Φ es e).bind fun x => if x.1.length ≤ sizeLine then some (.list x.1, true, x.2) else none
  | .idx a b, e => (hdl a (evE Φ a e) e).bind fun x => (hdl b (evE Φ b x.2) x.2).bind fun y =>
      (fetch y.2 x.1).bind fun d1 => (fetch y.2 y.1).bind fun d2 => (idxD d1 d2).bind fun r => some (r, false, y.2)
  | .idxm a b, e => (hdl a (evE Φ a e) e).bind fun x => (fetch x.2 x.1).bind fun d0 => (hdl b (evE Φ b x.2) x.2).bind fun y =>
      (fetch y.2 x.1).bind fun d1 => (fetch y.2 y.1).bind fun d2 => if sameSeq d0 d1 = true then (fIdx [d1, d2]).bind fun r => some (r.1, r.2, y.2) else none
  | .lenset c, e => (hdl c (evE Φ c e) e).bind fun x => (fetch x.2 x.1).bind fun d => (lstOf d).bind fun ds => (intsOf ds).bind fun ns => if ns.Nodup ∧ ns.length ≤ 4000 then some (.int ns.length, false, x.2) else none
  | .join s c, e => (hdl c (evE Φ c e) e).bind fun y => (fetch y.2 y.1).bind fun d2 => (joinD (.str s) d2).bind fun r => some (r, false, y.2)
  | .slc a lo hi, e => (hdl a (evE Φ a e) e).bind fun x => (evO Φ lo x.2).bind fun y => (evO Φ hi y.2).bind fun z =>
      (fetch z.2 x.1).bind fun d => (slcD d y.1 z.1).bind fun r => some (r.1, r.2, z.2)
  | .rev a, e => (hdl a (evE Φ a e) e).bind fun x => (fetch x.2 x.1).bind fun d => (revD d).bind fun r => some (r.1, r.2, x.2)
  | .call f es, e => (evHs Φ es e).bind fun x => (fetchs x.2 x.1).bind fun ds => (Φ f ds).bind fun r => aft r.1 r.2 x.2
  | .fn b es, e => (evHs Φ es e).bind fun x => (fetchs x.2 x.1).bind fun ds => (fnD b ds).bind fun r => some (r.1, r.2, x.2)
  | .lc elt t it ifs own, e => (evI Φ it e).bind fun x => (fzO own x.2.2).bind fun e1 =>
      (lcL (fun d e2 => (asN t d false e2).bind fun e3 => (evTo Φ ifs e3).bind fun b => if b.1 = true then (evE Φ elt b.2).bind fun r => some ([r.1], wip own r.2.2) else some ([], wip own b.2)) x.1 (wip own e1)).bind fun y =>
        if y.1.length ≤ sizeLine then some (.list y.1, true, unls x.2.1 (rsto e1 own y.2)) else none
  | .pop i, e => match e[i]? with
    | some (.ow ds) => (ds.getLast?).bind fun d => some (d, false, e.set i (.ow ds.dropLast))
    | _ => none
  | .popAt i c, e => match e[i]? with
    | some (.ow _) => (hdl c (evE Φ c e) e).bind fun x => (fetch x.2 x.1).bind fun d => (intOf d).bind fun k => match x.2[i]? with
      | some (.ow ds) => (L2.ixN ds.length k).bind fun j => (ds[j]?).bind fun d => some (d, false, x.2.set i (.ow (ds.eraseIdx j)))
      | _ => none
    | _ => none
  | .lstR it, e => (evI Φ it e).bind fun x => if x.1.length ≤ sizeLine then some (.list x.1, true, unls x.2.1 x.2.2) else none
  | .tupR it, e => (evI Φ it e).bind fun x => if x.1.length ≤ sizeLine then some (.tuple x.1, false, unls x.2.1 x.2.2) else none
  | .gq al elt t it ifs own, e => (evI Φ it e).bind fun x => (fzO own x.2.2).bind fun e1 =>
      (gqL al (fun d e2 => (asN t d false e2).bind fun e3 => (evTo Φ ifs e3).bind fun b => if b.1 = true then (evE Φ elt b.2).bind fun r => (boolOf r.1).bind fun q => some (some q, wip own r.2.2) else some (none, wip own b.2)) x.1 (wip own e1)).bind fun y =>
        some (.bool y.1, false, unls x.2.1 (rsto e1 own y.2))
def evT (Φ : Fs) : CT → En → Option (Bool × En)
  | .val c, e => (hdl c (evE Φ c e) e).bind fun x => (fetch x.2 x.1).bind fun d => (truD d).bind fun b => some (b, x.2)
  | .andd a b, e => (evT Φ a e).bind fun x => if x.1 = true then evT Φ b x.2 else some (false, x.2)
  | .orr a b, e => (evT Φ a e).bind fun x => if x.1 = true then some (true, x.2) else evT Φ b x.2
  | .nott a, e => (evT Φ a e).bind fun x => some (!x.1, x.2)
def evTo (Φ : Fs) : Option CT → En → Option (Bool × En)
  | none, e => some (true, e)
  | some c, e => evT Φ c e
def evO (Φ : Fs) : Option CE → En → Option (Option Int × En)
  | none, e => some (none, e)
  | some c, e => (hdl c (evE Φ c e) e).bind fun x => (fetch x.2 x.1).bind fun d => (intOf d).bind fun i => some (some i, x.2)
def evEs (Φ : Fs) : List CE → En → Option (List PyData × En)
  | [], e => some ([], e)
  | c :: r, e => (evE Φ c e).bind fun x => (evEs Φ r x.2.2).bind fun y => some (x.1 :: y.1, y.2)
def evHs (Φ : Fs) : List CE → En → Option (List Hd × En)
  | [], e => some ([], e)
  | c :: r, e => (hdl c (evE Φ c e) e).bind fun x => (evHs Φ r x.2).bind fun y => some (x.1 :: y.1, y.2)
def evI (Φ : Fs) : CI → En → Option (List PyData × List Nat × En)
  | .seq c, e => (hdl c (evE Φ c e) e).bind fun x => (fetch x.2 x.1).bind fun d => (itemsOf d).bind fun ds => some (ds, lock x.1 x.2)
  | .rng1 a, e => (hdl a (evE Φ a e) e).bind fun x => (fetch x.2 x.1).bind fun d => (intOf d).bind fun i => if rgOk i = true then some (rgD 0 i, [], x.2) else none
  | .rng2 a b, e => (hdl a (evE Φ a e) e).bind fun x => (hdl b (evE Φ b x.2) x.2).bind fun y => (fetch y.2 x.1).bind fun d => (intOf d).bind fun i => (fetch y.2 y.1).bind fun d' => (intOf d').bind fun j =>
      if rgOk i = true ∧ rgOk j = true then some (rgD i j, [], y.2) else none
  | .rng3 a b c, e => none
  | .enm c, e => (hdl c (evE Φ c e) e).bind fun x => (fetch x.2 x.1).bind fun d => (enmOf d).bind fun ds => some (ds.mapIdx (fun i d => .tuple [.int i, d]), lock x.1 x.2)
  | .zip a b, e => (hdl a (evE Φ a e) e).bind fun x => (hdl b (evE Φ b x.2) x.2).bind fun y => (fetch y.2 x.1).bind fun d => (fetch y.2 y.1).bind fun d' => (zipOf d d').bind fun ds =>
      some (ds, (lock x.1 y.2).1 ++ (lock y.1 (lock x.1 y.2).2).1, (lock y.1 (lock x.1 y.2).2).2)
end
def setIx (i : Nat) (k : Int) (d : PyData) (e : En) : Option En := match e[i]? with
  | some (.ow ds) => (L2.ixN ds.length k).bind fun j => some (e.set i (.ow (ds.set j d)))
  | _ => none
def extF (i : Nat) (o : Op2) (d2 : PyData) (e : En) : Option Out := match o, d2, e[i]? with
      | .add, .list es, some (.ow ds) => if ds.length + es.length ≤ sizeLine then some (.nx (e.set i (.ow (ds ++ es)))) else none
      | _, _, _ => none
mutual
def evS (Φ : Fs) (wf : Nat) : CS → En → Option Out
  | .ex c, e => (evE Φ c e).bind fun x => some (.nx x.2.2)
  | .app i c, e => match e[i]? with
    | some (.ow _) => (evE Φ c e).bind fun x => match x.2.2[i]? with
      | some (.ow ds) => if ds.length < sizeLine then some (.nx (x.2.2.set i (.ow (ds ++ [x.1])))) else none
      | _ => none
    | _ => none
  | .asg t c, e => (evE Φ c e).bind fun x => (asN t x.1 x.2.1 x.2.2).bind fun e' => some (.nx e')
  | .sto i ix c, e => (evE Φ c e).bind fun x => match x.2.2[i]? with
    | some (.ow _) => (hdl ix (evE Φ ix x.2.2) x.2.2).bind fun y => (fetch y.2 y.1).bind fun d => (intOf d).bind fun k => (setIx i k x.1 y.2).bind fun e' => some (.nx e')
    | _ => none
  | .aug i o c, e => match e[i]? with
    | some (.sh d1) => (hdl c (evE Φ c e) e).bind fun y => (fetch y.2 y.1).bind fun d2 => (aug2 o d1 d2).bind fun r => (stN i r false y.2).bind fun e' => some (.nx e')
    | some (.ow _) => (hdl c (evE Φ c e) e).bind fun y => (fetch y.2 y.1).bind fun d2 => extF i o d2 y.2
    | _ => none
  | .augs i ix o c, e => match e[i]? with
    | some (.ow _) => (hdl ix (evE Φ ix e) e).bind fun y => (fetch y.2 y.1).bind fun d => (intOf d).bind fun k => match y.2[i]? with
      | some (.ow ds) => (atI ds k).bind fun old => (hdl c (evE Φ c y.2) y.2).bind fun z => (fetch z.2 z.1).bind fun d2 => (intOf old).bind fun a => (intOf d2).bind fun b => (aug2 o (.int a) (.int b)).bind fun r => (setIx i k r z.2).bind fun e' => some (.nx e')
      | _ => none
    | _ => none
  | .ret c, e => match c with
    | .var i => match e[i]? with
      | some (.sh d) => some (.rt d false)
      | some (.ow ds) => some (.rt (.list ds) true)
      | _ => none
    | c => (evE Φ c e).bind fun x => some (.rt x.1 x.2.1)
  | .retn, e => some (.rt .none false)
  | .ife c a b, e => (evT Φ c e).bind fun x => if x.1 = true then evSs Φ wf a x.2 else evSs Φ wf b x.2
  | .forr t it body, e => (evI Φ it e).bind fun x => (forL (fun d e2 => (asN t d false e2).bind fun e3 => evSs Φ wf body e3) x.1 x.2.2).bind fun
      | .nx e' => some (.nx (unls x.2.1 e'))
      | .rt d f => some (.rt d f)
  | .whl c body, e => whL (evT Φ c) (evSs Φ wf body) wf e
def evSs (Φ : Fs) (wf : Nat) : List CS → En → Option Out
  | [], e => some (.nx e)
  | s :: r, e => (evS Φ wf s e).bind fun
    | .nx e' => evSs Φ wf r e'
    | .rt d f => some (.rt d f)
end
def evD (Φ : Fs) (wf : Nat) (p : CD) (ds : List PyData) : Option (PyData × Bool) :=
  if ds.length = p.np then (evSs Φ wf p.body (ds.map .sh ++ List.replicate (p.nl - p.np) .un)).bind fun
    | .nx _ => some (.none, false)
    | .rt d f => some (d, f)
  else none
def run (prog : List CD) (wf : Nat) : Nat → Fs
  | 0 => fun _ _ => none
  | k + 1 => fun f ds => (prog[f]?).bind fun p => evD (run prog wf k) wf p ds
end RV

namespace RV
open PySem PySem.Spec PyProof.Rows L2
variable [Tb]
section
variable {X : Cx} {K : PySem.W.Frag} {H H' : Hp} {O O' : OZ}

/-! ### what operations hand back -/
theorem Same.new {p o} (n : H p = none) : Same H (upd H p o) := fun b u e => by rw [upd_ne (ne_of_none e n)]; exact e
theorem New.int (i : Int) : New K H O (.int i) H (.int i) false := ⟨.refl H, .int i⟩
theorem New.bl (i : Bool) : New K H O (.bl i) H (.bool i) false := ⟨.refl H, .bl i⟩
theorem New.str (i : Str) : New K H O (.str i) H (.str i) false := ⟨.refl H, .str i⟩
theorem New.old {v d} (h : RD K H O v d) : New K H O v H d false := ⟨.refl H, h⟩
theorem New.lst {p xs ds} (n : H p = none) (h : RDs K H O xs ds) : New K H O (.ref p) (upd H p (.lst xs)) (.list ds) true := ⟨Same.new n, p, xs, ds, rfl, rfl, n, upd_same, h⟩
theorem New.tup {p xs ds} {o : Obj} (no : o.dict = none) (n : H p = none) (h : RDs K H O xs ds) : New K H O (.ref p) (upd H p (.frz o (.tup xs))) (.tuple ds) false := ⟨Same.new n, .tup ⟨o, upd_same, no⟩ (h.mono (.same (Same.new n)))⟩

/-! ### operators -/
def opOf : Op2 → Operator
  | .add => .Add | .sub => .Sub | .mul => .Mult | .fdiv => .FloorDiv | .mod => .Mod | .pow => .Pow
def rOp (K : PySem.W.Frag) (o : Op2) : R2 := fun x y H Q => ∃ (O : OZ) (d1 d2 d : PyData) (fr : Bool), RF K H O x d1 ∧ RF K H O y d2 ∧ op2 o d1 d2 = some (d, fr) ∧ ∀ v H', New K H O v H' d fr → Q v H'
theorem RDs.rep {ds xs} (h : RDs K H O xs ds) : ∀ n : Nat, RDs K H O (List.replicate n xs).flatten (List.replicate n ds).flatten
  | 0 => .nil
  | n + 1 => by rw [List.replicate_succ, List.replicate_succ, List.flatten_cons, List.flatten_cons]; exact h.append (RDs.rep h n)
theorem RDs.nil_iff {ds xs} (h : RDs K H O xs ds) : xs = [] ↔ ds = [] := by cases h <;> simp
theorem op_bin (o : Op2) : OpR X (binaryOp (opOf o)) (rOp X.K o) := by
  intro pins s σ H x y v u Q I rx ry h
  obtain ⟨O, d1, d2, d, fr, h1, h2, e, q⟩ := h
  unfold op2 at e
  split at e
  · cases e; cases h1.int; cases h2.int
    exact op_add pins s σ H _ _ v u Q I rx ry ⟨_, _, rfl, rfl, q _ _ (.int _)⟩
  · split at e <;> cases e
    rename_i hz
    obtain ⟨a, xs, rfl, ha, ra⟩ := h1.list
    obtain ⟨b, ys, rfl, hb, rb⟩ := h2.list
    exact op_cat pins s σ H _ _ v u Q I rx ry ⟨a, b, xs, ys, rfl, rfl, ha, hb, by rw [ra.length, rb.length]; exact hz, fun p np => q _ _ (.lst np (ra.append rb))⟩
  · split at e <;> cases e
    rename_i hz
    obtain ⟨a, xs, rfl, ha, ra⟩ := h1.tuple
    obtain ⟨b, ys, rfl, hb, rb⟩ := h2.tuple
    refine op_catF pins s σ H _ _ v u Q I rx ry ⟨a, b, xs, ys, rfl, rfl, ha.t, hb.t, by rw [ra.length, rb.length]; exact hz, fun z => ?_, fun _ z => ?_, fun _ _ p o no np => q _ _ (.tup no np (ra.append rb))⟩
    · have z' := ra.nil_iff.mp z; subst z'; exact q _ _ (.old (.tup hb rb))
    · have z' := rb.nil_iff.mp z; subst z'; rw [List.append_nil] at q; exact q _ _ (.old (.tup ha ra))
  · split at e <;> cases e
    rename_i hz
    cases h1.str; cases h2.str
    exact op_add_str pins s σ H _ _ v u Q I rx ry ⟨_, _, rfl, rfl, hz, q _ _ (.str _)⟩
  · cases e; cases h1.int; cases h2.int
    exact op_sub pins s σ H _ _ v u Q I rx ry ⟨_, _, rfl, rfl, q _ _ (.int _)⟩
  · split at e <;> cases e
    rename_i hz
    cases h1.int; cases h2.int
    exact op_mulW pins s σ H _ _ v u Q I rx ry ⟨_, _, rfl, rfl, hz, q _ _ (.int _)⟩
  · split at e <;> cases e
    rename_i hz
    obtain ⟨a, xs, rfl, ha, ra⟩ := h1.list
    cases h2.int
    exact op_rep pins s σ H _ _ v u Q I rx ry ⟨a, _, xs, rfl, rfl, ha, hz.1, hz.2.1, by rw [ra.length]; exact hz.2.2, fun p np => q _ _ (.lst np (ra.rep _))⟩
  · split at e <;> cases e
    rename_i hz
    obtain ⟨a, xs, rfl, ha, ra⟩ := h1.tuple
    cases h2.int
    exact op_repF pins s σ H _ _ v u Q I rx ry ⟨a, _, xs, rfl, rfl, ha.t, fun z => hz.1 (ra.nil_iff.mp z), hz.2.1, hz.2.2.1, by rw [ra.length]; exact hz.2.2.2, fun p o no np => q _ _ (.tup no np (ra.rep _))⟩
  · split at e
    · cases e
      rename_i hz
      cases h1.int; cases h2.int
      exact op_fdivN pins s σ H _ _ v u Q I rx ry ⟨_, _, rfl, rfl, hz, q _ _ (.int _)⟩
    · split at e <;> cases e
      rename_i hz
      cases h1.int; cases h2.int
      refine op_fdivW pins s σ H _ _ v u Q I rx ry ⟨_, _, rfl, rfl, hz, ?_⟩
      rw [Int.fdiv_eq_ediv_of_nonneg _ (Int.le_of_lt hz.1)] at q
      exact q _ _ (.int _)
  · split at e <;> cases e
    rename_i hz
    cases h1.int; cases h2.int
    exact op_modN pins s σ H _ _ v u Q I rx ry ⟨_, _, rfl, rfl, hz, q _ _ (.int _)⟩
  · split at e <;> cases e
    rename_i hz
    cases h1.int; cases h2.int
    exact op_pow pins s σ H _ _ v u Q I rx ry ⟨_, _, rfl, rfl, hz, q _ _ (.int _)⟩
  · cases e

/-! ### comparisons -/
def cmOf : Cm → CmpOp
  | .eq => .Eq | .ne => .NotEq | .lt => .Lt | .le => .LtE | .gt => .Gt | .ge => .GtE | .inn => .In | .notin => .NotIn
def rCm (K : PySem.W.Frag) (o : Cm) : R2 := fun x y H Q => ∃ (O : OZ) (d1 d2 : PyData) (b : Bool), RF K H O x d1 ∧ RF K H O y d2 ∧ cmpD o d1 d2 = some b ∧ Q (.bl b) H
theorem shaped_lay {d : PyData} (h : SeqAt.shaped d = true) : d.canLay0 = true := SeqAt.canLay_of_shaped h
theorem intsOf_eq : ∀ {ds : List PyData} {ns : List Int}, intsOf ds = some ns → ds = ns.map .int
  | [], ns, h => by cases h; rfl
  | d :: ds, ns, h => by
    cases d with
    | int i =>
      obtain ⟨l, h1, h2⟩ := Option.bind_eq_some_iff.mp (show ((intsOf ds).bind fun l => some (i :: l)) = some ns from h)
      cases h2
      rw [intsOf_eq h1]; rfl
    | _ => cases h
theorem op_cm (o : Cm) (hu : X.A.units + 200 < cLine) : OpR X (compareOp (cmOf o)) (rCm X.K o) := by
  intro pins s σ H x y v u Q I rx ry h
  obtain ⟨O, d1, d2, b, h1, h2, e, q⟩ := h
  unfold cmpD at e
  split at e
  · unfold eqD at e
    split at e <;> cases e
    rename_i hz
    exact op_eqD (by omega) pins s σ H _ _ v u Q I rx ry ⟨_, _, h1.dp (shaped_lay hz.1), h2.dp (shaped_lay hz.2), hz.1, hz.2, q⟩
  · unfold eqD at e
    split at e
    · cases e
      rename_i hz
      exact op_neD (by omega) pins s σ H _ _ v u Q I rx ry ⟨_, _, h1.dp (shaped_lay hz.1), h2.dp (shaped_lay hz.2), hz.1, hz.2, q⟩
    · cases e
  · unfold ltD at e
    split at e
    · cases e
      cases h1.int; cases h2.int
      exact op_lt pins s σ H _ _ v u Q I rx ry ⟨_, _, rfl, rfl, q⟩
    · cases e
      cases h1.str; cases h2.str
      exact op_lt_str pins s σ H _ _ v u Q I rx ry ⟨_, _, rfl, rfl, q⟩
    · rename_i ds es
      obtain ⟨ns, e1, e⟩ := Option.bind_eq_some_iff.mp e
      obtain ⟨ms, e2, e⟩ := Option.bind_eq_some_iff.mp e
      cases e
      cases intsOf_eq e1
      cases intsOf_eq e2
      obtain ⟨a, xs, rfl, ha, ra⟩ := h1.tuple
      obtain ⟨b, ys, rfl, hb, rb⟩ := h2.tuple
      cases ra.ints
      cases rb.ints
      exact op_ltT (by omega) pins s σ H _ _ v u Q I rx ry ⟨a, b, ns, ms, rfl, rfl, ha.t, hb.t, q⟩
    · cases e
  · split at e <;> cases e
    cases h1.int; cases h2.int
    exact op_le pins s σ H _ _ v u Q I rx ry ⟨_, _, rfl, rfl, q⟩
  · split at e <;> cases e
    cases h1.int; cases h2.int
    exact op_gt pins s σ H _ _ v u Q I rx ry ⟨_, _, rfl, rfl, q⟩
  · split at e <;> cases e
    cases h1.int; cases h2.int
    exact op_ge pins s σ H _ _ v u Q I rx ry ⟨_, _, rfl, rfl, q⟩
  · unfold inD at e
    split at e
    · split at e <;> cases e
      rename_i hz
      obtain ⟨as, r1⟩ := Dp.reads I _ y u (h2.dp (shaped_lay hz.1)) ry
      obtain ⟨bs, r2⟩ := Dp.reads I _ x v (h1.dp (shaped_lay hz.2)) rx
      exact SeqAt.in_list_reads r1 r2 (by simpa [PyData.canLay0] using shaped_lay hz.1) (shaped_lay hz.2) (by have := SeqAt.depth_of_shaped hz.2; omega) ⟨.bl _, H, I, rfl, q⟩
    · split at e <;> cases e
      rename_i hz
      obtain ⟨as, r1⟩ := Dp.reads I _ y u (h2.dp (shaped_lay hz.1)) ry
      obtain ⟨bs, r2⟩ := Dp.reads I _ x v (h1.dp (shaped_lay hz.2)) rx
      exact SeqAt.in_tuple_reads r1 r2 (by simpa [PyData.canLay0] using shaped_lay hz.1) (shaped_lay hz.2) (by have := SeqAt.depth_of_shaped hz.2; omega) ⟨.bl _, H, I, rfl, q⟩
    · cases e
  · unfold inD at e
    split at e
    · split at e
      · cases e
        rename_i hz
        obtain ⟨as, r1⟩ := Dp.reads I _ y u (h2.dp (shaped_lay hz.1)) ry
        obtain ⟨bs, r2⟩ := Dp.reads I _ x v (h1.dp (shaped_lay hz.2)) rx
        exact SeqAt.notIn_list_reads r1 r2 (by simpa [PyData.canLay0] using shaped_lay hz.1) (shaped_lay hz.2) (by have := SeqAt.depth_of_shaped hz.2; omega) ⟨.bl _, H, I, rfl, q⟩
      · cases e
    · split at e
      · cases e
        rename_i hz
        obtain ⟨as, r1⟩ := Dp.reads I _ y u (h2.dp (shaped_lay hz.1)) ry
        obtain ⟨bs, r2⟩ := Dp.reads I _ x v (h1.dp (shaped_lay hz.2)) rx
        exact SeqAt.notIn_tuple_reads r1 r2 (by simpa [PyData.canLay0] using shaped_lay hz.1) (shaped_lay hz.2) (by have := SeqAt.depth_of_shaped hz.2; omega) ⟨.bl _, H, I, rfl, q⟩
      · cases e
    · cases e

/-! ### truth -/
theorem tru_of {x d b} (h : RF K H O x d) (e : truD d = some b) : TruV K x H b := by
  unfold truD at e
  split at e
  · cases e; cases h.none; rfl
  · cases e; cases h.bool; rfl
  · cases e; cases h.int; rfl
  · split at e <;> cases e
    cases h.str
    exact ⟨by assumption, rfl⟩
  · cases e
    obtain ⟨a, xs, rfl, ha, ra⟩ := h.list
    exact .inl ⟨xs, .of ha, by cases ra <;> rfl⟩
  · cases e
    obtain ⟨a, xs, rfl, ha, ra⟩ := h.tuple
    exact .inr (.inl ⟨xs, ha.t, by cases ra <;> rfl⟩)
  · cases e

/-! ### subscripts -/
def rIdx (K : PySem.W.Frag) : R2 := fun x y H Q => ∃ (O : OZ) (d1 d2 d : PyData), RF K H O x d1 ∧ RF K H O y d2 ∧ idxD d1 d2 = some d ∧ ∀ v, RD K H O v d → Q v H
theorem RDs.at {ds xs i d} (h : RDs K H O xs ds) (e : atI ds i = some d) : ∃ v, atI xs i = some v ∧ RD K H O v d := by
  unfold atI at e ⊢
  rw [h.length]
  cases q : L2.ixN ds.length i with
  | none => rw [q] at e; cases e
  | some j =>
    rw [q] at e
    exact h.get e
theorem ix_D : IxR X (rIdx X.K) := by
  intro value slice pins s σ H x y v u Q I rx ry h hs
  obtain ⟨O, d1, d2, d, h1, h2, e, q⟩ := h
  unfold idxD at e
  split at e
  · obtain ⟨a, xs, rfl, ha, ra⟩ := h1.list
    cases h2.int
    obtain ⟨z, e1, e2⟩ := ra.at e
    exact ix_list value slice pins s σ H _ _ v u Q I rx ry ⟨a, xs, _, z, rfl, rfl, .of ha, e1, q _ e2⟩ hs
  · obtain ⟨a, xs, rfl, ha, ra⟩ := h1.tuple
    cases h2.int
    obtain ⟨z, e1, e2⟩ := ra.at e
    exact ix_tup value slice pins s σ H _ _ v u Q I rx ry ⟨a, xs, _, z, rfl, rfl, ha.t, e1, q _ e2⟩ hs
  · obtain ⟨a, xs, rfl, ha, ra⟩ := h1.frn
    cases h2.int
    obtain ⟨z, e1, e2⟩ := ra.at e
    exact ix_list value slice pins s σ H _ _ v u Q I rx ry ⟨a, xs, _, z, rfl, rfl, ha, e1, q _ e2⟩ hs
  · split at e
    · rename_i hz
      cases h1.str
      cases h2.int
      obtain ⟨c, e1, e2⟩ := Option.bind_eq_some_iff.mp e
      cases e2
      exact ix_str value slice pins s σ H _ _ v u Q I rx ry ⟨_, _, c, rfl, rfl, hz, e1, q _ (.str _)⟩ hs
    · cases e
  · cases e
def rSlc (K : PySem.W.Frag) : V → Option Int → Option Int → Hp → VK → Prop := fun x lo hi H Q => ∃ (O : OZ) (d1 d : PyData) (fr : Bool), RF K H O x d1 ∧ slcD d1 lo hi = some (d, fr) ∧ ∀ v H', New K H O v H' d fr → Q v H'
theorem RDs.cut {ds xs lo hi} (h : RDs K H O xs ds) : RDs K H O (cutV xs lo hi) (cutD ds lo hi) := by
  unfold cutV cutD
  rw [h.length]
  exact (h.drop _).take _
theorem sl_D : SlR X (rSlc X.K) := by
  intro pins s σ H x v vl vu lo hi sl Q I rx hs pl pu h
  obtain ⟨O, d1, d, fr, h1, e, q⟩ := h
  unfold slcD at e
  split at e
  · cases e
    obtain ⟨a, xs, rfl, ha, ra⟩ := h1.list
    exact sl_list pins s σ H _ v vl vu lo hi sl Q I rx hs pl pu ⟨a, xs, rfl, .of ha, fun p np => q _ _ (.lst np ra.cut)⟩
  · cases e
    obtain ⟨a, xs, rfl, ha, ra⟩ := h1.tuple
    refine sl_tupF pins s σ H _ v vl vu lo hi sl Q I rx hs pl pu ⟨a, xs, rfl, ha.t, fun z => ?_, fun _ p o no np => q _ _ (.tup no np ra.cut)⟩
    rename_i ds
    have e1 : cutD ds lo hi = ds := by
      unfold cutD
      rw [← ra.length, z.1, z.2, List.drop_zero, Nat.sub_zero, ra.length, List.take_length]
    rw [e1] at q
    exact q _ _ (.old (.tup ha ra))
  · split at e <;> cases e
    rename_i hz
    cases h1.str
    exact sl_str pins s σ H _ v vl vu lo hi sl Q I rx hs pl pu ⟨_, rfl, hz, q _ _ (.str _)⟩
  · cases e
end
end RV

namespace RV
open PySem PySem.Spec PyProof.Rows L2
variable [Tb]
section
variable {X : Cx} {K : PySem.W.Frag} {H H' : Hp} {O O' : OZ}
def rFn (K : PySem.W.Frag) (b : Fn) : List V → Hp → VK → Prop := fun vs H Q => ∃ (O : OZ) (ds : List PyData) (d : PyData) (fr : Bool), RFs K H O vs ds ∧ fnD b ds = some (d, fr) ∧ ∀ v H', New K H O v H' d fr → Q v H'
theorem RFs.one {vs d} (h : RFs K H O vs [d]) : ∃ v, vs = [v] ∧ RF K H O v d := by
  cases h with | cons a b => cases b; exact ⟨_, rfl, a⟩
theorem RFs.two {vs d e} (h : RFs K H O vs [d, e]) : ∃ v w, vs = [v, w] ∧ RF K H O v d ∧ RF K H O w e := by
  cases h with | cons a b => cases b with | cons c z => cases z; exact ⟨_, _, rfl, a, c⟩
theorem intsOf_some : ∀ {ds : List PyData} {ns : List Int}, intsOf ds = some ns → ds = ns.map .int
  | [], _, e => by cases e; rfl
  | .int i :: r, ns, e => by
    obtain ⟨l, h1, h2⟩ := Option.bind_eq_some_iff.mp (show ((intsOf r).bind fun l => some (i :: l)) = some ns from e)
    cases h2
    rw [intsOf_some h1]; rfl
  | .none :: _, _, e => by cases e
  | .bool _ :: _, _, e => by cases e
  | .str _ :: _, _, e => by cases e
  | .list _ :: _, _, e => by cases e
  | .tuple _ :: _, _, e => by cases e
  | .dict _ :: _, _, e => by cases e
theorem boolsOf_some : ∀ {ds : List PyData} {ns : List Bool}, boolsOf ds = some ns → ds = ns.map .bool
  | [], _, e => by cases e; rfl
  | .bool i :: r, ns, e => by
    obtain ⟨l, h1, h2⟩ := Option.bind_eq_some_iff.mp (show ((boolsOf r).bind fun l => some (i :: l)) = some ns from e)
    cases h2
    rw [boolsOf_some h1]; rfl
  | .none :: _, _, e => by cases e
  | .int _ :: _, _, e => by cases e
  | .str _ :: _, _, e => by cases e
  | .list _ :: _, _, e => by cases e
  | .tuple _ :: _, _, e => by cases e
  | .dict _ :: _, _, e => by cases e
theorem RDs.bools : ∀ {ns : List Bool} {vs : List V}, RDs K H O vs (ns.map .bool) → vs = ns.map .bl
  | [], _, .nil => rfl
  | n :: ns, _, .cons a b => by cases a; rw [List.map_cons, b.bools]
theorem maxI_spec : ∀ (xs : List Int) (x m : Int), m ∈ x :: xs → (∀ y ∈ x :: xs, y ≤ m) → xs.foldl max x = m
  | [], x, m, h, _ => by simp at h; simp [h]
  | y :: ys, x, m, h, q => by
    rw [List.foldl_cons]
    refine maxI_spec ys (max x y) m ?_ fun z hz => ?_
    · have hx := q x (by simp)
      have hy := q y (by simp)
      simp only [List.mem_cons] at h ⊢
      rcases h with h | h | h
      · left; omega
      · left; omega
      · right; exact h
    · simp only [List.mem_cons] at hz
      rcases hz with h | h
      · have hx := q x (by simp)
        have hy := q y (by simp)
        omega
      · exact q z (by simp [h])
theorem minI_spec : ∀ (xs : List Int) (x m : Int), m ∈ x :: xs → (∀ y ∈ x :: xs, m ≤ y) → xs.foldl min x = m
  | [], x, m, h, _ => by simp at h; simp [h]
  | y :: ys, x, m, h, q => by
    rw [List.foldl_cons]
    refine minI_spec ys (min x y) m ?_ fun z hz => ?_
    · have hx := q x (by simp)
      have hy := q y (by simp)
      simp only [List.mem_cons] at h ⊢
      rcases h with h | h | h
      · left; omega
      · left; omega
      · right; exact h
    · simp only [List.mem_cons] at hz
      rcases hz with h | h
      · have hx := q x (by simp)
        have hy := q y (by simp)
        omega
      · exact q z (by simp [h])

theorem fn_len : CallR X (.builtin "len") (rFn X.K .len) := by
  intro pins s σ H vs us Q I r h
  obtain ⟨O, ds, d, fr, h, e, q⟩ := h
  have e : fLen ds = some (d, fr) := e
  unfold fLen at e
  split at e
  · cases e
    obtain ⟨v, rfl, h'⟩ := h.one
    obtain ⟨a, xs, rfl, ha, ra⟩ := h'.list
    exact call_len pins s σ H _ us Q I r ⟨_, xs.length, rfl, .inl ⟨xs, .of ha, rfl⟩, by rw [ra.length]; exact q _ _ (.int _)⟩
  · cases e
    obtain ⟨v, rfl, h'⟩ := h.one
    obtain ⟨a, xs, rfl, ha, ra⟩ := h'.tuple
    exact call_len pins s σ H _ us Q I r ⟨_, xs.length, rfl, .inr ⟨xs, ha.t, rfl⟩, by rw [ra.length]; exact q _ _ (.int _)⟩
  · cases e
    obtain ⟨v, rfl, h'⟩ := h.one
    obtain ⟨a, xs, rfl, ha, ra⟩ := h'.frn
    exact call_len pins s σ H _ us Q I r ⟨_, xs.length, rfl, .inl ⟨xs, ha, rfl⟩, by rw [ra.length]; exact q _ _ (.int _)⟩
  · split at e <;> cases e
    obtain ⟨v, rfl, h'⟩ := h.one
    cases h'.str
    exact call_len pins s σ H _ us Q I r ⟨_, _, rfl, ⟨by assumption, rfl⟩, q _ _ (.int _)⟩
  · cases e
theorem fn_abs : CallR X (.builtin "abs") (rFn X.K .abs) := by
  intro pins s σ H vs us Q I r h
  obtain ⟨O, ds, d, fr, h, e, q⟩ := h
  have e : fAbs ds = some (d, fr) := e
  unfold fAbs at e
  split at e <;> cases e
  obtain ⟨v, rfl, h'⟩ := h.one
  cases h'.int
  rename_i i
  refine call_abs pins s σ H _ us Q I r ⟨_, rfl, ?_⟩
  have z : (if i < 0 then -i else i) = (i.natAbs : Int) := by split <;> omega
  rw [z]
  exact q _ _ (.int _)
theorem fn_int : CallR X (.type "int") (rFn X.K .int) := by
  intro pins s σ H vs us Q I r h
  obtain ⟨O, ds, d, fr, h, e, q⟩ := h
  have e : fInt ds = some (d, fr) := e
  unfold fInt at e
  split at e <;> cases e
  · obtain ⟨v, rfl, h'⟩ := h.one
    cases h'.int
    exact call_int1 pins s σ H _ us Q I r (.inl ⟨_, rfl, q _ _ (.int _)⟩)
  · obtain ⟨v, rfl, h'⟩ := h.one
    cases h'.bool
    exact call_int1 pins s σ H _ us Q I r (.inr ⟨_, rfl, q _ _ (.int _)⟩)
theorem fn_list : CallR X (.type "list") (rFn X.K .list) := by
  intro pins s σ H vs us Q I r h
  obtain ⟨O, ds, d, fr, h, e, q⟩ := h
  have e : fList ds = some (d, fr) := e
  unfold fList at e
  split at e <;> cases e
  · obtain ⟨v, rfl, h'⟩ := h.one
    obtain ⟨a, xs, rfl, ha, ra⟩ := h'.list
    exact call_list_of pins s σ H _ us Q I r ⟨_, xs, rfl, .inl (.of ha), fun p np => q _ _ (.lst np ra)⟩
  · obtain ⟨v, rfl, h'⟩ := h.one
    obtain ⟨a, xs, rfl, ha, ra⟩ := h'.tuple
    exact call_list_of pins s σ H _ us Q I r ⟨_, xs, rfl, .inr ha.t, fun p np => q _ _ (.lst np ra)⟩
theorem fn_tuple : CallR X (.type "tuple") (rFn X.K .tuple) := by
  intro pins s σ H vs us Q I r h
  obtain ⟨O, ds, d, fr, h, e, q⟩ := h
  have e : fTuple ds = some (d, fr) := e
  unfold fTuple at e
  split at e <;> cases e
  · obtain ⟨v, rfl, h'⟩ := h.one
    obtain ⟨a, xs, rfl, ha, ra⟩ := h'.list
    exact call_tupleF pins s σ H _ us Q I r ⟨_, xs, rfl, .inl ⟨.of ha, fun p o no np => q _ _ (.tup no np ra)⟩⟩
  · obtain ⟨v, rfl, h'⟩ := h.one
    obtain ⟨a, xs, rfl, ha, ra⟩ := h'.tuple
    exact call_tupleF pins s σ H _ us Q I r ⟨_, xs, rfl, .inr ⟨ha.t, q _ _ (.old (.tup ha ra))⟩⟩
end
/-! ### sum, max, min of a tuple of whole numbers -/
section
open PySem
variable {prog : Program} {w : World} {A : Around} {E : Value → Shared → Prop} {s : Shared} {l : Addr} {xs : Array (Int × Tok)} {its : List Value} {ns : List Int}
theorem iter_intTuple {Q : Value → Shared → Prop} (hl : s.heap.IsTuple l (intItems xs))
    (h : ∀ s₂ : Shared, s₂ = { s with heap := s.heap.push { cls := .type "tuple_iterator", data := .fields #[.ref l, .int 0 0] } } →
      (s₂.heap.IsTupleIter s.heap.objs.size l 0 ∧ s₂.heap.IsTuple l (intItems xs)) → (∀ b ∈ [s.heap.objs.size, l], b < s₂.heap.objs.size) → l ≠ s.heap.objs.size → Q (.ref s.heap.objs.size) s₂) :
    wpAny (model prog w) A (pyIter (.ref l)) Q E s := by
  have hlt : l < s.heap.objs.size := by obtain ⟨_, e, _⟩ := hl; exact Heap.lt_size e
  refine wpAny_pyIter_tuple hl (h _ rfl ⟨⟨_, Heap.get?_push_size _ rfl, rfl, rfl⟩, hl.push _⟩ (fun b hb => ?_) (Nat.ne_of_lt hlt))
  show b < (s.heap.push _).objs.size
  rw [Heap.size_push]
  rcases List.mem_cons.mp hb with rfl | hb
  · exact Nat.lt_succ_self _
  · rcases List.mem_cons.mp hb with rfl | hb
    · exact Nat.lt_succ_of_lt hlt
    · cases hb
theorem old_keptT {h' : Heap} (hk : ∀ b o, b ∉ [s.heap.objs.size] → (s.heap.push { cls := .type "tuple_iterator", data := .fields #[.ref l, .int 0 0] }).get? b = some o → h'.get? b = some o) :
    ∀ b o, s.heap.get? b = some o → h'.get? b = some o := fun b o e => by
  refine hk b o (fun hm => ?_) (Heap.get?_push_of_some _ e)
  rcases List.mem_cons.mp hm with e1 | hm
  · exact absurd (e1 ▸ Heap.lt_size e) (Nat.lt_irrefl _)
  · cases hm
theorem sum_rawT {Q : Value → Shared → Prop} (hh : A.handled = none) (hl : s.heap.IsTuple l its.toArray) (hi : IntsAre its ns)
    (h : ∀ h' tk t', (∀ b o, s.heap.get? b = some o → h'.get? b = some o) → Q (.int ns.sum t') { s with heap := h', toks := tk }) : wpAny (model prog w) A (call (.builtin "sum") [.ref l]) Q E s := by
  obtain ⟨xs, e⟩ := hi.allInts.items
  have hn : numsOf (intItems xs).toList = ns := by rw [← e]; exact hi.numsOf
  rw [nums_intItems] at hn
  rw [e] at hl
  refine call_sum_walkG (iter_intTuple hl fun s₂ e st hfp hlI => ?_)
  subst e
  refine ⟨_, _, _, _, _, _, numAt xs, rfl, Walks.tuple (A := A.in1) hh _ l hlI (intItems xs), st, hfp, (fun _ _ => intItems_at), fun h' tk t' hk => ?_⟩
  have q := h h' tk t' (old_keptT hk)
  have e2 : preSum (numAt xs) (intItems xs).size = ns.sum := by
    rw [show (intItems xs).size = xs.size by simp [intItems], preSum_eq, List.take_of_length_le (by simp), hn]
  rw [e2]
  exact q
theorem max_rawT {Q : Value → Shared → Prop} (hh : A.handled = none) (hl : s.heap.IsTuple l its.toArray) (hi : IntsAre its ns) (hne : 0 < ns.length)
    (h : ∀ h' tk M t', (∀ b o, s.heap.get? b = some o → h'.get? b = some o) → M ∈ ns → (∀ a, a ∈ ns → a ≤ M) → Q (.int M t') { s with heap := h', toks := tk }) : wpAny (model prog w) A (call (.builtin "max") [.ref l]) Q E s := by
  obtain ⟨xs, e⟩ := hi.allInts.items
  have hn : numsOf (intItems xs).toList = ns := by rw [← e]; exact hi.numsOf
  rw [nums_intItems] at hn
  subst hn
  rw [e] at hl
  have hsz : 0 < xs.size := by simpa using hne
  refine call_max_walk (iter_intTuple hl fun s₂ e st hfp hlI => ?_)
  subst e
  refine ⟨_, _, _, _, _, _, _, rfl, Walks.tuple (A := A.in1) hh _ l hlI (intItems xs), st, hfp, by simpa [intItems] using hsz, CmpOf.ints_gt (numAt xs) (fun _ _ => intItems_at), fun v h' tk hP hk => ?_⟩
  have hv : (intItems xs)[argBest (fun i j => decide (numAt xs i > numAt xs j)) (xs.size - 1)]? = some v := by simpa [intItems] using hP
  obtain ⟨t, rfl⟩ := intItems_at hv
  obtain ⟨h1, h2⟩ := argBest_gt (numAt xs) (xs.size - 1)
  refine h h' tk _ t (old_keptT hk) ?_ fun a ha => ?_
  · rw [numAt_eq]; exact PySem.getD_mem (by rw [List.length_map, Array.length_toList]; omega)
  · obtain ⟨j, hj, rfl⟩ := mem_getD ha
    rw [List.length_map, Array.length_toList] at hj
    rw [← numAt_eq]; exact h2 j (by omega)
theorem min_rawT {Q : Value → Shared → Prop} (hh : A.handled = none) (hl : s.heap.IsTuple l its.toArray) (hi : IntsAre its ns) (hne : 0 < ns.length)
    (h : ∀ h' tk M t', (∀ b o, s.heap.get? b = some o → h'.get? b = some o) → M ∈ ns → (∀ a, a ∈ ns → M ≤ a) → Q (.int M t') { s with heap := h', toks := tk }) : wpAny (model prog w) A (call (.builtin "min") [.ref l]) Q E s := by
  obtain ⟨xs, e⟩ := hi.allInts.items
  have hn : numsOf (intItems xs).toList = ns := by rw [← e]; exact hi.numsOf
  rw [nums_intItems] at hn
  subst hn
  rw [e] at hl
  have hsz : 0 < xs.size := by simpa using hne
  refine call_min_walk (iter_intTuple hl fun s₂ e st hfp hlI => ?_)
  subst e
  refine ⟨_, _, _, _, _, _, _, rfl, Walks.tuple (A := A.in1) hh _ l hlI (intItems xs), st, hfp, by simpa [intItems] using hsz, CmpOf.ints_lt (numAt xs) (fun _ _ => intItems_at), fun v h' tk hP hk => ?_⟩
  have hv : (intItems xs)[argBest (fun i j => decide (numAt xs i < numAt xs j)) (xs.size - 1)]? = some v := by simpa [intItems] using hP
  obtain ⟨t, rfl⟩ := intItems_at hv
  obtain ⟨h1, h2⟩ := argBest_lt (numAt xs) (xs.size - 1)
  refine h h' tk _ t (old_keptT hk) ?_ fun a ha => ?_
  · rw [numAt_eq]; exact PySem.getD_mem (by rw [List.length_map, Array.length_toList]; omega)
  · obtain ⟨j, hj, rfl⟩ := mem_getD ha
    rw [List.length_map, Array.length_toList] at hj
    rw [← numAt_eq]; exact h2 j (by omega)
end
section
variable {X : Cx} {K : PySem.W.Frag} {H H' : Hp} {O O' : OZ}
theorem fn_sum (hc : X.calm = true) : CallR X (.builtin "sum") (rFn X.K .sum) := by
  intro pins s σ H vs us Q I r h
  obtain ⟨O, ds, d, fr, h, e, q⟩ := h
  have e : fSum ds = some (d, fr) := e
  unfold fSum at e
  split at e
  · obtain ⟨ns, e1, e2⟩ := Option.bind_eq_some_iff.mp e
    cases e2
    rw [intsOf_some e1] at h
    obtain ⟨v, rfl, h'⟩ := h.one
    obtain ⟨a, xs, rfl, ha, ra⟩ := h'.list
    rw [ra.ints] at ha
    exact cr_sum hc pins s σ H _ us Q I r ⟨_, ns, rfl, .of ha, q _ _ (.int _)⟩
  · obtain ⟨ns, e1, e2⟩ := Option.bind_eq_some_iff.mp e
    cases e2
    rw [intsOf_some e1] at h
    obtain ⟨v, rfl, h'⟩ := h.one
    obtain ⟨a, xs, rfl, ha, ra⟩ := h'.tuple
    rw [ra.ints] at ha
    obtain ⟨its, rv, hl, _⟩ := I.tuple ha.t
    rw [Vals.ref1 r]
    exact sum_rawT (I.ok.hd hc) hl rv.ints fun h' tk t' hk => ⟨.int _, H, I.kept hk, ⟨_, rfl⟩, q _ _ (.int _)⟩
  · cases e
theorem fn_max (hc : X.calm = true) : CallR X (.builtin "max") (rFn X.K .max) := by
  intro pins s σ H vs us Q I r h
  obtain ⟨O, ds, d, fr, h, e, q⟩ := h
  have e : fMax ds = some (d, fr) := e
  unfold fMax at e
  split at e
  · obtain ⟨ns, e1, e2⟩ := Option.bind_eq_some_iff.mp e
    obtain ⟨m, e2, e3⟩ := Option.bind_eq_some_iff.mp e2
    cases e3
    rw [intsOf_some e1] at h
    obtain ⟨v, rfl, h'⟩ := h.one
    obtain ⟨a, xs, rfl, ha, ra⟩ := h'.list
    rw [ra.ints] at ha
    cases ns with
    | nil => cases e2
    | cons n ns =>
      cases e2
      refine cr_max hc pins s σ H _ us Q I r ⟨_, _, rfl, .of ha, by simp, fun m h1 h2 => ?_⟩
      rw [← maxI_spec ns n m h1 h2]
      exact q _ _ (.int _)
  · obtain ⟨ns, e1, e2⟩ := Option.bind_eq_some_iff.mp e
    obtain ⟨m, e2, e3⟩ := Option.bind_eq_some_iff.mp e2
    cases e3
    rw [intsOf_some e1] at h
    obtain ⟨v, rfl, h'⟩ := h.one
    obtain ⟨a, xs, rfl, ha, ra⟩ := h'.tuple
    rw [ra.ints] at ha
    cases ns with
    | nil => cases e2
    | cons n ns =>
      cases e2
      obtain ⟨its, rv, hl, _⟩ := I.tuple ha.t
      rw [Vals.ref1 r]
      refine max_rawT (I.ok.hd hc) hl rv.ints (by simp) fun h' tk m t' hk h1 h2 => ⟨.int _, H, I.kept hk, ⟨_, rfl⟩, ?_⟩
      rw [← maxI_spec ns n m h1 h2]
      exact q _ _ (.int _)
  · cases e
    obtain ⟨v, w, rfl, h1, h2⟩ := h.two
    cases h1.int
    cases h2.int
    rename_i i j
    refine call_max2 hc pins s σ H _ us Q I r ⟨_, _, rfl, ?_⟩
    have z : (if j > i then j else i) = max i j := by split <;> omega
    rw [z]
    exact q _ _ (.int _)
  · cases e
theorem fn_min (hc : X.calm = true) : CallR X (.builtin "min") (rFn X.K .min) := by
  intro pins s σ H vs us Q I r h
  obtain ⟨O, ds, d, fr, h, e, q⟩ := h
  have e : fMin ds = some (d, fr) := e
  unfold fMin at e
  split at e
  · obtain ⟨ns, e1, e2⟩ := Option.bind_eq_some_iff.mp e
    obtain ⟨m, e2, e3⟩ := Option.bind_eq_some_iff.mp e2
    cases e3
    rw [intsOf_some e1] at h
    obtain ⟨v, rfl, h'⟩ := h.one
    obtain ⟨a, xs, rfl, ha, ra⟩ := h'.list
    rw [ra.ints] at ha
    cases ns with
    | nil => cases e2
    | cons n ns =>
      cases e2
      refine cr_min hc pins s σ H _ us Q I r ⟨_, _, rfl, .of ha, by simp, fun m h1 h2 => ?_⟩
      rw [← minI_spec ns n m h1 h2]
      exact q _ _ (.int _)
  · obtain ⟨ns, e1, e2⟩ := Option.bind_eq_some_iff.mp e
    obtain ⟨m, e2, e3⟩ := Option.bind_eq_some_iff.mp e2
    cases e3
    rw [intsOf_some e1] at h
    obtain ⟨v, rfl, h'⟩ := h.one
    obtain ⟨a, xs, rfl, ha, ra⟩ := h'.tuple
    rw [ra.ints] at ha
    cases ns with
    | nil => cases e2
    | cons n ns =>
      cases e2
      obtain ⟨its, rv, hl, _⟩ := I.tuple ha.t
      rw [Vals.ref1 r]
      refine min_rawT (I.ok.hd hc) hl rv.ints (by simp) fun h' tk m t' hk h1 h2 => ⟨.int _, H, I.kept hk, ⟨_, rfl⟩, ?_⟩
      rw [← minI_spec ns n m h1 h2]
      exact q _ _ (.int _)
  · cases e
    obtain ⟨v, w, rfl, h1, h2⟩ := h.two
    cases h1.int
    cases h2.int
    rename_i i j
    refine call_min2 hc pins s σ H _ us Q I r ⟨_, _, rfl, ?_⟩
    have z : (if j < i then j else i) = min i j := by split <;> omega
    rw [z]
    exact q _ _ (.int _)
  · cases e
theorem fn_all (hc : X.calm = true) : CallR X (.builtin "all") (rFn X.K .all) := by
  intro pins s σ H vs us Q I r h
  obtain ⟨O, ds, d, fr, h, e, q⟩ := h
  have e : fAll ds = some (d, fr) := e
  unfold fAll at e
  split at e
  · obtain ⟨ns, e1, e2⟩ := Option.bind_eq_some_iff.mp e
    cases e2
    rw [boolsOf_some e1] at h
    obtain ⟨v, rfl, h'⟩ := h.one
    obtain ⟨a, xs, rfl, ha, ra⟩ := h'.list
    rw [ra.bools] at ha
    exact cr_all hc pins s σ H _ us Q I r ⟨_, ns, rfl, .of ha, q _ _ (.bl _)⟩
  · cases e
theorem fn_any (hc : X.calm = true) : CallR X (.builtin "any") (rFn X.K .any) := by
  intro pins s σ H vs us Q I r h
  obtain ⟨O, ds, d, fr, h, e, q⟩ := h
  have e : fAny ds = some (d, fr) := e
  unfold fAny at e
  split at e
  · obtain ⟨ns, e1, e2⟩ := Option.bind_eq_some_iff.mp e
    cases e2
    rw [boolsOf_some e1] at h
    obtain ⟨v, rfl, h'⟩ := h.one
    obtain ⟨a, xs, rfl, ha, ra⟩ := h'.list
    rw [ra.bools] at ha
    exact cr_any hc pins s σ H _ us Q I r ⟨_, ns, rfl, .of ha, q _ _ (.bl _)⟩
  · cases e
/-! ### sorted -/
theorem RDs.reads {pins : List (Addr × Obj)} {s : Shared} {σ : L2.St} (I : Inv X pins σ H s) : ∀ {ds : List PyData} {xs : List V} {us : List Value}, (∀ d ∈ ds, d.canLay0 = true) → RDs X.K H O xs ds → Vals xs us → PySem.W.EachIs (fun v b => ∃ as, Reads s.heap v (id b) as) us ds
  | [], _, _, _, .nil, .nil => .nil
  | d :: ds, _, _, c, .cons a b, .cons r t => .cons (Dp.reads I d _ _ (a.dp (c d (by simp))) r) (RDs.reads I (fun d hd => c d (by simp [hd])) b t)
theorem RDs.both : ∀ {ds : List PyData} {xs : List V} {us : List Value}, RDs K H O xs ds → Vals xs us → PySem.W.EachIs (fun v b => ∃ x, L2.RelV x v ∧ RD K H O x b) us ds
  | [], _, _, .nil, .nil => .nil
  | d :: ds, _, _, .cons a b, .cons r t => .cons ⟨_, r, a⟩ (RDs.both b t)
theorem both_out : ∀ {ds : List PyData} {us : List Value}, PySem.W.EachIs (fun v b => ∃ x, L2.RelV x v ∧ RD K H O x b) us ds → ∃ xs, RDs K H O xs ds ∧ Vals xs us
  | _, _, .nil => ⟨[], .nil, .nil⟩
  | _, _, .cons ⟨x, r, a⟩ t => let ⟨xs, h1, h2⟩ := both_out t; ⟨x :: xs, .cons a h1, .cons r h2⟩
theorem fn_sorted (hu : X.A.units + 200 < cLine) : CallR X (.builtin "sorted") (rFn X.K .sorted) := by
  intro pins s σ H vs us Q I r h
  obtain ⟨O, ds, d, fr, h, e, q⟩ := h
  have e : fSorted ds = some (d, fr) := e
  unfold fSorted at e
  split at e
  · split at e <;> cases e
    rename_i ds hk
    obtain ⟨v, rfl, h'⟩ := h.one
    obtain ⟨a, xs, rfl, ha, ra⟩ := h'.list
    obtain ⟨its, rv, hl, _⟩ := I.list (.of ha)
    rw [Vals.ref1 r]
    unfold sortOk at hk
    simp only [Bool.and_eq_true, Bool.or_eq_true, List.all_eq_true, decide_eq_true_eq] at hk
    obtain ⟨⟨⟨k1, k2⟩, k3⟩, k4⟩ := hk
    refine PySem.W.sorted_data (enc := id) (R := fun v b => ∃ x, L2.RelV x v ∧ RD X.K H O x b) hl.isList (ra.both rv) (ra.reads I (fun d hd => shaped_lay (k3 d hd)) rv) ?_ ?_ k4 (fun b hb => ?_) fun out h1 h2 => ?_
    · rw [List.map_id]; exact k1
    · rw [List.map_id]
      rcases k2 with k2 | k2
      · refine .inl fun d hd => ?_
        have z := k2 d hd
        split at z
        · exact ⟨_, _, rfl⟩
        · cases z
      · refine .inr fun d hd => ?_
        have z := k2 d hd
        split at z
        · cases z
        · cases z
        · rename_i n1 n2
          exact ⟨n1, n2⟩
    · have := SeqAt.depth_of_shaped (k3 b hb)
      show X.A.units + 2 + b.depth < cLine
      omega
    · obtain ⟨ep, he'⟩ := PyProof.Rows.sortedAll_at s.heap its out.toArray
      obtain ⟨ys, g1, g2⟩ := both_out h2
      have hlen : ys.length ≤ sizeLine := by rw [g2.length, h1]; exact k4
      refine ⟨.ref _, upd H (s.heap.objs.size + 1) (.lst ys), I.laid (t' := s.toks) (fun _ _ => PyProof.Rows.sortedAll_old) (Nat.le_succ _) ⟨hlen, out, ep, g2, he'⟩, rfl, q _ _ (.lst (I.hok.fresh (Nat.le_succ _)) g1)⟩
  · split at e <;> cases e
    rename_i ds hk
    obtain ⟨v, rfl, h'⟩ := h.one
    cases h' with
    | val rd =>
    cases rd with
    | @tup a xs _ ha ra =>
    obtain ⟨its, rv, hl, _⟩ := I.tuple ha.t
    rw [Vals.ref1 r]
    unfold sortOk at hk
    simp only [Bool.and_eq_true, Bool.or_eq_true, List.all_eq_true, decide_eq_true_eq] at hk
    obtain ⟨⟨⟨k1, k2⟩, k3⟩, k4⟩ := hk
    refine sorted_tup (enc := id) (R := fun v b => ∃ x, L2.RelV x v ∧ RD X.K H O x b) hl (ra.both rv) (ra.reads I (fun d hd => shaped_lay (k3 d hd)) rv) ?_ ?_ k4 (fun b hb => ?_) fun out p h1' ep h1 h2 kp hp he' => ?_
    · rw [List.map_id]; exact k1
    · rw [List.map_id]
      rcases k2 with k2 | k2
      · refine .inl fun d hd => ?_
        have z := k2 d hd
        split at z
        · exact ⟨_, _, rfl⟩
        · cases z
      · refine .inr fun d hd => ?_
        have z := k2 d hd
        split at z
        · cases z
        · cases z
        · rename_i n1 n2
          exact ⟨n1, n2⟩
    · have := SeqAt.depth_of_shaped (k3 b hb)
      show X.A.units + 2 + b.depth < cLine
      omega
    · obtain ⟨ys, g1, g2⟩ := both_out h2
      have hlen : ys.length ≤ sizeLine := by rw [g2.length, h1]; exact k4
      refine ⟨.ref _, upd H p (.lst ys), I.laid (t' := s.toks) kp hp ⟨hlen, out, ep, g2, he'⟩, rfl, q _ _ (.lst (I.hok.fresh hp) g1)⟩
  · cases e
/-! ### isinstance -/
theorem ty_ok {x d t} (h : RF K H O x d) (e : tyOf d = some t) : TyX K H x (.type t) := by
  unfold tyOf at e
  split at e <;> cases e
  · cases h.none; exact .base .non
  · cases h.bool; exact .base (.bl _)
  · cases h.int; exact .base (.int _)
  · cases h.str; exact .base (.str _)
  · obtain ⟨a, xs, rfl, ha, _⟩ := h.list; exact .base (.lst ha)
  · obtain ⟨a, xs, rfl, ha, _⟩ := h.tuple
    obtain ⟨o, ha, _⟩ := ha
    exact .fTuple ha
end
end RV

namespace RV
open PySem PySem.Spec PyProof.Rows L2
variable [Tb]

/-! ### readings -/
def tE (K : PySem.W.Frag) (f : En → Rs) : TE := fun σ H Q => ∃ (O : OZ) (env : En) (d : PyData) (fr : Bool) (env' : En), Rep K H O σ env ∧ f env = some (d, fr, env') ∧
  ∀ v H' O', Rep K H' O' σ env' → Res K H' O' σ env' v d fr → G O H O' H' → Q v H'
def tH (K : PySem.W.Frag) (f : En → Option (Hd × En)) : TE := fun σ H Q => ∃ (O : OZ) (env : En) (h : Hd) (env' : En), Rep K H O σ env ∧ f env = some (h, env') ∧
  ∀ v H' O', Rep K H' O' σ env' → RH K H' O' σ v h → G O H O' H' → Q v H'
def tT (K : PySem.W.Frag) (f : En → Option (Bool × En)) : TT := fun σ H Q => ∃ (O : OZ) (env : En) (b : Bool) (env' : En), Rep K H O σ env ∧ f env = some (b, env') ∧
  ∀ H' O', Rep K H' O' σ env' → G O H O' H' → Q b H'
def tEs (K : PySem.W.Frag) (f : En → Option (List PyData × En)) : TA := fun σ H Q => ∃ (O : OZ) (env : En) (ds : List PyData) (env' : En), Rep K H O σ env ∧ f env = some (ds, env') ∧
  ∀ vs H' O', Rep K H' O' σ env' → RDs K H' O' vs ds → G O H O' H' → Q vs H'
inductive RHs (K : PySem.W.Frag) (H : Hp) (O : OZ) (σ : L2.St) : List V → List Hd → Prop
  | nil : RHs K H O σ [] []
  | cons {v vs h hs} : RH K H O σ v h → RHs K H O σ vs hs → RHs K H O σ (v :: vs) (h :: hs)
def tHs (K : PySem.W.Frag) (f : En → Option (List Hd × En)) : TA := fun σ H Q => ∃ (O : OZ) (env : En) (hs : List Hd) (env' : En), Rep K H O σ env ∧ f env = some (hs, env') ∧
  ∀ vs H' O', Rep K H' O' σ env' → RHs K H' O' σ vs hs → G O H O' H' → Q vs H'
def tOI (K : PySem.W.Frag) (f : En → Option (Option Int × En)) : TO := fun σ H Q => ∃ (O : OZ) (env : En) (o : Option Int) (env' : En), Rep K H O σ env ∧ f env = some (o, env') ∧
  ∀ H' O', Rep K H' O' σ env' → G O H O' H' → Q o H'

section
variable {X : Cx} {e a b c : Expr} {es rest : List Expr} {pos : Pos} {fa fb fc : En → Option (Hd × En)} {f : En → Rs} {H H' : Hp} {O O' : OZ}
theorem peimp {t t' : TE} (h : PE X e t) (i : ∀ σ H Q, t' σ H Q → t σ H Q) : PE X e t' := ⟨fun pins s σ H Q I hq => h.run pins s σ H Q I (i σ H Q hq)⟩
theorem ptimp {t t' : TT} (h : PT X e t) (i : ∀ σ H Q, t' σ H Q → t σ H Q) : PT X e t' := ⟨fun pins s σ H Q I hq => h.run pins s σ H Q I (i σ H Q hq)⟩
theorem pwimp {t t' : TT} (h : PW X e t) (i : ∀ σ H Q, t' σ H Q → t σ H Q) : PW X e t' := ⟨fun w pins s σ H Q I hq => h.run w pins s σ H Q I (i σ H Q hq)⟩
theorem paimp {t t' : TA} (h : PA X es t) (i : ∀ σ H Q, t' σ H Q → t σ H Q) : PA X es t' := ⟨fun pos pins s σ H Q I hq => h.run pos pins s σ H Q I (i σ H Q hq)⟩
theorem psimp {st : Stmt} {t t' : TS} (h : PS X st t) (i : ∀ D σ H, t' D σ H → t D σ H) : PS X st t' := ⟨fun pins s σ H D I hq => h.run pins s σ H D I (i D σ H hq)⟩
theorem pssimp {st : List Stmt} {t t' : TS} (h : PSs X st t) (i : ∀ D σ H, t' D σ H → t D σ H) : PSs X st t' := ⟨fun pins s σ H D I hq => h.run pins s σ H D I (i D σ H hq)⟩
theorem bindS {α β : Type} {o : Option α} {g : α → Option β} {r : β} (h : o.bind g = some r) : ∃ x, o = some x ∧ g x = some r := Option.bind_eq_some_iff.mp h
theorem RHs.mono {σ vs hs K} (g : M O H O' H') (h : RHs K H O σ vs hs) : RHs K H' O' σ vs hs := by
  induction h with
  | nil => exact .nil
  | cons a _ ih => exact .cons (a.mono g) ih
theorem RHs.fetch {σ env K} (rp : Rep K H O σ env) : ∀ {hs : List Hd} {vs : List V} {ds : List PyData}, RHs K H O σ vs hs → fetchs env hs = some ds → RFs K H O vs ds
  | [], _, _, .nil, e => by cases e; exact .nil
  | h :: hs, _, _, .cons a b, e => by
    obtain ⟨d, e1, e2⟩ := bindS (show (RV.fetch env h).bind (fun d => (fetchs env hs).bind fun ds => some (d :: ds)) = _ from e)
    obtain ⟨ds, e3, e4⟩ := bindS e2
    cases e4
    exact .cons (a.fetch rp e1) (RHs.fetch rp b e3)

/-- a value as a handle -/
theorem g_val (h : PE X e (tE X.K f)) : PE X e (tH X.K fun en => (f en).bind fun x => some (.val x.1, x.2.2)) := by
  refine peimp h fun σ H Q ⟨O, env, hd, env', rp, e1, q⟩ => ?_
  obtain ⟨⟨d, fr, e2⟩, e3, e4⟩ := bindS e1
  cases e4
  refine ⟨O, env, d, fr, _, rp, e3, fun v H' O' rp' res g => ?_⟩
  obtain ⟨O2, rp2, rd, g2⟩ := res.shared rp'
  exact q v H' O2 rp2 rd (g.trans g2)
theorem hdl_val {c : CE} (n : ∀ i, c ≠ .var i) (r : Rs) (en : En) : hdl c r en = r.bind fun x => some (.val x.1, x.2.2) := by
  cases c <;> first | rfl | exact absurd rfl (n _)

/-! ### constants, names -/
theorem g_con {d : PyData} {v : V} (h : PE X e (tC v)) (r : ∀ K H O, RD K H O v d) : PE X e (tE X.K fun en => some (d, false, en)) := by
  refine peimp h fun σ H Q ⟨O, env, d', fr, env', rp, e1, q⟩ => ?_
  cases e1
  exact q v H O rp (r _ _ _) .refl
variable {i : Nat}
theorem get_set {env : En} {i j : Nat} {s t : Sl} (h : (env.set i s)[j]? = some t) : (j = i ∧ t = s) ∨ (j ≠ i ∧ env[j]? = some t) := by
  by_cases e : j = i
  · subst e
    by_cases l : j < env.length
    · rw [List.getElem?_set_self l] at h; cases h; exact .inl ⟨rfl, rfl⟩
    · rw [List.getElem?_eq_none (by simpa using l)] at h; cases h
  · rw [List.getElem?_set_ne (Ne.symm e)] at h; exact .inr ⟨e, h⟩
/-- an own list is shared from here on -/
theorem Rep.freeze {K σ env ds} (rp : Rep K H O σ env) (e : env[i]? = some (.ow ds)) : ∃ a O', σ[i]? = some (some (.ref a)) ∧ Rep K H O' σ (env.set i (.sh (.list ds))) ∧ RD K H O' (.ref a) (.list ds) ∧ G O H O' H := by
  obtain ⟨a, xs, e1, e2, e3, e4⟩ := rp.ow i ds (.inl e)
  have s : ∀ b, (O.m b ∧ b ≠ a) → O.m b := fun b h => h.1
  have rd : RD K H ⟨fun b => O.m b ∧ b ≠ a, O.z⟩ (.ref a) (.list ds) := .lst ⟨fun z => z.elim (fun z => z.2 rfl) e2.2, e3⟩ (e4.mono (G.less s).to)
  have ne : ∀ j ds', (env[j]? = some (Sl.ow ds') ∨ env[j]? = some (Sl.lk ds')) → j ≠ i → ∀ a', σ[j]? = some (some (V.ref a')) → a' ≠ a := fun j ds' o n a' e5 z => by
    subst z
    exact n (rp.inj j i _ ⟨_, o⟩ ⟨_, .inl e⟩ e5 e1)
  have own : ∀ j, Own (env.set i (.sh (.list ds))) j → Own env j ∧ j ≠ i := fun j ⟨ds', o⟩ => by
    rcases o with o | o
    · rcases get_set o with ⟨_, z⟩ | ⟨n, o⟩
      · cases z
      · exact ⟨⟨_, .inl o⟩, n⟩
    · rcases get_set o with ⟨_, z⟩ | ⟨n, o⟩
      · cases z
      · exact ⟨⟨_, .inr o⟩, n⟩
  refine ⟨a, ⟨fun b => O.m b ∧ b ≠ a, O.z⟩, e1, ⟨by rw [List.length_set]; exact rp.len, fun j d h => ?_, fun j ds' h => ?_, fun j k b hj hk => rp.inj j k b (own j hj).1 (own k hk).1, fun b hb => ⟨(rp.zt b hb).1, fun q => (rp.zt b hb).2 q.1⟩, rp.tb⟩, rd, .less s⟩
  · rcases get_set h with ⟨rfl, z⟩ | ⟨_, h⟩
    · cases z; exact ⟨_, e1, rd⟩
    · obtain ⟨v, h1, h2⟩ := rp.sh j d h
      exact ⟨v, h1, h2.mono (G.less s).to⟩
  · have h' : (env[j]? = some (Sl.ow ds') ∨ env[j]? = some (Sl.lk ds')) ∧ j ≠ i := by
      rcases h with h | h
      · rcases get_set h with ⟨_, z⟩ | ⟨n, h⟩
        · cases z
        · exact ⟨.inl h, n⟩
      · rcases get_set h with ⟨_, z⟩ | ⟨n, h⟩
        · cases z
        · exact ⟨.inr h, n⟩
    obtain ⟨a', xs', h1, h2, h3, h4⟩ := rp.ow j ds' h'.1
    exact ⟨a', xs', h1, ⟨⟨h2.1, ne j ds' h'.1 h'.2 a' h1⟩, h2.2⟩, h3, h4.mono (G.less s).to⟩
theorem g_varE {Φ : Fs} (h : PE X e (tVar i)) : PE X e (tE X.K (evE Φ (.var i))) := by
  refine peimp h fun σ H Q ⟨O, env, d, fr, env', rp, e1, q⟩ => ?_
  simp only [evE] at e1
  split at e1
  · cases e1
    rename_i hs
    obtain ⟨v, h1, h2⟩ := rp.sh i _ hs
    exact ⟨v, h1, q v H O rp h2 .refl⟩
  · cases e1
    rename_i ds hs
    obtain ⟨a, O', h1, h2, h3, h4⟩ := rp.freeze hs
    exact ⟨_, h1, q _ H O' h2 h3 h4⟩
  · cases e1
theorem g_varH {r : En → Rs} (h : PE X e (tVar i)) : PE X e (tH X.K fun en => hdl (.var i) (r en) en) := by
  refine peimp h fun σ H Q ⟨O, env, hh, env', rp, e1, q⟩ => ?_
  simp only [hdl] at e1
  split at e1
  · cases e1
    rename_i hs
    obtain ⟨v, h1, h2⟩ := rp.sh i _ hs
    exact ⟨v, h1, q v H O rp h2 .refl⟩
  · cases e1
    rename_i ds hs
    obtain ⟨a, xs, h1, _⟩ := rp.ow i _ (.inl hs)
    exact ⟨_, h1, q _ H O rp h1 .refl⟩
  · cases e1
    rename_i ds hs
    obtain ⟨a, xs, h1, _⟩ := rp.ow i _ (.inr hs)
    exact ⟨_, h1, q _ H O rp h1 .refl⟩
  · cases e1

/-! ### operators -/
theorem g_bin {o : Op2} (ga : PE X a (tH X.K fa)) (gb : PE X b (tH X.K fb)) : PE X (.BinOp a (opOf o) b pos) (tE X.K fun e => (fa e).bind fun x => (fb x.2).bind fun y =>
      (fetch y.2 x.1).bind fun d1 => (fetch y.2 y.1).bind fun d2 => (op2 o d1 d2).bind fun r => some (r.1, r.2, y.2)) := by
  refine peimp (pe_op (op_bin o) ga gb) fun σ H Q ⟨O, env, d, fr, env', rp, e1, q⟩ => ?_
  obtain ⟨⟨h1, en1⟩, x1, e1⟩ := bindS e1
  obtain ⟨⟨h2, en2⟩, x2, e1⟩ := bindS e1
  obtain ⟨d1, x3, e1⟩ := bindS e1
  obtain ⟨d2, x4, e1⟩ := bindS e1
  obtain ⟨⟨d', fr'⟩, x5, e1⟩ := bindS e1
  cases e1
  refine ⟨O, env, h1, en1, rp, x1, fun v H1 O1 rp1 rh1 g1 => ⟨O1, en1, h2, _, rp1, x2, fun w H2 O2 rp2 rh2 g2 => ?_⟩⟩
  refine ⟨O2, d1, d2, _, _, (rh1.mono g2.to).fetch rp2 x3, rh2.fetch rp2 x4, x5, fun v' H' nw => ?_⟩
  obtain ⟨O3, rp3, res, g3⟩ := nw.res rp2
  exact q v' H' O3 rp3 res (g1.trans (g2.trans g3))
theorem g_neg (ga : PE X a (tH X.K fa)) : PE X (.UnaryOp .USub a pos) (tE X.K fun e => (fa e).bind fun x => (fetch x.2 x.1).bind fun d => (intOf d).bind fun i => some (.int (-i), false, x.2)) := by
  refine peimp (pe_un un_neg ga) fun σ H Q ⟨O, env, d, fr, env', rp, e1, q⟩ => ?_
  obtain ⟨⟨h1, en1⟩, x1, e1⟩ := bindS e1
  obtain ⟨d1, x2, e1⟩ := bindS e1
  obtain ⟨j, x3, e1⟩ := bindS e1
  cases e1
  refine ⟨O, env, h1, en1, rp, x1, fun v H1 O1 rp1 rh1 g1 => ?_⟩
  have rf := rh1.fetch rp1 x2
  cases d1 <;> cases x3
  cases rf.int
  exact ⟨_, rfl, q _ H1 O1 rp1 (.int _) g1⟩
theorem g_nott (ga : PE X a (tH X.K fa)) : PE X (.UnaryOp .Not a pos) (tE X.K fun e => (fa e).bind fun x => (fetch x.2 x.1).bind fun d => (truD d).bind fun b => some (.bool (!b), false, x.2)) := by
  refine peimp (pe_notT ga) fun σ H Q ⟨O, env, d, fr, env', rp, e1, q⟩ => ?_
  obtain ⟨⟨h1, en1⟩, x1, e1⟩ := bindS e1
  obtain ⟨d1, x2, e1⟩ := bindS e1
  obtain ⟨j, x3, e1⟩ := bindS e1
  cases e1
  refine ⟨O, env, h1, en1, rp, x1, fun v H1 O1 rp1 rh1 g1 => ?_⟩
  exact ⟨j, tru_of (rh1.fetch rp1 x2) x3, q _ H1 O1 rp1 (.bl _) g1⟩
theorem g_one {op : BoolOp} (h : PE X a (tE X.K f)) : PE X (.BoolOp op [a] pos) (tE X.K f) := pe_one h
variable {f1 f2 : En → Rs}
theorem g_and (ga : PE X a (tE X.K f1)) (gb : PE X (.BoolOp .And (b :: rest) pos) (tE X.K f2)) : PE X (.BoolOp .And (a :: b :: rest) pos) (tE X.K fun e => (f1 e).bind fun x => (truD x.1).bind fun t =>
    if t = true then (f2 x.2.2).bind fun y => some (y.1, false, y.2.2) else some (x.1, false, x.2.2)) := by
  refine peimp (pe_andT ga gb) fun σ H Q ⟨O, env, d, fr, env', rp, e1, q⟩ => ?_
  obtain ⟨⟨d1, fr1, en1⟩, x1, e1⟩ := bindS e1
  obtain ⟨t, x2, e1⟩ := bindS e1
  refine ⟨O, env, d1, fr1, en1, rp, x1, fun v H1 O1 rp1 res g1 => ?_⟩
  obtain ⟨O2, rp2, rd, g2⟩ := res.shared rp1
  refine ⟨t, tru_of (.val rd) x2, ?_⟩
  cases t with
  | true =>
    rw [if_pos rfl] at e1 ⊢
    obtain ⟨⟨d2, fr2, en2⟩, x3, e1⟩ := bindS e1
    cases e1
    refine ⟨O2, en1, d2, fr2, _, rp2, x3, fun v H3 O3 rp3 res g3 => ?_⟩
    obtain ⟨O4, rp4, rd4, g4⟩ := res.shared rp3
    exact q v H3 O4 rp4 rd4 (g1.trans (g2.trans (g3.trans g4)))
  | false =>
    rw [if_neg Bool.false_ne_true] at e1 ⊢
    cases e1
    exact q v H1 O2 rp2 rd (g1.trans g2)
theorem g_or (ga : PE X a (tE X.K f1)) (gb : PE X (.BoolOp .Or (b :: rest) pos) (tE X.K f2)) : PE X (.BoolOp .Or (a :: b :: rest) pos) (tE X.K fun e => (f1 e).bind fun x => (truD x.1).bind fun t =>
    if t = true then some (x.1, false, x.2.2) else (f2 x.2.2).bind fun y => some (y.1, false, y.2.2)) := by
  refine peimp (pe_orT ga gb) fun σ H Q ⟨O, env, d, fr, env', rp, e1, q⟩ => ?_
  obtain ⟨⟨d1, fr1, en1⟩, x1, e1⟩ := bindS e1
  obtain ⟨t, x2, e1⟩ := bindS e1
  refine ⟨O, env, d1, fr1, en1, rp, x1, fun v H1 O1 rp1 res g1 => ?_⟩
  obtain ⟨O2, rp2, rd, g2⟩ := res.shared rp1
  refine ⟨t, tru_of (.val rd) x2, ?_⟩
  cases t with
  | false =>
    rw [if_neg Bool.false_ne_true] at e1 ⊢
    obtain ⟨⟨d2, fr2, en2⟩, x3, e1⟩ := bindS e1
    cases e1
    refine ⟨O2, en1, d2, fr2, _, rp2, x3, fun v H3 O3 rp3 res g3 => ?_⟩
    obtain ⟨O4, rp4, rd4, g4⟩ := res.shared rp3
    exact q v H3 O4 rp4 rd4 (g1.trans (g2.trans (g3.trans g4)))
  | true =>
    rw [if_pos rfl] at e1 ⊢
    cases e1
    exact q v H1 O2 rp2 rd (g1.trans g2)
def cmF (fa fb : En → Option (Hd × En)) (o : Cm) : En → Rs := fun e => (fa e).bind fun x => (fb x.2).bind fun y =>
      (fetch y.2 x.1).bind fun d1 => (fetch y.2 y.1).bind fun d2 => (cmpD o d1 d2).bind fun r => some (.bool r, false, y.2)
theorem cm_in {o : Cm} {t : TE} (ht : t = tOp (rCm X.K o) (tH X.K fa) (tH X.K fb)) : ∀ σ H Q, tE X.K (cmF fa fb o) σ H Q → t σ H Q := fun σ H Q ⟨O, env, d, fr, env', rp, e1, q⟩ => by
  subst ht
  obtain ⟨⟨h1, en1⟩, x1, e1⟩ := bindS e1
  obtain ⟨⟨h2, en2⟩, x2, e1⟩ := bindS e1
  obtain ⟨d1, x3, e1⟩ := bindS e1
  obtain ⟨d2, x4, e1⟩ := bindS e1
  obtain ⟨r, x5, e1⟩ := bindS e1
  cases e1
  refine ⟨O, env, h1, en1, rp, x1, fun v H1 O1 rp1 rh1 g1 => ⟨O1, en1, h2, _, rp1, x2, fun w H2 O2 rp2 rh2 g2 => ?_⟩⟩
  exact ⟨O2, d1, d2, _, (rh1.mono g2.to).fetch rp2 x3, rh2.fetch rp2 x4, x5, q _ H2 O2 rp2 (.bl _) (g1.trans g2)⟩
theorem g_cmp {o : Cm} (hu : X.A.units + 200 < cLine) (ga : PE X a (tH X.K fa)) (gb : PE X b (tH X.K fb)) (hm : behindInMarks (cmOf o) b = false) : PE X (.Compare a [cmOf o] [b] pos) (tE X.K (cmF fa fb o)) :=
  peimp (pe_cmpR (op_cm o hu) ga gb hm) (cm_in rfl)
def chF (fa fb fc : En → Option (Hd × En)) (o o2 : Cm) : En → Rs := fun e => (fa e).bind fun x => (fb x.2).bind fun y =>
      (fetch y.2 x.1).bind fun d1 => (fetch y.2 y.1).bind fun d2 => (cmpD o d1 d2).bind fun r => if r = true then
        (fc y.2).bind fun z => (fetch z.2 y.1).bind fun d2' => (fetch z.2 z.1).bind fun d3 => (cmpD o2 d2' d3).bind fun r2 => some (.bool r2, false, z.2)
      else some (.bool false, false, y.2)
end
end RV

namespace RV
open PySem PySem.Spec PyProof.Rows L2
variable [Tb]
section
variable {X : Cx} {e a b c : Expr} {es rest : List Expr} {pos : Pos} {fa fb fc : En → Option (Hd × En)} {f f1 f2 : En → Rs} {H H' : Hp} {O O' : OZ}
def ch_in {o o2 : Cm} (σ : L2.St) (H : Hp) (Q : VK) (h : tE X.K (chF fa fb fc o o2) σ H Q) : tChain (rCm X.K o) (rCm X.K o2) (tH X.K fa) (tH X.K fb) (tH X.K fc) σ H Q := by
  obtain ⟨O, env, d, fr, env', rp, e1, q⟩ := h
  obtain ⟨⟨h1, en1⟩, x1, e1⟩ := bindS e1
  obtain ⟨⟨h2, en2⟩, x2, e1⟩ := bindS e1
  obtain ⟨d1, x3, e1⟩ := bindS e1
  obtain ⟨d2, x4, e1⟩ := bindS e1
  obtain ⟨r, x5, e1⟩ := bindS e1
  refine ⟨O, env, h1, en1, rp, x1, fun v H1 O1 rp1 rh1 g1 => ⟨O1, en1, h2, _, rp1, x2, fun w H2 O2 rp2 rh2 g2 => ?_⟩⟩
  refine ⟨O2, d1, d2, _, (rh1.mono g2.to).fetch rp2 x3, rh2.fetch rp2 x4, x5, r, rfl, ?_⟩
  cases r with
  | false =>
    rw [if_neg Bool.false_ne_true] at e1 ⊢
    cases e1
    exact q _ H2 O2 rp2 (.bl _) (g1.trans g2)
  | true =>
    rw [if_pos rfl] at e1 ⊢
    obtain ⟨⟨h3, en3⟩, x6, e1⟩ := bindS e1
    obtain ⟨d2', x7, e1⟩ := bindS e1
    obtain ⟨d3, x8, e1⟩ := bindS e1
    obtain ⟨r2, x9, e1⟩ := bindS e1
    cases e1
    refine ⟨O2, en2, h3, _, rp2, x6, fun w' H3 O3 rp3 rh3 g3 => ?_⟩
    exact ⟨O3, d2', d3, _, (rh2.mono g3.to).fetch rp3 x7, rh3.fetch rp3 x8, x9, q _ H3 O3 rp3 (.bl _) (g1.trans (g2.trans g3))⟩
theorem g_chain {o o2 : Cm} (hu : X.A.units + 200 < cLine) (ga : PE X a (tH X.K fa)) (gb : PE X b (tH X.K fb)) (gc : PE X c (tH X.K fc)) (hm : lastMarks [cmOf o, cmOf o2] [b, c] = false) :
    PE X (.Compare a [cmOf o, cmOf o2] [b, c] pos) (tE X.K (chF fa fb fc o o2)) := peimp (pe_chain (op_cm o hu) (op_cm o2 hu) ga gb gc hm) ch_in

/-! ### tests -/
/-- a value's truth -/
def vT (fa : En → Option (Hd × En)) : En → Option (Bool × En) := fun e => (fa e).bind fun x => (fetch x.2 x.1).bind fun d => (truD d).bind fun b => some (b, x.2)
theorem t_val (ga : PE X a (tH X.K fa)) (he : ∀ whole, isTrue a X.env whole = (do let v ← whole; standAt a.pos; holding [v] (truthy v))) : PT X a (tT X.K (vT fa)) := by
  refine ptimp (pt_truth ga he) fun σ H Q ⟨O, env, b, env', rp, e1, q⟩ => ?_
  obtain ⟨⟨h1, en1⟩, x1, e1⟩ := bindS e1
  obtain ⟨d1, x2, e1⟩ := bindS e1
  obtain ⟨j, x3, e1⟩ := bindS e1
  cases e1
  exact ⟨O, env, h1, _, rp, x1, fun v H1 O1 rp1 rh1 g1 => ⟨_, tru_of (rh1.fetch rp1 x2) x3, q H1 O1 rp1 g1⟩⟩
/-- a bool's truth -/
def bT (f : En → Rs) : En → Option (Bool × En) := fun e => (f e).bind fun x => (truD x.1).bind fun b => some (b, x.2.2)
theorem vT_val (f : En → Rs) : vT (fun en => (f en).bind fun x => some (.val x.1, x.2.2)) = bT f := by
  funext en
  unfold vT bT
  cases h : f en <;> simp [h, RV.fetch]
theorem t_cmp {o : Cm} (hu : X.A.units + 200 < cLine) (ga : PE X a (tH X.K fa)) (gb : PE X b (tH X.K fb)) (hm : behindInMarks (cmOf o) b = false) : PT X (.Compare a [cmOf o] [b] pos) (tT X.K (bT (cmF fa fb o))) := by
  refine ptimp (pt_cmpR (op_cm o hu) ga gb hm) fun σ H Q ⟨O, env, b, env', rp, e1, q⟩ => ?_
  obtain ⟨⟨d, fr, en⟩, x1, e1⟩ := bindS e1
  obtain ⟨t, x2, e1⟩ := bindS e1
  cases e1
  refine cm_in rfl σ H _ ⟨O, env, d, fr, _, rp, x1, fun v H1 O1 rp1 res g1 => ?_⟩
  obtain ⟨O2, rp2, rd, g2⟩ := res.shared rp1
  have ed : d = .bool b := by
    obtain ⟨_, _, y⟩ := bindS x1
    obtain ⟨_, _, y⟩ := bindS y
    obtain ⟨_, _, y⟩ := bindS y
    obtain ⟨_, _, y⟩ := bindS y
    obtain ⟨_, _, y⟩ := bindS y
    cases y
    cases x2
    rfl
  subst ed
  cases rd
  exact ⟨_, rfl, q H1 O2 rp2 (g1.trans g2)⟩
theorem t_chain {o o2 : Cm} (hu : X.A.units + 200 < cLine) (ga : PE X a (tH X.K fa)) (gb : PE X b (tH X.K fb)) (gc : PE X c (tH X.K fc)) (hm : lastMarks [cmOf o, cmOf o2] [b, c] = false) :
    PT X (.Compare a [cmOf o, cmOf o2] [b, c] pos) (tT X.K (bT (chF fa fb fc o o2))) := by
  refine ptimp (pt_chain (op_cm o hu) (op_cm o2 hu) ga gb gc hm) fun σ H Q ⟨O, env, b, env', rp, e1, q⟩ => ?_
  obtain ⟨⟨d, fr, en⟩, x1, e1⟩ := bindS e1
  obtain ⟨t, x2, e1⟩ := bindS e1
  cases e1
  refine ch_in σ H _ ⟨O, env, d, fr, _, rp, x1, fun v H1 O1 rp1 res g1 => ?_⟩
  obtain ⟨O2, rp2, rd, g2⟩ := res.shared rp1
  have ed : d = .bool b := by
    obtain ⟨_, _, y⟩ := bindS x1
    obtain ⟨_, _, y⟩ := bindS y
    obtain ⟨_, _, y⟩ := bindS y
    obtain ⟨_, _, y⟩ := bindS y
    obtain ⟨r, _, y⟩ := bindS y
    cases r with
    | false =>
      rw [if_neg Bool.false_ne_true] at y
      cases y; cases x2; rfl
    | true =>
      rw [if_pos rfl] at y
      obtain ⟨_, _, y⟩ := bindS y
      obtain ⟨_, _, y⟩ := bindS y
      obtain ⟨_, _, y⟩ := bindS y
      obtain ⟨_, _, y⟩ := bindS y
      cases y; cases x2; rfl
  subst ed
  cases rd
  exact ⟨_, rfl, q H1 O2 rp2 (g1.trans g2)⟩
variable {ta tb : En → Option (Bool × En)}
theorem t_not (ga : PT X a (tT X.K ta)) : PT X (.UnaryOp .Not a pos) (tT X.K fun e => (ta e).bind fun x => some (!x.1, x.2)) := by
  refine ptimp (pt_not ga) fun σ H Q ⟨O, env, b, env', rp, e1, q⟩ => ?_
  obtain ⟨⟨t, en⟩, x1, e1⟩ := bindS e1
  cases e1
  exact ⟨O, env, t, _, rp, x1, q⟩
theorem w_and1 (ga : PT X a (tT X.K ta)) : PW X (.BoolOp .And [a] pos) (tT X.K ta) := pw_and1 ga
theorem w_or1 (ga : PT X a (tT X.K ta)) : PW X (.BoolOp .Or [a] pos) (tT X.K ta) := pw_or1 ga
theorem w_and (ga : PT X a (tT X.K ta)) (gb : PW X (.BoolOp .And (b :: rest) pos) (tT X.K tb)) : PW X (.BoolOp .And (a :: b :: rest) pos) (tT X.K fun e => (ta e).bind fun x => if x.1 = true then tb x.2 else some (false, x.2)) := by
  refine pwimp (pw_and ga gb) fun σ H Q ⟨O, env, b, env', rp, e1, q⟩ => ?_
  obtain ⟨⟨t, en⟩, x1, e1⟩ := bindS e1
  refine ⟨O, env, t, en, rp, x1, fun H1 O1 rp1 g1 => ?_⟩
  cases t with
  | true =>
    rw [if_pos rfl] at e1 ⊢
    exact ⟨O1, en, b, env', rp1, e1, fun H2 O2 rp2 g2 => q H2 O2 rp2 (g1.trans g2)⟩
  | false =>
    rw [if_neg Bool.false_ne_true] at e1 ⊢
    cases e1
    exact q H1 O1 rp1 g1
theorem w_or (ga : PT X a (tT X.K ta)) (gb : PW X (.BoolOp .Or (b :: rest) pos) (tT X.K tb)) : PW X (.BoolOp .Or (a :: b :: rest) pos) (tT X.K fun e => (ta e).bind fun x => if x.1 = true then some (true, x.2) else tb x.2) := by
  refine pwimp (pw_or ga gb) fun σ H Q ⟨O, env, b, env', rp, e1, q⟩ => ?_
  obtain ⟨⟨t, en⟩, x1, e1⟩ := bindS e1
  refine ⟨O, env, t, en, rp, x1, fun H1 O1 rp1 g1 => ?_⟩
  cases t with
  | false =>
    rw [if_neg Bool.false_ne_true] at e1 ⊢
    exact ⟨O1, en, b, env', rp1, e1, fun H2 O2 rp2 g2 => q H2 O2 rp2 (g1.trans g2)⟩
  | true =>
    rw [if_pos rfl] at e1 ⊢
    cases e1
    exact q H1 O1 rp1 g1
theorem g_ite (gc : PT X c (tT X.K ta)) (ga : PE X a (tE X.K f1)) (gb : PE X b (tE X.K f2)) : PE X (.IfExp c a b pos) (tE X.K fun e => (ta e).bind fun x => if x.1 = true then f1 x.2 else f2 x.2) := by
  refine peimp (pe_ifExp gc ga gb) fun σ H Q ⟨O, env, d, fr, env', rp, e1, q⟩ => ?_
  obtain ⟨⟨t, en⟩, x1, e1⟩ := bindS e1
  refine ⟨O, env, t, en, rp, x1, fun H1 O1 rp1 g1 => ?_⟩
  cases t with
  | true =>
    rw [if_pos rfl] at e1 ⊢
    exact ⟨O1, en, d, fr, env', rp1, e1, fun v H2 O2 rp2 res g2 => q v H2 O2 rp2 res (g1.trans g2)⟩
  | false =>
    rw [if_neg Bool.false_ne_true] at e1 ⊢
    exact ⟨O1, en, d, fr, env', rp1, e1, fun v H2 O2 rp2 res g2 => q v H2 O2 rp2 res (g1.trans g2)⟩

/-! ### argument lists, displays -/
def plainE : Expr → Bool
  | .Starred _ _ => false
  | .Slice _ _ _ _ => false
  | _ => true
theorem star_plain (h : plainE e = true) (es : List Expr) (env : Env) : starEach (e :: es) env = (false, eval e env) :: starEach es env := by
  cases e <;> first | rfl | cases h
theorem a_nil : PA X [] (tEs X.K fun en => some ([], en)) := by
  refine paimp pa_nil fun σ H Q ⟨O, env, ds, env', rp, e1, q⟩ => ?_
  cases e1
  exact q [] H O rp .nil .refl
theorem a_cons {fs : En → Option (List PyData × En)} (ga : PE X e (tE X.K f)) (gs : PA X es (tEs X.K fs)) (hp : plainE e = true) : PA X (e :: es) (tEs X.K fun en => (f en).bind fun x => (fs x.2.2).bind fun y => some (x.1 :: y.1, y.2)) := by
  refine paimp (pa_cons ga gs (star_plain hp _ _)) fun σ H Q ⟨O, env, ds, env', rp, e1, q⟩ => ?_
  obtain ⟨⟨d, fr, en1⟩, x1, e1⟩ := bindS e1
  obtain ⟨⟨ds', en2⟩, x2, e1⟩ := bindS e1
  cases e1
  refine ⟨O, env, d, fr, en1, rp, x1, fun v H1 O1 rp1 res g1 => ?_⟩
  obtain ⟨O2, rp2, rd, g2⟩ := res.shared rp1
  exact ⟨O2, en1, ds', _, rp2, x2, fun vs H3 O3 rp3 rds g3 => q (v :: vs) H3 O3 rp3 (.cons (rd.mono g3.to) rds) (g1.trans (g2.trans g3))⟩
theorem h_nil : PA X [] (tHs X.K fun en => some ([], en)) := by
  refine paimp pa_nil fun σ H Q ⟨O, env, ds, env', rp, e1, q⟩ => ?_
  cases e1
  exact q [] H O rp .nil .refl
theorem h_cons {fs : En → Option (List Hd × En)} (ga : PE X e (tH X.K fa)) (gs : PA X es (tHs X.K fs)) (hp : plainE e = true) : PA X (e :: es) (tHs X.K fun en => (fa en).bind fun x => (fs x.2).bind fun y => some (x.1 :: y.1, y.2)) := by
  refine paimp (pa_cons ga gs (star_plain hp _ _)) fun σ H Q ⟨O, env, ds, env', rp, e1, q⟩ => ?_
  obtain ⟨⟨d, en1⟩, x1, e1⟩ := bindS e1
  obtain ⟨⟨ds', en2⟩, x2, e1⟩ := bindS e1
  cases e1
  exact ⟨O, env, d, en1, rp, x1, fun v H1 O1 rp1 rh g1 => ⟨O1, en1, ds', _, rp1, x2, fun vs H3 O3 rp3 rhs g3 => q (v :: vs) H3 O3 rp3 (.cons (rh.mono g3.to) rhs) (g1.trans g3)⟩⟩
theorem g_tup {fs : En → Option (List PyData × En)} {k : Nat} (gs : PA X es (tEs X.K fs)) : PE X (.Tuple es k pos) (tE X.K fun e => (fs e).bind fun x => if x.1.length ≤ sizeLine then some (.tuple x.1, false, x.2) else none) := by
  refine peimp (pe_tupF gs) fun σ H Q ⟨O, env, d, fr, env', rp, e1, q⟩ => ?_
  obtain ⟨⟨ds, en⟩, x1, e1⟩ := bindS e1
  split at e1 <;> cases e1
  rename_i hz
  refine ⟨O, env, ds, _, rp, x1, fun vs H1 O1 rp1 rds g1 => ⟨by rw [rds.length]; exact hz, fun p o no np => ?_⟩⟩
  obtain ⟨O3, rp3, res, g3⟩ := (New.tup no np rds).res rp1
  exact q _ _ O3 rp3 res (g1.trans g3)
theorem g_lst {fs : En → Option (List PyData × En)} (gs : PA X es (tEs X.K fs)) : PE X (.List es pos) (tE X.K fun e => (fs e).bind fun x => if x.1.length ≤ sizeLine then some (.list x.1, true, x.2) else none) := by
  refine peimp (pe_lst gs) fun σ H Q ⟨O, env, d, fr, env', rp, e1, q⟩ => ?_
  obtain ⟨⟨ds, en⟩, x1, e1⟩ := bindS e1
  split at e1 <;> cases e1
  rename_i hz
  refine ⟨O, env, ds, _, rp, x1, fun vs H1 O1 rp1 rds g1 => ⟨by rw [rds.length]; exact hz, fun p np => ?_⟩⟩
  obtain ⟨O3, rp3, res, g3⟩ := (New.lst np rds).res rp1
  exact q _ _ O3 rp3 res (g1.trans g3)

/-! ### subscripts -/
theorem plainIx (h : plainE b = true) : PlainIx b := fun _ _ => by cases b <;> first | rfl | cases h
theorem g_idx (ga : PE X a (tH X.K fa)) (gb : PE X b (tH X.K fb)) (hp : plainE b = true) : PE X (.Subscript a b pos) (tE X.K fun e => (fa e).bind fun x => (fb x.2).bind fun y =>
      (fetch y.2 x.1).bind fun d1 => (fetch y.2 y.1).bind fun d2 => (idxD d1 d2).bind fun r => some (r, false, y.2)) := by
  refine peimp (pe_ix ix_D ga gb (plainIx hp)) fun σ H Q ⟨O, env, d, fr, env', rp, e1, q⟩ => ?_
  obtain ⟨⟨h1, en1⟩, x1, e1⟩ := bindS e1
  obtain ⟨⟨h2, en2⟩, x2, e1⟩ := bindS e1
  obtain ⟨d1, x3, e1⟩ := bindS e1
  obtain ⟨d2, x4, e1⟩ := bindS e1
  obtain ⟨d', x5, e1⟩ := bindS e1
  cases e1
  refine ⟨O, env, h1, en1, rp, x1, fun v H1 O1 rp1 rh1 g1 => ⟨O1, en1, h2, _, rp1, x2, fun w H2 O2 rp2 rh2 g2 => ?_⟩⟩
  exact ⟨O2, d1, d2, _, (rh1.mono g2.to).fetch rp2 x3, rh2.fetch rp2 x4, x5, fun v' rd => q v' H2 O2 rp2 rd (g1.trans g2)⟩
variable {lo hi : Option Expr} {fl fh : En → Option (Option Int × En)}
theorem poimp {o : Option Expr} {t t' : TO} (h : PO X o t) (i : ∀ σ H Q, t' σ H Q → t σ H Q) : PO X o t' := ⟨fun pins s σ H Q I hq => h.run pins s σ H Q I (i σ H Q hq)⟩
theorem o_none : PO X none (tOI X.K fun en => some (none, en)) := poimp po_none fun σ H Q ⟨O, env, o, env', rp, e1, q⟩ => by
  cases e1
  exact q H O rp .refl
theorem o_some (ga : PE X a (tH X.K fa)) : PO X (some a) (tOI X.K fun e => (fa e).bind fun x => (fetch x.2 x.1).bind fun d => (intOf d).bind fun i => some (some i, x.2)) := poimp (po_some ga) fun σ H Q ⟨O, env, o, env', rp, e1, q⟩ => by
  obtain ⟨⟨h1, en1⟩, x1, e1⟩ := bindS e1
  obtain ⟨d1, x2, e1⟩ := bindS e1
  obtain ⟨j, x3, e1⟩ := bindS e1
  cases e1
  refine ⟨O, env, h1, _, rp, x1, fun v H1 O1 rp1 rh1 g1 => ?_⟩
  have rf := rh1.fetch rp1 x2
  cases d1 <;> cases x3
  cases rf.int
  exact ⟨_, rfl, q H1 O1 rp1 g1⟩
theorem g_slc {p2 : Pos} (ga : PE X a (tH X.K fa)) (gl : PO X lo (tOI X.K fl)) (gh : PO X hi (tOI X.K fh)) : PE X (.Subscript a (.Slice lo hi none p2) pos) (tE X.K fun e => (fa e).bind fun x => (fl x.2).bind fun y => (fh y.2).bind fun z =>
      (fetch z.2 x.1).bind fun d => (slcD d y.1 z.1).bind fun r => some (r.1, r.2, z.2)) := by
  refine peimp (pe_slice sl_D ga gl gh) fun σ H Q ⟨O, env, d, fr, env', rp, e1, q⟩ => ?_
  obtain ⟨⟨h1, en1⟩, x1, e1⟩ := bindS e1
  obtain ⟨⟨l, en2⟩, x2, e1⟩ := bindS e1
  obtain ⟨⟨u, en3⟩, x3, e1⟩ := bindS e1
  obtain ⟨d1, x4, e1⟩ := bindS e1
  obtain ⟨⟨d', fr'⟩, x5, e1⟩ := bindS e1
  cases e1
  refine ⟨O, env, h1, en1, rp, x1, fun v H1 O1 rp1 rh1 g1 => ⟨O1, en1, l, en2, rp1, x2, fun H2 O2 rp2 g2 => ⟨O2, en2, u, _, rp2, x3, fun H3 O3 rp3 g3 => ?_⟩⟩⟩
  refine ⟨O3, d1, _, _, (rh1.mono (g2.trans g3).to).fetch rp3 x4, x5, fun v' H' nw => ?_⟩
  obtain ⟨O4, rp4, res, g4⟩ := nw.res rp3
  exact q v' H' O4 rp4 res (g1.trans (g2.trans (g3.trans g4)))
theorem g_rev {k : Nat} {p1 p2 p3 : Pos} (ga : PE X a (tH X.K fa)) : PE X (.Subscript a (.Slice none none (some (.UnaryOp .USub (.Constant (.int 1) k p1) p2)) p3) pos) (tE X.K fun e => (fa e).bind fun x => (fetch x.2 x.1).bind fun d => (revD d).bind fun r => some (r.1, r.2, x.2)) := by
  refine peimp (pe_revA ga) fun σ H Q ⟨O, env, d, fr, env', rp, e1, q⟩ => ?_
  obtain ⟨⟨h1, en1⟩, x1, e1⟩ := bindS e1
  obtain ⟨d1, x2, e1⟩ := bindS e1
  obtain ⟨⟨d', fr'⟩, x3, e1⟩ := bindS e1
  cases e1
  refine ⟨O, env, h1, _, rp, x1, fun v H1 O1 rp1 rh1 g1 => ?_⟩
  unfold revD at x3
  split at x3 <;> cases x3
  · obtain ⟨p, xs, rfl, ha, ra⟩ := (rh1.fetch rp1 x2).list
    refine ⟨p, xs, rfl, .inl ⟨.of ha, fun p2 np => ?_⟩⟩
    obtain ⟨O4, rp4, res, g4⟩ := (New.lst np ra.reverse).res rp1
    exact q _ _ O4 rp4 res (g1.trans g4)
  · cases rh1.fetch rp1 x2 with
    | val rd =>
    cases rd with
    | @tup p xs _ ha ra =>
    refine ⟨p, xs, rfl, .inr ⟨ha.t, fun p2 o no np => ?_⟩⟩
    obtain ⟨O4, rp4, res, g4⟩ := (New.tup no np ra.reverse).res rp1
    exact q _ _ O4 rp4 res (g1.trans g4)

/-! ### calls -/
def fnF (b : Fn) (fs : En → Option (List Hd × En)) : En → Rs := fun e => (fs e).bind fun x => (fetchs x.2 x.1).bind fun ds => (fnD b ds).bind fun r => some (r.1, r.2, x.2)
theorem fn_in {b : Fn} {fs : En → Option (List Hd × En)} (σ : L2.St) (H : Hp) (Q : VK) (h : tE X.K (fnF b fs) σ H Q) : tCB (rFn X.K b) (tHs X.K fs) σ H Q := by
  obtain ⟨O, env, d, fr, env', rp, e1, q⟩ := h
  obtain ⟨⟨hs, en⟩, x1, e1⟩ := bindS e1
  obtain ⟨ds, x2, e1⟩ := bindS e1
  obtain ⟨⟨d', fr'⟩, x3, e1⟩ := bindS e1
  cases e1
  refine ⟨O, env, hs, _, rp, x1, fun vs H1 O1 rp1 rhs g1 => ⟨O1, ds, _, _, rhs.fetch rp1 x2, x3, fun v H' nw => ?_⟩⟩
  obtain ⟨O4, rp4, res, g4⟩ := nw.res rp1
  exact q _ _ O4 rp4 res (g1.trans g4)
theorem back_plain : ∀ (es : List Expr) (env : Env), es.all plainE = true → (backTo pos (starEach es env)).any (·.1) = false
  | [], _, _ => rfl
  | e :: es, env, h => by
    have h' := Bool.and_eq_true_iff.mp (show (plainE e && es.all plainE) = true from h)
    rw [star_plain h'.1]
    exact back_plain es env h'.2
theorem g_fnB {b : Fn} {x : PySem.Str} {id : String} {p : Pos} {fs : En → Option (List Hd × En)} (hc : CallR X (.builtin id) (rFn X.K b)) (hg : Gl X x) (hm : X.mg x = none) (hv : bootBuiltins x = some (.builtin id)) (hn : x ≠ "__name__") (hd : (x == ("__debug__" : PySem.Str)) = false)
    (gs : PA X (e :: es) (tHs X.K fs)) (hp : (e :: es).all plainE = true) : PE X (.Call (.Name x p) (e :: es) [] pos) (tE X.K (fnF b fs)) := by
  have h' := Bool.and_eq_true_iff.mp (show (plainE e && es.all plainE) = true from hp)
  exact peimp (pe_callB hc hg hm hv gs hn hd (star_plain h'.1 _ _) (back_plain _ _ h'.2)) fn_in
theorem g_fnT {b : Fn} {x : PySem.Str} {id : String} {p : Pos} {fs : En → Option (List Hd × En)} (hc : CallR X (.type id) (rFn X.K b)) (hg : Gl X x) (hm : X.mg x = none) (hv : bootBuiltins x = some (.type id)) (hn : x ≠ "__name__") (hd : (x == ("__debug__" : PySem.Str)) = false)
    (gs : PA X (e :: es) (tHs X.K fs)) (hp : (e :: es).all plainE = true) : PE X (.Call (.Name x p) (e :: es) [] pos) (tE X.K (fnF b fs)) := by
  have h' := Bool.and_eq_true_iff.mp (show (plainE e && es.all plainE) = true from hp)
  exact peimp (pe_callTy hc hg hm hv gs hn hd (star_plain h'.1 _ _) (back_plain _ _ h'.2)) fn_in
/-- one handle as a list -/
def h1F (fa : En → Option (Hd × En)) : En → Option (List Hd × En) := fun en => (fa en).bind fun x => some ([x.1], x.2)
theorem isN_in (σ : L2.St) (H : Hp) (Q : VK) (h : tE X.K (fnF .isNone (h1F fa)) σ H Q) : tIsN (tH X.K fa) σ H Q := by
  obtain ⟨O, env, d, fr, env', rp, e1, q⟩ := h
  obtain ⟨⟨hs, en⟩, x1, e1⟩ := bindS e1
  obtain ⟨⟨h, en2⟩, y1, y2⟩ := bindS x1
  cases y2
  obtain ⟨ds, x2, e1⟩ := bindS e1
  obtain ⟨⟨d', fr'⟩, x3, e1⟩ := bindS e1
  cases e1
  obtain ⟨d1, z1, z2⟩ := bindS x2
  cases z2
  refine ⟨O, env, h, _, rp, y1, fun v H1 O1 rp1 rh g1 => ?_⟩
  have rf := rh.fetch rp1 z1
  cases d1 <;> cases x3
  · cases rf.none; exact q _ H1 O1 rp1 (.bl _) g1
  · cases rf.bool; exact q _ H1 O1 rp1 (.bl _) g1
  · cases rf.int; exact q _ H1 O1 rp1 (.bl _) g1
  · cases rf.str; exact q _ H1 O1 rp1 (.bl _) g1
  · obtain ⟨p, xs, rfl, _⟩ := rf.list; exact q _ H1 O1 rp1 (.bl _) g1
  · obtain ⟨p, xs, rfl, _⟩ := rf.tuple; exact q _ H1 O1 rp1 (.bl _) g1
  · cases rf with | val r => cases r; exact q _ H1 O1 rp1 (.bl _) g1
theorem g_isNone {j : Nat} {pos' : Pos} (ga : PE X a (tH X.K fa)) : PE X (.Compare a [.Is] [.Constant .none j pos'] pos) (tE X.K (fnF .isNone (h1F fa))) := peimp (pe_cmp (pc_isN ga)) isN_in
theorem notN_in (σ : L2.St) (H : Hp) (Q : VK) (h : tE X.K (fnF .notNone (h1F fa)) σ H Q) : tNotN (tH X.K fa) σ H Q := by
  obtain ⟨O, env, d, fr, env', rp, e1, q⟩ := h
  obtain ⟨⟨hs, en⟩, x1, e1⟩ := bindS e1
  obtain ⟨⟨h, en2⟩, y1, y2⟩ := bindS x1
  cases y2
  obtain ⟨ds, x2, e1⟩ := bindS e1
  obtain ⟨⟨d', fr'⟩, x3, e1⟩ := bindS e1
  cases e1
  obtain ⟨d1, z1, z2⟩ := bindS x2
  cases z2
  refine ⟨O, env, h, _, rp, y1, fun v H1 O1 rp1 rh g1 => ?_⟩
  have rf := rh.fetch rp1 z1
  cases d1 <;> cases x3
  · cases rf.none; exact q _ H1 O1 rp1 (.bl _) g1
  · cases rf.bool; exact q _ H1 O1 rp1 (.bl _) g1
  · cases rf.int; exact q _ H1 O1 rp1 (.bl _) g1
  · cases rf.str; exact q _ H1 O1 rp1 (.bl _) g1
  · obtain ⟨p, xs, rfl, _⟩ := rf.list; exact q _ H1 O1 rp1 (.bl _) g1
  · obtain ⟨p, xs, rfl, _⟩ := rf.tuple; exact q _ H1 O1 rp1 (.bl _) g1
  · cases rf with | val r => cases r; exact q _ H1 O1 rp1 (.bl _) g1
theorem g_notNone {j : Nat} {pos' : Pos} (ga : PE X a (tH X.K fa)) : PE X (.Compare a [.IsNot] [.Constant .none j pos'] pos) (tE X.K (fnF .notNone (h1F fa))) := peimp (pe_cmp (pc_notN ga)) notN_in
theorem tB_of {f : En → Rs} {t : TE} (i : ∀ σ H Q, tE X.K f σ H Q → t σ H Q) (hb : ∀ en d fr e', f en = some (d, fr, e') → ∃ b, d = .bool b) : ∀ σ H Q, tT X.K (bT f) σ H Q → tB t σ H Q := fun σ H Q ⟨O, env, b, env', rp, e1, q⟩ => by
  obtain ⟨⟨d, fr, en⟩, x1, e1⟩ := bindS e1
  obtain ⟨t, x2, e1⟩ := bindS e1
  cases e1
  obtain ⟨b', rfl⟩ := hb _ _ _ _ x1
  cases x2
  refine i σ H _ ⟨O, env, _, fr, _, rp, x1, fun v H1 O1 rp1 res g1 => ?_⟩
  obtain ⟨O2, rp2, rd, g2⟩ := res.shared rp1
  cases rd
  exact ⟨_, rfl, q H1 O2 rp2 (g1.trans g2)⟩
theorem isN_bool {fa : En → Option (Hd × En)} {bf : Fn} {c : Bool} (hf : fnD bf = fNone c) : ∀ en d fr e', fnF bf (h1F fa) en = some (d, fr, e') → ∃ b, d = .bool b := fun en d fr e' e1 => by
  obtain ⟨⟨hs, en⟩, x1, e1⟩ := bindS e1
  obtain ⟨ds, x2, e1⟩ := bindS e1
  obtain ⟨⟨d', fr'⟩, x3, e1⟩ := bindS e1
  cases e1
  rw [hf] at x3
  unfold fNone at x3
  split at x3 <;> cases x3 <;> exact ⟨_, rfl⟩
theorem t_isNone {j : Nat} {pos' : Pos} (ga : PE X a (tH X.K fa)) : PT X (.Compare a [.Is] [.Constant .none j pos'] pos) (tT X.K (bT (fnF .isNone (h1F fa)))) := ptimp (pt_cmp (pc_isN ga)) (tB_of isN_in (isN_bool rfl))
theorem t_notNone {j : Nat} {pos' : Pos} (ga : PE X a (tH X.K fa)) : PT X (.Compare a [.IsNot] [.Constant .none j pos'] pos) (tT X.K (bT (fnF .notNone (h1F fa)))) := ptimp (pt_cmp (pc_notN ga)) (tB_of notN_in (isN_bool rfl))
end
end RV

namespace RV
open PySem PySem.Spec PyProof.Rows L2
variable [Tb]
section
variable {X : Cx} {e a b c : Expr} {es rest : List Expr} {pos : Pos} {fa fb fc : En → Option (Hd × En)} {f f1 f2 : En → Rs} {K : PySem.W.Frag} {H H' : Hp} {O O' : OZ}

/-! ### isinstance -/
def tyNames : List String := ["NoneType", "bool", "int", "str", "list", "tuple"]
def clsNames : List String := ["int", "bool", "str", "tuple"]
theorem kit_all : (tyNames.all fun t => clsNames.all fun n => kitB t n == some (t == n || (t == "bool" && n == "int"))) = true := by decide +kernel
theorem tyOf_mem {d : PyData} {t : String} (h : tyOf d = some t) : t ∈ tyNames := by
  unfold tyOf at h
  split at h <;> cases h <;> decide
theorem g_isi {n : String} {x : PySem.Str} {p p2 : Pos} {bf : Fn} (hf : fnD bf = fIs n) (hn : n ∈ clsNames) (hg : Gl X "isinstance") (hm : X.mg "isinstance" = none) (hg2 : Gl X x) (hm2 : X.mg x = none) (hx : bootBuiltins x = some (.type n)) (hx1 : x ≠ "__name__")
    (hx2 : (x == ("__debug__" : PySem.Str)) = false) (ga : PE X a (tH X.K fa)) (hp : plainE a = true) : PE X (.Call (.Name "isinstance" p) [a, .Name x p2] [] pos) (tE X.K (fnF bf (h1F fa))) := by
  have ha : PA X [a, .Name x p2] _ := pa_cons ga (pa_cons (pe_bltn hg2 hm2 hx (v := .ty n) rfl hx1 hx2) pa_nil) (star_plain hp _ _)
  refine peimp (pe_callB call_isi hg hm (by decide +kernel) ha (by decide) (by decide) (star_plain hp _ _) rfl) fun σ H Q ⟨O, env, d, fr, env', rp, e1, q⟩ => ?_
  obtain ⟨⟨hs, en⟩, x1, e1⟩ := bindS e1
  obtain ⟨⟨h, en2⟩, y1, y2⟩ := bindS x1
  cases y2
  obtain ⟨ds, x2, e1⟩ := bindS e1
  obtain ⟨⟨d', fr'⟩, x3, e1⟩ := bindS e1
  cases e1
  obtain ⟨d1, z1, z2⟩ := bindS x2
  cases z2
  rw [hf] at x3
  obtain ⟨t, w1, w2⟩ := bindS (show ((tyOf d1).bind fun t => some (PyData.bool (t == n || (t == "bool" && n == "int")), false)) = _ from x3)
  cases w2
  refine ⟨O, env, h, _, rp, y1, fun v H1 O1 rp1 rh g1 => ?_⟩
  have rf := rh.fetch rp1 z1
  refine ⟨v, .ty n, .type t, .type n, _, rfl, .ty n, ty_ok rf w1, kit_ty ?_, q _ H1 O1 rp1 (.bl _) g1⟩
  have k := List.all_eq_true.mp (List.all_eq_true.mp kit_all t (tyOf_mem w1)) n hn
  exact eq_of_beq k

/-! ### calls of defs -/
/-- what a def hands back -/
def Ret (K : PySem.W.Frag) (Z : Addr → Prop) (H : Hp) (v : V) (H' : Hp) (d : PyData) (fr : Bool) : Prop :=
  if fr = true then ∃ p xs ds, v = .ref p ∧ d = .list ds ∧ H p = none ∧ H' p = some (.lst xs) ∧ RDs K H' ⟨fun b => b = p, Z⟩ xs ds else RD K H' ⟨fun _ => False, Z⟩ v d
def spF (K : PySem.W.Frag) (np : Nat) (g : List PyData → Option (PyData × Bool)) : Sp := fun vs H Q _ => vs.length = np ∧ ∃ (Z : Addr → Prop) (ds : List PyData) (d : PyData) (fr : Bool), (∀ b, Z b → H b ≠ none) ∧ RDs K H ⟨fun _ => False, Z⟩ vs ds ∧ (∀ P, Tb.T P → TabG H P) ∧ g ds = some (d, fr) ∧ ∀ v H', SameT H H' → Ret K Z H v H' d fr → Q v H'
theorem frz_own {env : En} (hn : ¬ env.any isLk = true) : ∀ j, ¬ Own (env.map frz) j := fun j ⟨ds, o⟩ => by
  have nlk : ∀ j ds, env[j]? ≠ some (Sl.lk ds) := fun j ds z => hn (List.any_eq_true.mpr ⟨_, List.mem_of_getElem? z, rfl⟩)
  rw [List.getElem?_map] at o
  cases h : env[j]? with
  | none => rw [h] at o; simp at o
  | some sl =>
    rw [h] at o
    cases sl with
    | lk ds' => exact nlk j ds' h
    | un => simp [frz] at o
    | sh _ => simp [frz] at o
    | ow _ => simp [frz] at o
theorem Rep.freezeAll {σ env env' m} (rp : Rep K H O σ env) (s : SameT H H') (sub : ∀ b, m b → H b = none) (e : frzAll env = some env') : Rep K H' ⟨m, O.z⟩ σ env' ∧ ∀ j, ¬ Own env' j := by
  unfold frzAll at e
  split at e
  · cases e
  · rename_i hn
    cases e
    have nlk : ∀ j ds, env[j]? ≠ some (Sl.lk ds) := fun j ds z => hn (List.any_eq_true.mpr ⟨_, List.mem_of_getElem? z, rfl⟩)
    have nown := frz_own hn
    have g : G O H ⟨m, O.z⟩ H' := ⟨fun b u h n => s.keep b u h fun ps e => n (.inr ⟨ps, e⟩), fun b h => .inr (sub b h), rfl, s.tb⟩
    refine ⟨⟨by rw [List.length_map]; exact rp.len, fun j d h => ?_, fun j ds h => absurd ⟨ds, h⟩ (nown j), fun i j a hi => absurd hi (nown i), fun b hb => ⟨s.nn (rp.zt b hb).1, fun q => (rp.zt b hb).1 (sub b q)⟩, fun P h => s.tab (rp.tb P h)⟩, nown⟩
    · rw [List.getElem?_map] at h
      cases h' : env[j]? with
      | none => rw [h'] at h; simp at h
      | some sl =>
        rw [h'] at h
        cases sl with
        | un => simp [frz] at h
        | lk ds' => exact absurd h' (nlk j ds')
        | sh d' =>
          simp [frz] at h
          subst h
          obtain ⟨v, h1, h2⟩ := rp.sh j _ h'
          exact ⟨v, h1, h2.mono g.to⟩
        | ow ds =>
          simp [frz] at h
          subst h
          obtain ⟨a, xs, h1, h2, h3, h4⟩ := rp.ow j ds (.inl h')
          refine ⟨_, h1, .lst ⟨fun z => z.elim (fun z => ?_) h2.2, s.lst h3⟩ (h4.mono g.to)⟩
          have := sub a z
          rw [h3] at this; cases this
theorem aft_ok {σ env d fr r v} (rp : Rep K H O σ env) (s : SameT H H') (ret : Ret K O.z H v H' d fr) (e : aft d fr env = some r) : r.1 = d ∧ r.2.1 = fr ∧ ∃ O', Rep K H' O' σ r.2.2 ∧ Res K H' O' σ r.2.2 v d fr ∧ G O H O' H' := by
  unfold aft at e
  split at e
  · rename_i hn
    cases e
    refine ⟨rfl, rfl, ?_⟩
    cases fr with
    | false =>
      have hn' : lfree d = true := hn
      exact ⟨O, rp.sameT s, RD.free hn' ret, .sameT s⟩
    | true =>
      obtain ⟨p, xs, ds, rfl, rfl, np, hp, hx⟩ := ret
      have hn' : lfrees ds = true := hn
      refine ⟨O.plus p, (rp.apart np).sameT s, ⟨p, xs, ds, rfl, rfl, ⟨.inr rfl, fun z => (rp.zt p z).1 np⟩, hp, RDs.free hn' hx, fun i ⟨ds', o⟩ e => ?_⟩, apartGT np s⟩
      obtain ⟨a, _, e1, _, e3, _⟩ := rp.ow i ds' o
      rw [e] at e1; cases e1
      rw [np] at e3; cases e3
  · obtain ⟨env', e1, e2⟩ := bindS e
    cases e2
    refine ⟨rfl, rfl, ?_⟩
    cases fr with
    | false =>
      exact ⟨O.none, (rp.freezeAll s (fun _ h => h.elim) e1).1, ret, ⟨fun b u h n => s.keep b u h fun ps e => n (.inr ⟨ps, e⟩), fun b h => h.elim, rfl, s.tb⟩⟩
    | true =>
      obtain ⟨p, xs, ds, rfl, rfl, np, hp, hx⟩ := ret
      obtain ⟨rp', nown⟩ := rp.freezeAll (m := fun b => b = p) s (fun b z => by rw [z]; exact np) e1
      exact ⟨⟨fun b => b = p, O.z⟩, rp', ⟨p, xs, ds, rfl, rfl, ⟨rfl, fun z => (rp.zt p z).1 np⟩, hp, hx, fun i o => (nown i o).elim⟩, ⟨fun b u h n => s.keep b u h fun ps e => n (.inr ⟨ps, e⟩), fun b h => .inr (by rw [h]; exact np), rfl, s.tb⟩⟩
theorem RHs.length {σ vs hs} (h : RHs K H O σ vs hs) : vs.length = hs.length := by
  induction h with
  | nil => rfl
  | cons _ _ ih => rw [List.length_cons, List.length_cons, ih]
def callF (g : List PyData → Option (PyData × Bool)) (fs : En → Option (List Hd × En)) : En → Rs := fun e => (fs e).bind fun x => (fetchs x.2 x.1).bind fun ds => (g ds).bind fun r => aft r.1 r.2 x.2
theorem call_in {np : Nat} {g : List PyData → Option (PyData × Bool)} {fs : En → Option (List Hd × En)} (ln : ∀ env hs env', fs env = some (hs, env') → hs.length = np) (σ : L2.St) (H : Hp) (Q : VK) (h : tE X.K (callF g fs) σ H Q) : tCall (spF X.K np g) [] E0 (tHs X.K fs) σ H Q := by
  obtain ⟨O, env, d, fr, env', rp, e1, q⟩ := h
  obtain ⟨⟨hs, en⟩, x1, e1⟩ := bindS e1
  obtain ⟨ds, x2, e1⟩ := bindS e1
  obtain ⟨⟨d', fr'⟩, x3, e1⟩ := bindS e1
  refine ⟨O, env, hs, _, rp, x1, fun vs H1 O1 rp1 rhs g1 => ?_⟩
  have hl := rhs.length
  refine ⟨by rw [List.append_nil, hl]; exact ln _ _ _ x1, O1.z, ds, d', fr', fun b hb => (rp1.zt b hb).1, by rw [List.append_nil]; exact (rhs.fetch rp1 x2).rds, rp1.tb, x3, fun v H' s ret => ?_⟩
  obtain ⟨z1, z2, O2, rp2, res, g2⟩ := aft_ok rp1 s ret e1
  simp only at z1 z2 rp2 res
  subst z1 z2
  exact q v H' O2 rp2 res (g1.trans g2)
theorem g_call {np k : Nat} {g : List PyData → Option (PyData × Bool)} {fs : En → Option (List Hd × En)} {x : PySem.Str} {p : Pos} {fad : Addr} {fd : FuncData} {ps : List PySem.Str} (F : FnOk X.prog X.w X.K X.mg X.base CX0 k fad fd ps (spF X.K np g)) (hr : Room k X.A) (hg : Gl X x) (hm : X.mg x = some (.ref fad))
    (hk : PySem.W.keepIn X.K (.ref fad) = true) (hb : Binds X.K fd ps []) (ln : ∀ env hs env', fs env = some (hs, env') → hs.length = np) (gs : PA X (e :: es) (tHs X.K fs)) (hp : (e :: es).all plainE = true) (hd : (x == ("__debug__" : PySem.Str)) = false) : PE X (.Call (.Name x p) (e :: es) [] pos) (tE X.K (callF g fs)) := by
  have h' := Bool.and_eq_true_iff.mp (show (plainE e && es.all plainE) = true from hp)
  exact peimp (pe_call F hr hg hm hk hb .nil pass0 gs hd (star_plain h'.1 _ _) (back_plain _ _ h'.2)) (call_in ln)
theorem g_call0 {k : Nat} {g : List PyData → Option (PyData × Bool)} {x : PySem.Str} {p : Pos} {fad : Addr} {fd : FuncData} {ps : List PySem.Str} (F : FnOk X.prog X.w X.K X.mg X.base CX0 k fad fd ps (spF X.K 0 g)) (hr : Room k X.A) (hg : Gl X x) (hm : X.mg x = some (.ref fad))
    (hk : PySem.W.keepIn X.K (.ref fad) = true) (hb : Binds X.K fd ps []) (hd : (x == ("__debug__" : PySem.Str)) = false) : PE X (.Call (.Name x p) [] [] pos) (tE X.K (callF g fun en => some ([], en))) := by
  refine peimp (pe_call0 F hr hg hm hk hb .nil pass0 hd) fun σ H Q h => ?_
  obtain ⟨O, env, hs, env', rp, x1, q⟩ := call_in (np := 0) (fun env hs env' h => by cases h; rfl) σ H Q h
  cases x1
  exact q [] H O rp .nil .refl

/-! ### an own list is written -/
theorem Rep.write {σ env i ds a xs xs' ds'} (rp : Rep K H O σ env) (e : env[i]? = some (.ow ds)) (ea : σ[i]? = some (some (.ref a))) (ha : H a = some (.lst xs)) (hr : RDs K H O xs' ds') : Rep K (upd H a (.lst xs')) O σ (env.set i (.ow ds')) ∧ G O H O (upd H a (.lst xs')) := by
  obtain ⟨a', _, q1, q2, q3, _⟩ := rp.ow i ds (.inl e)
  rw [ea] at q1; cases q1
  have g : G O H O (upd H a (.lst xs')) := ⟨fun b u h n => by
    by_cases z : b = a
    · subst z
      rw [ha] at h; cases h
      exact (n (.inl ⟨q2.1, _, rfl⟩)).elim
    · rw [upd_ne z]; exact h, fun b h => .inl h, rfl, fun b ps h => ⟨ps, by rw [upd_ne (fun z => by rw [z, ha] at h; cases h)]; exact h, id⟩⟩
  have hi : i < env.length := (List.getElem?_eq_some_iff.mp e).1
  have own : ∀ j, Own (env.set i (.ow ds')) j → Own env j := fun j ⟨d, o⟩ => by
    rcases o with o | o
    · rcases get_set o with ⟨rfl, _⟩ | ⟨_, o⟩
      · exact ⟨_, .inl e⟩
      · exact ⟨_, .inl o⟩
    · rcases get_set o with ⟨rfl, _⟩ | ⟨_, o⟩
      · exact ⟨_, .inl e⟩
      · exact ⟨_, .inr o⟩
  refine ⟨⟨by rw [List.length_set]; exact rp.len, fun j d h => ?_, fun j d h => ?_, fun j k b hj hk => rp.inj j k b (own j hj) (own k hk), fun b hb => ⟨?_, (rp.zt b hb).2⟩, fun P h => (rp.tb P h).upd fun z => (rp.tb P h).ne ha (fun ps e => by cases e) z.symm⟩, g⟩
  · rcases get_set h with ⟨_, z⟩ | ⟨_, h⟩
    · cases z
    · obtain ⟨v, h1, h2⟩ := rp.sh j d h
      exact ⟨v, h1, h2.mono g.to⟩
  · have alt : (j = i ∧ d = ds') ∨ (j ≠ i ∧ (env[j]? = some (Sl.ow d) ∨ env[j]? = some (Sl.lk d))) := by
      rcases h with h | h
      · rcases get_set h with ⟨z, y⟩ | ⟨n, h⟩
        · cases y; exact .inl ⟨z, rfl⟩
        · exact .inr ⟨n, .inl h⟩
      · rcases get_set h with ⟨z, y⟩ | ⟨n, h⟩
        · cases y
        · exact .inr ⟨n, .inr h⟩
    rcases alt with ⟨rfl, rfl⟩ | ⟨n, o⟩
    · exact ⟨a, xs', ea, q2, upd_same, hr.mono g.to⟩
    · obtain ⟨b, ys, h1, h2, h3, h4⟩ := rp.ow j d o
      have nb : b ≠ a := fun z => by
        subst z
        exact n (rp.inj j i _ ⟨_, o⟩ ⟨_, .inl e⟩ h1 ea)
      exact ⟨b, ys, h1, h2, by rw [upd_ne nb]; exact h3, h4.mono g.to⟩
  · by_cases z : b = a
    · subst z
      exact fun e => by rw [upd_same] at e; cases e
    · rw [upd_ne z]; exact (rp.zt b hb).1
variable {i : Nat} {apos : Pos}
theorem RDs.last {ds xs d} (h : RDs K H O xs ds) (e : ds.getLast? = some d) : ∃ v, xs[xs.length - 1]? = some v ∧ RD K H O v d := by
  rw [List.getLast?_eq_getElem?, ← h.length] at e
  exact h.get e
theorem g_pop (hv : PE X a (tVar i)) (hbase : attributeBase a "pop" X.env (eval a X.env) = eval a X.env) (hline : (apos.endLine == pos.line) = true) : PE X (.Call (.Attribute a "pop" apos) [] [] pos) (tE X.K (fun e => match e[i]? with
    | some (.ow ds) => (ds.getLast?).bind fun d => some (d, false, e.set i (.ow ds.dropLast))
    | _ => none)) := by
  refine peimp (pe_bm0 PySem.F.plainAttrs_list PySem.F.slot_list_pop PySem.F.type_list_pop mt_pop hv hbase hline) fun σ H Q ⟨O, env, d, fr, env', rp, e1, q⟩ => ?_
  simp only at e1
  split at e1
  · rename_i ds hs
    obtain ⟨d1, x1, e1⟩ := bindS e1
    cases e1
    obtain ⟨p, xs, h1, h2, h3, h4⟩ := rp.ow i ds (.inl hs)
    obtain ⟨v, z1, z2⟩ := h4.last x1
    have w := rp.write hs h1 h3 h4.dropLast
    exact ⟨_, h1, .inl ⟨rfl, _, .of h3⟩, p, xs, v, rfl, rfl, h3, z1, q v _ O w.1 (z2.mono w.2.to) w.2⟩
  · cases e1
theorem ixN_bounds {n : Nat} {k : Int} {j : Nat} (hn : n ≤ sizeLine) (h : L2.ixN n k = some j) : seqIndex? k n = some j ∧ j < n ∧ -(2 ^ 63) ≤ k ∧ k < 2 ^ 63 := by
  obtain ⟨h1, h2, h3, h4⟩ := ixN_seq h
  rw [sizeLine_eq] at hn
  exact ⟨h1, h2, by omega, by omega⟩
def rPopN : V → List V → Hp → VK → Prop := fun x vs H Q => ∃ l xs i k y, x = .ref l ∧ vs = [.int i] ∧ H l = some (.lst xs) ∧ L2.ixN xs.length i = some k ∧ xs[k]? = some y ∧ Q y (upd H l (.lst (xs.eraseIdx k)))
theorem mt_popN : MtM X "list.pop" rPopN := by
  intro pins s σ H x vs v us Q I rx rv ⟨l, xs, i, k, y, e1, e2, hH, hk, hy, q⟩
  obtain ⟨z, _⟩ := I.lstM hH
  obtain ⟨h1, h2, h3, h4⟩ := ixN_bounds z hk
  exact mt_popAt pins s σ H x vs v us Q I rx rv ⟨l, xs, i, k, y, e1, e2, hH, h3, h4, h1, hy, q⟩
def popF (i : Nat) (fa : En → Option (Hd × En)) : En → Rs := fun e => match e[i]? with
    | some (.ow _) => (fa e).bind fun x => (fetch x.2 x.1).bind fun d => (intOf d).bind fun k => match x.2[i]? with
      | some (.ow ds) => (L2.ixN ds.length k).bind fun j => (ds[j]?).bind fun d => some (d, false, x.2.set i (.ow (ds.eraseIdx j)))
      | _ => none
    | _ => none
theorem few_plain (hp : plainE b = true) {cpos : Pos} : ((backTo cpos (starEach [b] X.env)).all (fun x => !x.1) && (backToKw cpos (keywordEach [] X.env)).all (fun x => x.1.isSome)
      && decide (([b] : List Expr).length + ([] : List Keyword).length + (if ([] : List Keyword).isEmpty then 0 else 1) < 30)) = true := by
  rw [star_plain hp]; rfl
theorem g_popAt (hv : PE X a (tVar i)) (gb : PE X b (tH X.K fb)) (hp : plainE b = true) (hbase : attributeBase a "pop" X.env (eval a X.env) = eval a X.env) (hline : (apos.endLine == pos.line) = true) : PE X (.Call (.Attribute a "pop" apos) [b] [] pos) (tE X.K (popF i fb)) := by
  refine peimp (pe_bm PySem.F.plainAttrs_list PySem.F.slot_list_pop PySem.F.type_list_pop mt_popN hv (pa_cons gb pa_nil (star_plain hp _ _)) hbase (few_plain hp) hline (star_plain hp _ _) rfl) fun σ H Q ⟨O, env, d, fr, env', rp, e1, q⟩ => ?_
  unfold popF at e1
  split at e1
  · rename_i ds0 hs0
    obtain ⟨p, xs0, p1, p2, p3, p4⟩ := rp.ow i ds0 (.inl hs0)
    obtain ⟨⟨h, en⟩, x1, e1⟩ := bindS e1
    obtain ⟨d1, x2, e1⟩ := bindS e1
    obtain ⟨k, x3, e1⟩ := bindS e1
    simp only at e1
    split at e1
    · rename_i ds hs
      obtain ⟨j, x4, e1⟩ := bindS e1
      obtain ⟨d2, x5, e1⟩ := bindS e1
      cases e1
      refine ⟨_, p1, .inl ⟨rfl, _, .of p3⟩, O, env, h, en, rp, x1, fun v H1 O1 rp1 rh1 g1 => ?_⟩
      have rf := rh1.fetch rp1 x2
      cases d1 <;> cases x3
      cases rf.int
      obtain ⟨p', xs, h1, h2, h3, h4⟩ := rp1.ow i ds (.inl hs)
      rw [p1] at h1; cases h1
      obtain ⟨y, z1, z2⟩ := h4.get x5
      have w := rp1.write hs p1 h3 (h4.eraseIdx j)
      exact ⟨p, xs, _, j, y, rfl, rfl, h3, by rw [h4.length]; exact x4, z1, q y _ O1 w.1 (z2.mono w.2.to) (g1.trans w.2)⟩
    · cases e1
  · cases e1
end
end RV

namespace RV
open PySem PySem.Spec PyProof.Rows L2
variable [Tb]
section
variable {w : Bool} {X : Cx} {tg e a b c : Expr} {es rest : List Expr} {pos : Pos} {fa fb fc : En → Option (Hd × En)} {f f1 f2 : En → Rs} {K : PySem.W.Frag} {H H' : Hp} {O O' : OZ}

/-! ### locked lists -/
/-- what is locked stays, and its name too -/
def LkS (e1 : En) (σ1 : L2.St) (e2 : En) (σ2 : L2.St) : Prop := ∀ (j : Nat) (dl : List PyData), e1[j]? = some (Sl.lk dl) → e2[j]? = some (Sl.lk dl) ∧ σ2[j]? = σ1[j]?
theorem LkS.refl {e : En} {σ : L2.St} : LkS e σ e σ := fun _ _ h => ⟨h, rfl⟩
theorem LkS.trans {e1 e2 e3 : En} {s1 s2 s3 : L2.St} (a : LkS e1 s1 e2 s2) (b : LkS e2 s2 e3 s3) : LkS e1 s1 e3 s3 := fun j dl h => by
  obtain ⟨h1, h2⟩ := a j dl h
  obtain ⟨h3, h4⟩ := b j dl h1
  exact ⟨h3, h4.trans h2⟩
/-- an own list is locked, a locked one set free -/
theorem Rep.kind {σ : L2.St} {env env' : En} (rp : Rep K H O σ env) (len : env'.length = env.length)
    (sh : ∀ (j : Nat) (d : PyData), env'[j]? = some (Sl.sh d) → env[j]? = some (Sl.sh d)) (ow : ∀ (j : Nat) (ds : List PyData), (env'[j]? = some (Sl.ow ds) ∨ env'[j]? = some (Sl.lk ds)) → (env[j]? = some (Sl.ow ds) ∨ env[j]? = some (Sl.lk ds))) : Rep K H O σ env' where
  len := len.trans rp.len
  sh := fun j d h => rp.sh j d (sh j d h)
  ow := fun j ds h => rp.ow j ds (ow j ds h)
  inj := fun i j a ⟨d, hi⟩ ⟨d', hj⟩ => rp.inj i j a ⟨d, ow i d hi⟩ ⟨d', ow j d' hj⟩
  zt := rp.zt
  tb := rp.tb
theorem Rep.lock {σ : L2.St} {env : En} (rp : Rep K H O σ env) (h : Hd) : Rep K H O σ (lock h env).2 := by
  unfold RV.lock
  cases h with
  | val d => exact rp
  | slot i =>
    simp only
    split
    · rename_i ds hs
      refine rp.kind (by simp) (fun j d q => ?_) fun j ds' q => ?_
      · rcases get_set q with ⟨_, z⟩ | ⟨_, q⟩
        · cases z
        · exact q
      · rcases q with q | q
        · rcases get_set q with ⟨_, z⟩ | ⟨_, q⟩
          · cases z
          · exact .inl q
        · rcases get_set q with ⟨rfl, z⟩ | ⟨_, q⟩
          · cases z; exact .inl hs
          · exact .inr q
    · exact rp
theorem Rep.unl {σ : L2.St} {env : En} (rp : Rep K H O σ env) (i : Nat) : Rep K H O σ (unl i env) := by
  unfold RV.unl
  split
  · rename_i ds hs
    refine rp.kind (by simp) (fun j d q => ?_) fun j ds' q => ?_
    · rcases get_set q with ⟨_, z⟩ | ⟨_, q⟩
      · cases z
      · exact q
    · rcases q with q | q
      · rcases get_set q with ⟨rfl, z⟩ | ⟨_, q⟩
        · cases z; exact .inr hs
        · exact .inl q
      · rcases get_set q with ⟨_, z⟩ | ⟨_, q⟩
        · cases z
        · exact .inr q
  · exact rp
theorem Rep.unls {σ : L2.St} : ∀ {l : List Nat} {env : En}, Rep K H O σ env → Rep K H O σ (unls l env)
  | [], _, rp => rp
  | i :: r, _, rp => Rep.unls (l := r) (rp.unl i)

/-! ### what a loop walks -/
/-- an item: a value, or a pair made for the turn -/
def RW (K : PySem.W.Frag) (H : Hp) (O : OZ) (v : V) (d : PyData) : Prop := RD K H O v d ∨ ∃ a xs ds, v = .ref a ∧ d = .tuple ds ∧ SqT K H a xs ∧ RDs K H O xs ds
/-- w: pairs made for the turn may come -/
def RI (w : Bool) (K : PySem.W.Frag) (H : Hp) (O : OZ) (v : V) (d : PyData) : Prop := if w = true then RW K H O v d else RD K H O v d
theorem RI.of {w v d} (h : RD K H O v d) : RI w K H O v d := by
  cases w with
  | false => exact h
  | true => exact Or.inl h
structure ItOk (w : Bool) (K : PySem.W.Frag) (J : It) (env1 : En) (σ : L2.St) (ds : List PyData) (O1 : OZ) (H1 : Hp) : Prop where
  go : ∀ (i : Nat) (H2 : Hp) (O2 : OZ) (env2 : En) (σ2 : L2.St) (d : PyData), Rep K H2 O2 σ2 env2 → M O1 H1 O2 H2 → LkS env1 σ env2 σ2 → ds[i]? = some d → J.go i H2 ∧ ∀ x H3, J.yld i H2 x H3 → Same H2 H3 ∧ RI w K H3 O2 x d
  stop : ∀ (i : Nat) (H2 : Hp) (O2 : OZ) (env2 : En) (σ2 : L2.St), Rep K H2 O2 σ2 env2 → M O1 H1 O2 H2 → LkS env1 σ env2 σ2 → ds.length ≤ i → i ≤ ds.length → J.stop i H2
def tI (w : Bool) (K : PySem.W.Frag) (f : En → Option (List PyData × List Nat × En)) : TI := fun σ H R => ∃ (O : OZ) (env : En) (ds : List PyData) (lks : List Nat) (env1 : En), Rep K H O σ env ∧ f env = some (ds, lks, env1) ∧
  ∀ J H' O', Rep K H' O' σ env1 → ItOk w K J env1 σ ds O' H' → G O H O' H' → R J H'
theorem piimp {t t' : TI} (h : PI X tg e t) (i : ∀ σ H R, t' σ H R → t σ H R) : PI X tg e t' := ⟨fun pins s σ H R I hq => h.run pins s σ H R I (i σ H R hq)⟩
/-- where a list, handed by a handle, stands later -/
theorem list_later {σ : L2.St} {env : En} {h : Hd} {v : V} {ds : List PyData} (rp : Rep K H O σ env) (rh : RH K H O σ v h) (e : fetch env h = some (.list ds)) : ∃ a, v = .ref a ∧ (∃ xs, H a = some (.lst xs)) ∧
    ∀ (H2 : Hp) (O2 : OZ) (env2 : En) (σ2 : L2.St), Rep K H2 O2 σ2 env2 → M O H O2 H2 → LkS (lock h env).2 σ env2 σ2 → ∃ xs, H2 a = some (.lst xs) ∧ RDs K H2 O2 xs ds := by
  have shared : RD K H O v (.list ds) → ∃ a, v = .ref a ∧ (∃ xs, H a = some (.lst xs)) ∧ ∀ (H2 : Hp) (O2 : OZ) (env2 : En) (σ2 : L2.St), Rep K H2 O2 σ2 env2 → M O H O2 H2 → LkS (lock h env).2 σ env2 σ2 → ∃ xs, H2 a = some (.lst xs) ∧ RDs K H2 O2 xs ds := fun r => by
    cases r with
    | lst ha ra => exact ⟨_, rfl, ⟨_, ha.2⟩, fun H2 O2 env2 σ2 _ g _ => ⟨_, (ha.mono g).2, ra.mono g⟩⟩
  cases h with
  | val d => cases e; exact shared rh
  | slot i =>
    have rh : σ[i]? = some (some v) := rh
    simp only [RV.fetch] at e
    split at e
    · rename_i d hs
      cases e
      obtain ⟨v', h1, h2⟩ := rp.sh i _ hs
      rw [rh] at h1; cases h1
      exact shared h2
    · rename_i ds' hs
      cases e
      obtain ⟨a, xs, h1, h2, h3, h4⟩ := rp.ow i ds (.inl hs)
      rw [rh] at h1; cases h1
      refine ⟨a, rfl, ⟨xs, h3⟩, fun H2 O2 env2 σ2 rp2 g lk => ?_⟩
      have hl : (RV.lock (.slot i) env).2[i]? = some (Sl.lk ds) := by
        unfold RV.lock
        simp only [hs]
        exact List.getElem?_set_self (List.getElem?_eq_some_iff.mp hs).1
      obtain ⟨k1, k2⟩ := lk i ds hl
      obtain ⟨a', xs', g1, g2, g3, g4⟩ := rp2.ow i ds (.inr k1)
      rw [k2, rh] at g1; cases g1
      exact ⟨xs', g3, g4⟩
    · rename_i ds' hs
      cases e
      obtain ⟨a, xs, h1, h2, h3, h4⟩ := rp.ow i ds (.inr hs)
      rw [rh] at h1; cases h1
      refine ⟨a, rfl, ⟨xs, h3⟩, fun H2 O2 env2 σ2 rp2 g lk => ?_⟩
      have hl : (RV.lock (.slot i) env).2[i]? = some (Sl.lk ds) := by
        unfold RV.lock
        simp only [hs]
      obtain ⟨k1, k2⟩ := lk i ds hl
      obtain ⟨a', xs', g1, g2, g3, g4⟩ := rp2.ow i ds (.inr k1)
      rw [k2, rh] at g1; cases g1
      exact ⟨xs', g3, g4⟩
    · cases e
/-- a handle that holds no list: the value itself -/
theorem other_later {σ : L2.St} {env : En} {h : Hd} {v : V} {d : PyData} (n : ∀ ds, d ≠ .list ds) (rp : Rep K H O σ env) (rh : RH K H O σ v h) (e : fetch env h = some d) : RD K H O v d ∧ lock h env = ([], env) := by
  cases h with
  | val d => cases e; exact ⟨rh, rfl⟩
  | slot i =>
    have rh : σ[i]? = some (some v) := rh
    simp only [RV.fetch] at e
    split at e
    · rename_i d hs
      cases e
      obtain ⟨v', h1, h2⟩ := rp.sh i _ hs
      rw [rh] at h1; cases h1
      exact ⟨h2, by unfold RV.lock; simp only [hs]⟩
    · cases e; exact (n _ rfl).elim
    · cases e; exact (n _ rfl).elim
    · cases e
def seqF (fa : En → Option (Hd × En)) : En → Option (List PyData × List Nat × En) := fun e => (fa e).bind fun x => (fetch x.2 x.1).bind fun d => (itemsOf d).bind fun ds => some (ds, lock x.1 x.2)
theorem i_str_aux {pins : List (Addr × Obj)} {s1 : Shared} {σ : L2.St} {R : It → Hp → Prop} {env1 : En} {O1 : OZ} {H1 : Hp} {z : PySem.Str} {v : Value} (I1 : L2.Inv X pins σ H1 s1) (r1 : L2.RelV (.str z) v)
    (q : ItOk w X.K (Its z) env1 σ (z.cps.toList.map fun c => PyData.str ⟨#[c]⟩) O1 H1 → R (Its z) H1) : wpAny (model X.prog X.w) X.A (pyIter v) (PIE X pins σ tg R) X.xe s1 := by
  obtain ⟨t, rfl⟩ := r1
  have ok : ItOk w X.K (Its z) env1 σ (z.cps.toList.map fun c => PyData.str ⟨#[c]⟩) O1 H1 := {
    go := fun i H2 O2 env2 σ2 d rp2 g2 lk hd => by
      rw [List.getElem?_map] at hd
      cases hc : z.cps.toList[i]? with
      | none => rw [hc] at hd; cases hd
      | some c =>
        rw [hc] at hd
        cases hd
        have hc' : z.cps[i]? = some c := by rw [← Array.getElem?_toList]; exact hc
        refine ⟨(Array.getElem?_eq_some_iff.mp hc').1, fun x H3 ⟨z1, c', z2, z3⟩ => ?_⟩
        subst z1 z3
        rw [hc'] at z2; cases z2
        exact ⟨.refl _, .of (.str _)⟩
    stop := fun i H2 O2 env2 σ2 rp2 g2 lk hd _ => by
      rw [List.length_map] at hd
      show z.cps.size ≤ i
      simpa using hd }
  cases ha : z.cps.all (· < 128)
  · exact wpAny_pyIter_wide ha (pi_one (tk := s1.toks) I1 _ (turn_str _ z t "str_iterator" (.inr rfl)) ⟨_, Heap.get?_push_size _ rfl, rfl, rfl⟩ (q ok))
  · exact wpAny_pyIter_ascii ha (pi_one (tk := s1.toks) I1 _ (turn_str _ z t "str_ascii_iterator" (.inl rfl)) ⟨_, Heap.get?_push_size _ rfl, rfl, rfl⟩ (q ok))
theorem i_seq (ga : PE X e (tH X.K fa)) : PI X tg e (tI w X.K (seqF fa)) := by
  refine ⟨fun pins s σ H R I ⟨O, env, ds, lks, env1, rp, e1, q⟩ => ?_⟩
  obtain ⟨⟨h, en⟩, x1, e1⟩ := bindS e1
  obtain ⟨d, x2, e1⟩ := bindS e1
  obtain ⟨ds', x3, e1⟩ := bindS e1
  have e1' : ds' = ds ∧ lock h en = (lks, env1) := by
    have z : some (ds', lock h en) = some (ds, lks, env1) := e1
    cases hl : lock h en with
    | mk p1 p2 => rw [hl] at z; cases z; exact ⟨rfl, rfl⟩
  obtain ⟨rfl, hlk⟩ := e1'
  have henv1 : env1 = (lock h en).2 := by rw [hlk]
  refine thn (ga.run pins s σ H (fun v H1 => ∃ O1, Rep X.K H1 O1 σ en ∧ RH X.K H1 O1 σ v h ∧ G O H O1 H1) I ⟨O, env, h, en, rp, x1, fun v H1 O1 a b c => ⟨O1, a, b, c⟩⟩) fun v s1 ⟨x, H1, I1, r1, O1, rp1, rh1, g1⟩ => ?_
  have rp1' : Rep X.K H1 O1 σ env1 := by rw [henv1]; exact rp1.lock h
  unfold itemsOf at x3
  split at x3
  · cases x3
    obtain ⟨a, rfl, ⟨xs, hx⟩, lat⟩ := list_later rp1 rh1 x2
    cases r1
    obtain ⟨its, rv, p, hz⟩ := I1.list (.of hx)
    refine wpAny_pyIter_list p.isList ?_
    refine ⟨s1.heap.objs.size, [s1.heap.objs.size], _, _, H1, rfl, I1.kept (t' := s1.toks) fun b o e => Heap.get?_push_of_some _ e, turn_list a _, ⟨_, Heap.get?_push_size _ rfl, rfl, rfl⟩, fun b hb => ?_, q (Itl X.K a) H1 O1 rp1' ⟨?_, ?_⟩ g1⟩
    · have e : b = s1.heap.objs.size := by simpa using hb
      subst e
      exact I1.fpOk (Nat.le_refl _) (I1.hok.fresh (Nat.le_refl _))
    · intro i H2 O2 env2 σ2 d rp2 g2 lk hd
      obtain ⟨xs2, h1, h2⟩ := lat H2 O2 env2 σ2 rp2 g2 (by rw [henv1] at lk; exact lk)
      obtain ⟨y, k1, k2⟩ := h2.get hd
      refine ⟨⟨xs2, y, .of h1, k1⟩, fun x H3 ⟨z1, z2⟩ => ?_⟩
      subst z1
      refine ⟨.refl _, .of ?_⟩
      have := z2 xs2 (.of h1)
      rw [k1] at this; cases this; exact k2
    · intro i H2 O2 env2 σ2 rp2 g2 lk hd _
      obtain ⟨xs2, h1, h2⟩ := lat H2 O2 env2 σ2 rp2 g2 (by rw [henv1] at lk; exact lk)
      exact ⟨xs2, .of h1, by rw [h2.length]; exact hd⟩
  · cases x3
    obtain ⟨rd, -⟩ := other_later (by intro ds z; cases z) rp1 rh1 x2
    cases rd with
    | @tup a xs _ ha ra =>
    cases r1
    obtain ⟨its, rv, p, hz⟩ := I1.tuple ha.t
    refine wpAny_pyIter_tuple (show s1.heap.IsTuple a its.toArray from p) ?_
    refine ⟨s1.heap.objs.size, [s1.heap.objs.size], _, _, H1, rfl, I1.kept (t' := s1.toks) fun b o e => Heap.get?_push_of_some _ e, turn_tuple a _, ⟨_, Heap.get?_push_size _ rfl, rfl, rfl⟩, fun b hb => ?_, q (Itt X.K a) H1 O1 rp1' ⟨?_, ?_⟩ g1⟩
    · have e : b = s1.heap.objs.size := by simpa using hb
      subst e
      exact I1.fpOk (Nat.le_refl _) (I1.hok.fresh (Nat.le_refl _))
    · intro i H2 O2 env2 σ2 d rp2 g2 lk hd
      obtain ⟨y, k1, k2⟩ := (ra.mono g2).get hd
      refine ⟨⟨xs, y, (ha.mono g2).t, k1⟩, fun x H3 ⟨z1, z2⟩ => ?_⟩
      subst z1
      refine ⟨.refl _, .of ?_⟩
      have := z2 xs (ha.mono g2).t
      rw [k1] at this; cases this; exact k2
    · intro i H2 O2 env2 σ2 rp2 g2 lk hd _
      exact ⟨xs, (ha.mono g2).t, by rw [ra.length]; exact hd⟩
  · cases x3
    obtain ⟨rd, -⟩ := other_later (by intro ds z; cases z) rp1 rh1 x2
    cases rd
    exact i_str_aux I1 r1 fun ok => q _ H1 O1 rp1' ok g1
  · cases x3
def rng1F (fa : En → Option (Hd × En)) : En → Option (List PyData × List Nat × En) := fun e => (fa e).bind fun x => (fetch x.2 x.1).bind fun d => (intOf d).bind fun i => if rgOk i = true then some (rgD 0 i, [], x.2) else none
theorem it_rng {env : En} {σ : L2.St} {lo hi : Int} : ItOk w K (Itr lo (hi - lo).toNat) env σ (rgD lo hi) O H where
  go := fun i H2 O2 env2 σ2 d _ _ _ hd => by
    unfold rgD at hd
    rw [List.getElem?_map] at hd
    by_cases hi' : i < (hi - lo).toNat
    · rw [List.getElem?_range hi'] at hd
      cases hd
      exact ⟨hi', fun x H3 ⟨z1, z2⟩ => by subst z1 z2; exact ⟨.refl _, .of (.int _)⟩⟩
    · rw [List.getElem?_eq_none (by simpa using hi')] at hd; cases hd
  stop := fun i H2 O2 env2 σ2 _ _ _ hd _ => by
    unfold rgD at hd
    rw [List.length_map, List.length_range] at hd
    exact hd
theorem i_rng1 {p : Pos} (hg : Gl X "range") (hm : X.mg "range" = none) (ga : PE X a (tH X.K fa)) (hp : plainE a = true) : PI X tg (.Call (.Name "range" p) [a] [] pos) (tI w X.K (rng1F fa)) := by
  refine piimp (pi_range1 hg hm (pa_cons ga pa_nil (star_plain hp _ _)) (star_plain hp _ _)) fun σ H R ⟨O, env, ds, lks, env1, rp, e1, q⟩ => ?_
  obtain ⟨⟨h, en⟩, x1, e1⟩ := bindS e1
  obtain ⟨d, x2, e1⟩ := bindS e1
  obtain ⟨j, x3, e1⟩ := bindS e1
  by_cases hz : rgOk j = true
  rotate_left
  · rw [if_neg hz] at e1; cases e1
  rw [if_pos hz] at e1
  cases e1
  refine ⟨O, env, h, _, rp, x1, fun v H1 O1 rp1 rh1 g1 => ?_⟩
  have rf := rh1.fetch rp1 x2
  cases d <;> cases x3
  cases rf.int
  have hz := of_decide_eq_true hz
  refine ⟨j, rfl, hz.1, hz.2, ?_⟩
  have := q (Itr 0 (j - 0).toNat) H1 O1 rp1 it_rng g1
  rw [Int.sub_zero] at this
  exact this
def rng2F (fa fb : En → Option (Hd × En)) : En → Option (List PyData × List Nat × En) := fun e => (fa e).bind fun x => (fb x.2).bind fun y => (fetch y.2 x.1).bind fun d => (intOf d).bind fun i => (fetch y.2 y.1).bind fun d' => (intOf d').bind fun j =>
      if rgOk i = true ∧ rgOk j = true then some (rgD i j, [], y.2) else none
theorem i_rng2 {p : Pos} (hg : Gl X "range") (hm : X.mg "range" = none) (ga : PE X a (tH X.K fa)) (gb : PE X b (tH X.K fb)) (hp : plainE a = true) (hp2 : plainE b = true) : PI X tg (.Call (.Name "range" p) [a, b] [] pos) (tI w X.K (rng2F fa fb)) := by
  refine piimp (pi_range2 hg hm (pa_cons ga (pa_cons gb pa_nil (star_plain hp2 _ _)) (star_plain hp _ _)) (by rw [star_plain hp, star_plain hp2]; rfl) (star_plain hp2 _ _)) fun σ H R ⟨O, env, ds, lks, env1, rp, e1, q⟩ => ?_
  obtain ⟨⟨h, en⟩, x1, e1⟩ := bindS e1
  obtain ⟨⟨h2, en2⟩, x2, e1⟩ := bindS e1
  obtain ⟨d, x3, e1⟩ := bindS e1
  obtain ⟨i, x4, e1⟩ := bindS e1
  obtain ⟨d2, x5, e1⟩ := bindS e1
  obtain ⟨j, x6, e1⟩ := bindS e1
  by_cases hz : rgOk i = true ∧ rgOk j = true
  rotate_left
  · rw [if_neg hz] at e1; cases e1
  rw [if_pos hz] at e1
  cases e1
  refine ⟨O, env, h, _, rp, x1, fun v H1 O1 rp1 rh1 g1 => ⟨O1, _, h2, _, rp1, x2, fun w H2 O2 rp2 rh2 g2 => ?_⟩⟩
  have rf := (rh1.mono g2.to).fetch rp2 x3
  have rf2 := rh2.fetch rp2 x5
  cases d <;> cases x4
  cases d2 <;> cases x6
  cases rf.int
  cases rf2.int
  have hz1 := of_decide_eq_true hz.1
  have hz2 := of_decide_eq_true hz.2
  exact ⟨i, j, rfl, ⟨hz1.1, hz1.2, hz2.1, hz2.2⟩, q _ H2 O2 rp2 it_rng (g1.trans g2)⟩
end
end RV

namespace RV
open PySem PySem.Spec PyProof.Rows L2
variable [Tb]
section
variable {X : Cx} {tg e a b c : Expr} {es rest : List Expr} {pos : Pos} {fa fb fc : En → Option (Hd × En)} {f f1 f2 : En → Rs} {K : PySem.W.Frag} {H H' : Hp} {O O' : OZ}

/-! ### a name gets a value -/
theorem stN_ok {σ : L2.St} {env env' : En} {i : Nat} {v : V} {d : PyData} {fr : Bool} (rp : Rep K H O σ env) (res : Res K H O σ env v d fr) (e : stN i d fr env = some env') :
    Rep K H O (σ.set i (some v)) env' ∧ LkS env σ env' (σ.set i (some v)) := by
  unfold stN at e
  have key : ∀ s, env[i]? = some s → (∀ dl, s ≠ .lk dl) → some (env.set i (slOf fr d)) = some env' → Rep K H O (σ.set i (some v)) env' ∧ LkS env σ env' (σ.set i (some v)) := by
    intro s hs nl e
    have hi : i < env.length := (List.getElem?_eq_some_iff.mp hs).1
    have hiσ : i < σ.length := by rw [← rp.len]; exact hi
    have atσ : ∀ j, j ≠ i → (σ.set i (some v))[j]? = σ[j]? := fun j n => List.getElem?_set_ne (Ne.symm n)
    have lk : ∀ s', env' = env.set i s' → LkS env σ env' (σ.set i (some v)) := fun s' he j dl h => by
      have n : j ≠ i := fun z => by subst z; rw [hs] at h; cases h; exact nl dl rfl
      exact ⟨by rw [he, List.getElem?_set_ne (Ne.symm n)]; exact h, atσ j n⟩
    cases fr with
    | false =>
      have res : RD K H O v d := res
      have e' : env' = env.set i (.sh d) := by cases e; rfl
      refine ⟨?_, lk _ e'⟩
      subst e'
      have own : ∀ j, Own (env.set i (.sh d)) j → Own env j ∧ j ≠ i := fun j ⟨ds', o⟩ => by
        rcases o with o | o
        · rcases get_set o with ⟨_, z⟩ | ⟨n, o⟩
          · cases z
          · exact ⟨⟨_, .inl o⟩, n⟩
        · rcases get_set o with ⟨_, z⟩ | ⟨n, o⟩
          · cases z
          · exact ⟨⟨_, .inr o⟩, n⟩
      refine ⟨by simp [rp.len], fun j d' h => ?_, fun j ds h => ?_, fun j k a hj hk h1 h2 => ?_, rp.zt, rp.tb⟩
      · rcases get_set h with ⟨rfl, z⟩ | ⟨n, h⟩
        · cases z; exact ⟨v, List.getElem?_set_self hiσ, res⟩
        · rw [atσ j n]; exact rp.sh j d' h
      · obtain ⟨_, n⟩ := own j ⟨ds, h⟩
        rw [atσ j n]
        refine rp.ow j ds ?_
        rcases h with h | h
        · rcases get_set h with ⟨z, _⟩ | ⟨_, h⟩
          · exact (n z).elim
          · exact .inl h
        · rcases get_set h with ⟨z, _⟩ | ⟨_, h⟩
          · exact (n z).elim
          · exact .inr h
      · obtain ⟨o1, n1⟩ := own j hj
        obtain ⟨o2, n2⟩ := own k hk
        rw [atσ j n1] at h1
        rw [atσ k n2] at h2
        exact rp.inj j k a o1 o2 h1 h2
    | true =>
      obtain ⟨p, xs, ds, rfl, rfl, op, hp, hx, hn⟩ := res
      have e' : env' = env.set i (.ow ds) := by cases e; rfl
      refine ⟨?_, lk _ e'⟩
      subst e'
      have own : ∀ j, Own (env.set i (.ow ds)) j → j ≠ i → Own env j := fun j ⟨ds', o⟩ n => by
        rcases o with o | o
        · rcases get_set o with ⟨z, _⟩ | ⟨n, o⟩
          · exact (n z).elim
          · exact ⟨_, .inl o⟩
        · rcases get_set o with ⟨z, _⟩ | ⟨n, o⟩
          · exact (n z).elim
          · exact ⟨_, .inr o⟩
      refine ⟨by simp [rp.len], fun j d' h => ?_, fun j ds' h => ?_, fun j k a hj hk h1 h2 => ?_, rp.zt, rp.tb⟩
      · rcases get_set h with ⟨rfl, z⟩ | ⟨n, h⟩
        · cases z
        · rw [atσ j n]; exact rp.sh j d' h
      · by_cases n : j = i
        · subst n
          have z : ds' = ds := by
            rcases h with h | h
            · rcases get_set h with ⟨_, z⟩ | ⟨n, _⟩
              · cases z; rfl
              · exact (n rfl).elim
            · rcases get_set h with ⟨_, z⟩ | ⟨n, _⟩
              · cases z
              · exact (n rfl).elim
          subst z
          exact ⟨p, xs, List.getElem?_set_self hiσ, op, hp, hx⟩
        · rw [atσ j n]
          refine rp.ow j ds' ?_
          rcases h with h | h
          · rcases get_set h with ⟨z, _⟩ | ⟨_, h⟩
            · exact (n z).elim
            · exact .inl h
          · rcases get_set h with ⟨z, _⟩ | ⟨_, h⟩
            · exact (n z).elim
            · exact .inr h
      · by_cases nj : j = i
        · by_cases nk : k = i
          · exact nj.trans nk.symm
          · subst nj
            rw [List.getElem?_set_self hiσ] at h1
            cases h1
            rw [atσ k nk] at h2
            exact (hn k (own k hk nk) h2).elim
        · by_cases nk : k = i
          · subst nk
            rw [List.getElem?_set_self hiσ] at h2
            cases h2
            rw [atσ j nj] at h1
            exact (hn j (own j hj nj) h1).elim
          · rw [atσ j nj] at h1
            rw [atσ k nk] at h2
            exact rp.inj j k a (own j hj nj) (own k hk nk) h1 h2
  split at e
  · cases e
  · cases e
  · rename_i s hs nl
    exact key _ nl (fun dl z => hs dl z) e

/-! ### targets -/
mutual
def gT (K : PySem.W.Frag) : TN → TG
  | .nm i => gName i
  | .tup ts => gTup K ts.length (gTs K ts)
def gTs (K : PySem.W.Frag) : List TN → TGs
  | [] => gNil
  | t :: ts => gCons (gT K t) (gTs K ts)
end
mutual
def tsl : TN → List Nat
  | .nm i => [i]
  | .tup ts => tsls ts
def tsls : List TN → List Nat
  | [] => []
  | t :: ts => tsl t ++ tsls ts
end
def isTup : TN → Bool
  | .nm _ => false
  | .tup _ => true
mutual
theorem asN_g : ∀ (t : TN) {σ : L2.St} {env env' : En} {v : V} {d : PyData} {Q : L2.St → Hp → Prop}, Rep K H O σ env → RI (isTup t) K H O v d → asN t d false env = some env' →
    (∀ σ', Rep K H O σ' env' → LkS env σ env' σ' → (∀ j, j ∉ tsl t → σ'[j]? = σ[j]?) → Q σ' H) → gT K t v σ H Q
  | .nm i, σ, env, env', v, d, Q, rp, r, e, q => by
    have e : stN i d false env = some env' := by simpa only [asN] using e
    obtain ⟨h1, h2⟩ := stN_ok rp (fr := false) r e
    simp only [gT]
    exact q _ h1 h2 fun j n => List.getElem?_set_ne (by simpa [tsl, eq_comm] using n)
  | .tup ts, σ, env, env', v, d, Q, rp, r, e, q => by
    simp only [gT]
    have r' : ∃ a xs ds, v = .ref a ∧ d = .tuple ds ∧ SqT K H a xs ∧ RDs K H O xs ds := by
      rcases (show RW K H O v d from r) with r | r
      · cases d <;> simp [asN] at e
        cases r with | tup h1 h2 => exact ⟨_, _, _, rfl, rfl, h1.t, h2⟩
      · exact r
    obtain ⟨a, xs, ds, rfl, rfl, h1, h2⟩ := r'
    have e : asNs ts ds env = some env' := by simpa only [asN] using e
    refine ⟨a, xs, rfl, h1, ?_, asNs_g ts rp h2 e q⟩
    rw [h2.length]
    exact asNs_len ts e
theorem asNs_g : ∀ (ts : List TN) {σ : L2.St} {env env' : En} {vs : List V} {ds : List PyData} {Q : L2.St → Hp → Prop}, Rep K H O σ env → RDs K H O vs ds → asNs ts ds env = some env' →
    (∀ σ', Rep K H O σ' env' → LkS env σ env' σ' → (∀ j, j ∉ tsls ts → σ'[j]? = σ[j]?) → Q σ' H) → gTs K ts vs σ H Q
  | [], σ, env, env', vs, ds, Q, rp, r, e, q => by
    simp only [gTs]
    cases r with
    | nil => simp only [asNs] at e; cases e; exact ⟨rfl, q σ rp .refl fun _ _ => rfl⟩
    | cons a b => simp [asNs] at e
  | t :: ts, σ, env, env', vs, ds, Q, rp, r, e, q => by
    simp only [gTs]
    cases r with
    | nil => simp [asNs] at e
    | cons a b =>
      simp only [asNs] at e
      obtain ⟨env1, e1, e2⟩ := bindS e
      refine ⟨_, _, rfl, asN_g t rp (.of a) e1 fun σ1 rp1 lk1 n1 => asNs_g ts rp1 b e2 fun σ2 rp2 lk2 n2 => q σ2 rp2 (lk1.trans lk2) fun j hj => ?_⟩
      have hj' : j ∉ tsl t ∧ j ∉ tsls ts := by simpa [tsls] using hj
      rw [n2 j hj'.2, n1 j hj'.1]
theorem asNs_len : ∀ (ts : List TN) {env env' : En} {ds : List PyData}, asNs ts ds env = some env' → ds.length = ts.length
  | [], _, _, [], _ => rfl
  | [], _, _, _ :: _, e => by simp [asNs] at e
  | _ :: _, _, _, [], e => by simp [asNs] at e
  | t :: ts, _, _, d :: ds, e => by
    simp only [asNs] at e
    obtain ⟨env1, e1, e2⟩ := bindS e
    rw [List.length_cons, List.length_cons, asNs_len ts e2]
end
end
end RV

namespace RV
open PySem PySem.Spec PyProof.Rows L2
variable [Tb]
section
variable {X : Cx} {tg e a b c elt iter : Expr} {es rest : List Expr} {pos : Pos} {fa fb fc : En → Option (Hd × En)} {f f1 f2 : En → Rs} {K : PySem.W.Frag} {H H' : Hp} {O O' : OZ}

/-! ### a block's own names -/
theorem wip_get : ∀ (own : List Nat) (e : En) (j : Nat), (wip own e)[j]? = if j ∈ own ∧ j < e.length then some .un else e[j]?
  | [], e, j => by simp [wip]
  | i :: r, e, j => by
    unfold wip
    have ih := wip_get r e j
    have len : ∀ (r : List Nat) (e : En), (wip r e).length = e.length := fun r => by
      induction r with
      | nil => intro e; rfl
      | cons i r ih => intro e; unfold wip; rw [List.length_set, ih]
    by_cases h : j = i
    · subst h
      by_cases l : j < e.length
      · rw [List.getElem?_set_self (by rw [len]; exact l), if_pos ⟨by simp, l⟩]
      · rw [List.getElem?_eq_none (by rw [List.length_set, len]; omega), if_neg (fun z => l z.2), List.getElem?_eq_none (by omega)]
    · rw [List.getElem?_set_ne (Ne.symm h), ih]
      by_cases hr : j ∈ r ∧ j < e.length
      · rw [if_pos hr, if_pos ⟨by simp [hr.1], hr.2⟩]
      · rw [if_neg hr, if_neg (fun z => hr ⟨by simpa [h] using z.1, z.2⟩)]
theorem wip_len : ∀ (own : List Nat) (e : En), (wip own e).length = e.length
  | [], _ => rfl
  | i :: r, e => by unfold wip; rw [List.length_set, wip_len]
theorem wipe_get : ∀ (own : List Nat) (σ : L2.St) (j : Nat), (L2.wipe σ own)[j]? = if j ∈ own ∧ j < σ.length then some none else σ[j]?
  | [], σ, j => by simp [L2.wipe]
  | i :: r, σ, j => by
    unfold L2.wipe
    have ih := wipe_get r σ j
    by_cases h : j = i
    · subst h
      by_cases l : j < σ.length
      · rw [List.getElem?_set_self (by rw [L2.wipe_length]; exact l), if_pos ⟨by simp, l⟩]
      · rw [List.getElem?_eq_none (by rw [List.length_set, L2.wipe_length]; omega), if_neg (fun z => l z.2), List.getElem?_eq_none (by omega)]
    · rw [List.getElem?_set_ne (Ne.symm h), ih]
      by_cases hr : j ∈ r ∧ j < σ.length
      · rw [if_pos hr, if_pos ⟨by simp [hr.1], hr.2⟩]
      · rw [if_neg hr, if_neg (fun z => hr ⟨by simpa [h] using z.1, z.2⟩)]
/-- wiping again what differs at the own names alone -/
theorem wipe_eq {own : List Nat} {σ σ2 : L2.St} (hl : σ2.length = σ.length) (h : ∀ j, j ∉ own → σ2[j]? = (L2.wipe σ own)[j]?) : L2.wipe σ2 own = L2.wipe σ own := by
  apply List.ext_getElem?
  intro j
  rw [wipe_get own σ2 j]
  by_cases hj : j ∈ own
  · by_cases l : j < σ2.length
    · rw [if_pos ⟨hj, l⟩, wipe_get, if_pos ⟨hj, by omega⟩]
    · rw [if_neg (fun z => l z.2), wipe_get, if_neg (fun z => l (by omega)), List.getElem?_eq_none (by omega), List.getElem?_eq_none (by omega)]
  · rw [if_neg (fun z => hj z.1)]
    exact h j hj
theorem set_self {e : En} {i : Nat} {s : Sl} (h : e[i]? = some s) : e.set i s = e := by
  apply List.ext_getElem?
  intro j
  by_cases z : j = i
  · subst z; rw [List.getElem?_set_self (List.getElem?_eq_some_iff.mp h).1, h]
  · rw [List.getElem?_set_ne (Ne.symm z)]
/-- forgetting -/
theorem Rep.wip {σ : L2.St} {env : En} (rp : Rep K H O σ env) (own : List Nat) : Rep K H O (L2.wipe σ own) (wip own env) := by
  have ge : ∀ {j : Nat} {s : Sl}, s ≠ .un → (RV.wip own env)[j]? = some s → env[j]? = some s ∧ j ∉ own := fun {j s} n h => by
    rw [wip_get] at h
    split at h
    · cases h; exact (n rfl).elim
    · rename_i q
      refine ⟨h, fun z => q ⟨z, (List.getElem?_eq_some_iff.mp h).1⟩⟩
  have gσ : ∀ {j : Nat}, j ∉ own → (L2.wipe σ own)[j]? = σ[j]? := fun {j} n => by rw [wipe_get, if_neg fun z => n z.1]
  refine ⟨by rw [wip_len, L2.wipe_length]; exact rp.len, fun j d h => ?_, fun j ds h => ?_, fun i j a ⟨d, hi⟩ ⟨d', hj⟩ h1 h2 => ?_, rp.zt, rp.tb⟩
  · obtain ⟨h1, h2⟩ := ge (by intro z; cases z) h
    rw [gσ h2]; exact rp.sh j d h1
  · have h' : (env[j]? = some (Sl.ow ds) ∨ env[j]? = some (Sl.lk ds)) ∧ j ∉ own := by
      rcases h with h | h
      · obtain ⟨h1, h2⟩ := ge (by intro z; cases z) h; exact ⟨.inl h1, h2⟩
      · obtain ⟨h1, h2⟩ := ge (by intro z; cases z) h; exact ⟨.inr h1, h2⟩
    rw [gσ h'.2]; exact rp.ow j ds h'.1
  · have w : ∀ {k : Nat} {d : List PyData}, ((RV.wip own env)[k]? = some (Sl.ow d) ∨ (RV.wip own env)[k]? = some (Sl.lk d)) → Own env k ∧ k ∉ own := fun {k d} h => by
      rcases h with h | h
      · obtain ⟨h1, h2⟩ := ge (by intro z; cases z) h; exact ⟨⟨_, .inl h1⟩, h2⟩
      · obtain ⟨h1, h2⟩ := ge (by intro z; cases z) h; exact ⟨⟨_, .inr h1⟩, h2⟩
    obtain ⟨o1, n1⟩ := w hi
    obtain ⟨o2, n2⟩ := w hj
    rw [gσ n1] at h1
    rw [gσ n2] at h2
    exact rp.inj i j a o1 o2 h1 h2
theorem Rep.fzO {σ : L2.St} : ∀ {own : List Nat} {env env' : En} {O : OZ}, Rep K H O σ env → fzO own env = some env' → ∃ O', Rep K H O' σ env' ∧ G O H O' H ∧ LkS env σ env' σ ∧ (∀ (j : Nat), j ∈ own → ∀ (dl : List PyData), env'[j]? ≠ some (Sl.lk dl) ∧ env'[j]? ≠ some (Sl.ow dl)) ∧ (∀ (j : Nat) (d : PyData), env[j]? = some (Sl.sh d) → env'[j]? = some (Sl.sh d))
  | [], env, env', O, rp, e => by cases e; exact ⟨O, rp, .refl, .refl, fun _ h => (by cases h), fun _ _ h => h⟩
  | i :: r, env, env', O, rp, e => by
    unfold RV.fzO at e
    have step : ∀ s, env[i]? = some s → (∀ dl, s ≠ .lk dl) → RV.fzO r (env.set i (frz s)) = some env' → ∃ O', Rep K H O' σ env' ∧ G O H O' H ∧ LkS env σ env' σ ∧ (∀ (j : Nat), j ∈ i :: r → ∀ (dl : List PyData), env'[j]? ≠ some (Sl.lk dl) ∧ env'[j]? ≠ some (Sl.ow dl)) ∧ (∀ (j : Nat) (d : PyData), env[j]? = some (Sl.sh d) → env'[j]? = some (Sl.sh d)) := by
      intro s hs nl e
      have hi : i < env.length := (List.getElem?_eq_some_iff.mp hs).1
      obtain ⟨O1, rp1, g1⟩ : ∃ O1, Rep K H O1 σ (env.set i (frz s)) ∧ G O H O1 H := by
        cases s with
        | lk dl => exact (nl dl rfl).elim
        | un => refine ⟨O, ?_, .refl⟩; have : env.set i (frz .un) = env := by rw [show frz .un = .un from rfl]; exact set_self hs
                rw [this]; exact rp
        | sh d => refine ⟨O, ?_, .refl⟩; have : env.set i (frz (.sh d)) = env := by rw [show frz (.sh d) = .sh d from rfl]; exact set_self hs
                  rw [this]; exact rp
        | ow ds => obtain ⟨_, O1, _, h1, _, h2⟩ := rp.freeze hs; exact ⟨O1, h1, h2⟩
      have lk1 : LkS env σ (env.set i (frz s)) σ := fun j dl h => by
        refine ⟨?_, rfl⟩
        have n : j ≠ i := fun z => by subst z; rw [hs] at h; cases h; exact nl dl rfl
        rw [List.getElem?_set_ne (Ne.symm n)]; exact h
      obtain ⟨O2, rp2, g2, lk2, no2, sh2⟩ := Rep.fzO rp1 e
      refine ⟨O2, rp2, g1.trans g2, lk1.trans lk2, fun j hj dl => ?_, fun j d h => sh2 j d ?_⟩
      · by_cases hr : j ∈ r
        · exact no2 j hr dl
        · have hji : j = i := by simpa [hr] using hj
          subst hji
          -- the slot i stays what it became
          have keep : ∀ {own : List Nat} {e1 e2 : En}, RV.fzO own e1 = some e2 → ∀ t, (∀ dl, t ≠ .ow dl) → e1[j]? = some t → e2[j]? = some t := by
            intro own
            induction own with
            | nil => intro e1 e2 h t _ ht; cases h; exact ht
            | cons k own ih =>
              intro e1 e2 h t nt ht
              unfold RV.fzO at h
              split at h
              · cases h
              · cases h
              · rename_i s' _ hs'
                refine ih h t nt ?_
                by_cases z : j = k
                · subst z
                  rw [List.getElem?_set_self (List.getElem?_eq_some_iff.mp ht).1]
                  have hz : s' = t := by rw [ht] at hs'; cases hs'; rfl
                  subst hz
                  cases s' with
                  | ow dl => exact (nt dl rfl).elim
                  | un => rfl
                  | sh _ => rfl
                  | lk _ => rfl
                · rw [List.getElem?_set_ne (Ne.symm z)]; exact ht
          have ht := keep e (frz s) (fun dl z => by cases s <;> simp [frz] at z) (List.getElem?_set_self hi)
          rw [ht]
          constructor
          · intro z
            cases s with
            | lk dl => exact nl dl rfl
            | un => simp [frz] at z
            | sh _ => simp [frz] at z
            | ow _ => simp [frz] at z
          · intro z
            cases s <;> simp [frz] at z
      · by_cases z : j = i
        · subst z
          rw [hs] at h; cases h
          exact List.getElem?_set_self hi
        · rw [List.getElem?_set_ne (Ne.symm z)]; exact h
    split at e
    · cases e
    · cases e
    · rename_i s nl hs
      exact step s hs nl e
end
end RV

namespace RV
open PySem PySem.Spec PyProof.Rows L2
variable [Tb]
section
variable {X : Cx} {tg e a b c elt iter : Expr} {es rest : List Expr} {pos : Pos} {fa fb fc : En → Option (Hd × En)} {f f1 f2 : En → Rs} {K : PySem.W.Frag} {H H' : Hp} {O O' : OZ}
/-- locks are kept -/
def LkE (e1 e2 : En) : Prop := ∀ (j : Nat) (dl : List PyData), e1[j]? = some (Sl.lk dl) → e2[j]? = some (Sl.lk dl)
theorem LkE.refl {e : En} : LkE e e := fun _ _ h => h
theorem LkE.trans {a b c : En} (h : LkE a b) (g : LkE b c) : LkE a c := fun j d q => g j d (h j d q)
theorem LkE.s {e1 e2 : En} {σ : L2.St} (h : LkE e1 e2) : LkS e1 σ e2 σ := fun j d q => ⟨h j d q, rfl⟩

/-- a protected list is written -/
theorem prot_M {D : Addr} {xs xs' : List V} (hz : O.z D) (hD : H D = some (.lst xs)) : M O H O (upd H D (.lst xs')) where
  lst := fun b ys h n => ⟨by rw [upd_ne (fun z => n (.inr (by rw [z]; exact hz)))]; exact h, n⟩
  frz := fun b o u h => by rw [upd_ne (fun z => by rw [z, hD] at h; cases h)]; exact h
theorem Rep.prot {σ : L2.St} {env : En} {D : Addr} {xs xs' : List V} (rp : Rep K H O σ env) (hz : O.z D) (hD : H D = some (.lst xs)) : Rep K (upd H D (.lst xs')) O σ env where
  len := rp.len
  sh := fun i d h => let ⟨v, h1, h2⟩ := rp.sh i d h; ⟨v, h1, h2.mono (prot_M hz hD)⟩
  ow := fun i ds h => let ⟨a, ys, h1, h2, h3, h4⟩ := rp.ow i ds h; ⟨a, ys, h1, h2, by rw [upd_ne (fun z => h2.2 (by rw [z]; exact hz))]; exact h3, h4.mono (prot_M hz hD)⟩
  inj := rp.inj
  zt := fun b hb => by
    refine ⟨?_, (rp.zt b hb).2⟩
    by_cases z : b = D
    · rw [z, upd_same]
      intro e
      cases e
    · rw [upd_ne z]; exact (rp.zt b hb).1
  tb := fun P h => (rp.tb P h).upd fun z => (rp.tb P h).ne hD (fun ps e => by cases e) z.symm
theorem upd_self {D : Addr} {o : HO} (h : H D = some o) : upd H D o = H := by
  funext b
  by_cases z : b = D
  · subst z; rw [upd_same, h]
  · rw [upd_ne z]
/-- what was protected is an own list now -/
theorem Rep.release {σ : L2.St} {env : En} {D : Addr} {z : Addr → Prop} {O3 : OZ} (rp : Rep K H O3 σ env) (hz : O3.z = fun b => z b ∨ b = D) (nz : ¬ z D) : Rep K H ⟨fun b => O3.m b ∨ b = D, z⟩ σ env ∧ M O3 H ⟨fun b => O3.m b ∨ b = D, z⟩ H ∧ ∀ i, Own env i → σ[i]? ≠ some (some (V.ref D)) := by
  have m : M O3 H ⟨fun b => O3.m b ∨ b = D, z⟩ H := .less fun b h => by
    rcases h with (h | h) | h
    · exact .inl h
    · exact .inr (by rw [hz]; exact .inr h)
    · exact .inr (by rw [hz]; exact .inl h)
  refine ⟨⟨rp.len, fun i d h => ?_, fun i ds h => ?_, rp.inj, fun b hb => ?_, rp.tb⟩, m, fun i ⟨ds, o⟩ e => ?_⟩
  · obtain ⟨v, h1, h2⟩ := rp.sh i d h
    exact ⟨v, h1, h2.mono m⟩
  · obtain ⟨a, xs, h1, h2, h3, h4⟩ := rp.ow i ds h
    exact ⟨a, xs, h1, ⟨.inl h2.1, fun q => h2.2 (by rw [hz]; exact .inl q)⟩, h3, h4.mono m⟩
  · have h := rp.zt b (by rw [hz]; exact .inl hb)
    exact ⟨h.1, fun q => q.elim h.2 fun q => nz (by rw [← q]; exact hb)⟩
  · obtain ⟨a, xs, h1, h2, _⟩ := rp.ow i ds o
    rw [e] at h1; cases h1
    exact h2.2 (by rw [hz]; exact .inr rfl)
theorem prot_G {D : Addr} {O1 O2 : OZ} {H1 H2 : Hp} {xs xs' : List V} (g : G O1 H1 O2 H2) (hz : O1.z D) (h1 : H1 D = none) : G O1 H1 O2 (upd H2 D (.lst xs')) :=
  ⟨fun b u h n => by rw [upd_ne (fun z => by rw [z, h1] at h; cases h)]; exact g.keep b u h n, g.sub, g.zz, fun b ps h => let ⟨qs, h3, h4⟩ := g.tb b ps h; ⟨qs, by rw [upd_ne (fun z => by rw [z, h1] at h; cases h)]; exact h3, h4⟩⟩
theorem tb_upd {D : Addr} {H1 H2 : Hp} {xs ys zs : List V} (hD : H1 D = some (.lst zs)) (h : ∀ b ps, H1 b = some (.tbl ps) → ∃ qs, H2 b = some (.tbl qs) ∧ (TriplesOk ps.toList → TriplesOk qs.toList)) :
    ∀ b ps, upd H1 D (.lst xs) b = some (.tbl ps) → ∃ qs, upd H2 D (.lst ys) b = some (.tbl qs) ∧ (TriplesOk ps.toList → TriplesOk qs.toList) := fun b ps e => by
  have nb : b ≠ D := fun z => by rw [z, upd_same] at e; cases e
  rw [upd_ne nb] at e ⊢
  exact h b ps e
/-- set apart and protected -/
abbrev OZ.prot (O : OZ) (p : Addr) : OZ := ⟨O.m, fun b => O.z b ∨ b = p⟩
theorem add_M {D : Addr} {o : HO} (np : H D = none) : M O H (O.prot D) (upd H D o) where
  lst := fun b xs h n => ⟨by rw [upd_ne (ne_of_none h np)]; exact h, fun q => q.elim (fun q => n (.inl q)) fun q => q.elim (fun q => n (.inr q)) fun z => ne_of_none h np z⟩
  frz := fun b o u h => by rw [upd_ne (ne_of_none h np)]; exact h
theorem Rep.add {σ : L2.St} {env : En} {D : Addr} {xs : List V} (rp : Rep K H O σ env) (np : H D = none) (nm : ¬ O.m D) : Rep K (upd H D (.lst xs)) (O.prot D) σ env where
  len := rp.len
  sh := fun i d h => let ⟨v, h1, h2⟩ := rp.sh i d h; ⟨v, h1, h2.mono (add_M np)⟩
  ow := fun i ds h => let ⟨a, ys, h1, h2, h3, h4⟩ := rp.ow i ds h; ⟨a, ys, h1, ⟨h2.1, fun q => q.elim h2.2 fun z => ne_of_none h3 np z⟩, by rw [upd_ne (ne_of_none h3 np)]; exact h3, h4.mono (add_M np)⟩
  inj := rp.inj
  zt := fun b hb => by
    rcases hb with hb | hb
    · refine ⟨?_, (rp.zt b hb).2⟩
      rw [upd_ne (fun z => (rp.zt b hb).1 (by rw [z]; exact np))]
      exact (rp.zt b hb).1
    · subst hb
      refine ⟨?_, nm⟩
      rw [upd_same]
      intro e
      cases e
  tb := fun P h => (rp.tb P h).upd fun z => (rp.tb P h).nn np z
/-- an address that is not there is no own list's: it may be taken out of m -/
theorem Rep.clean {σ : L2.St} {env : En} {D : Addr} (rp : Rep K H O σ env) (np : H D = none) : Rep K H ⟨fun b => O.m b ∧ b ≠ D, O.z⟩ σ env ∧ G O H ⟨fun b => O.m b ∧ b ≠ D, O.z⟩ H := by
  refine ⟨rp.less (fun b h => h.1) fun i a ⟨ds, o⟩ h => ?_, G.less fun b h => h.1⟩
  obtain ⟨a', xs, h1, h2, h3, _⟩ := rp.ow i ds o
  rw [h] at h1; cases h1
  exact ⟨h2.1, ne_of_none h3 np⟩

theorem stN_len {i : Nat} {d : PyData} {fr : Bool} {e e' : En} (h : stN i d fr e = some e') : e'.length = e.length := by
  unfold stN at h
  split at h
  · cases h
  · cases h
  · cases h; simp
mutual
theorem asN_len : ∀ (t : TN) {d : PyData} {fr : Bool} {e e' : En}, asN t d fr e = some e' → e'.length = e.length
  | .nm i, d, fr, e, e', h => stN_len (by simpa only [asN] using h)
  | .tup ts, .tuple ds, fr, e, e', h => asNs_lenE ts (by simpa only [asN] using h)
  | .tup ts, .none, _, _, _, h => by simp [asN] at h
  | .tup ts, .bool _, _, _, _, h => by simp [asN] at h
  | .tup ts, .int _, _, _, _, h => by simp [asN] at h
  | .tup ts, .str _, _, _, _, h => by simp [asN] at h
  | .tup ts, .list _, _, _, _, h => by simp [asN] at h
  | .tup ts, .dict _, _, _, _, h => by simp [asN] at h
theorem asNs_lenE : ∀ (ts : List TN) {ds : List PyData} {e e' : En}, asNs ts ds e = some e' → e'.length = e.length
  | [], [], e, e', h => by simp only [asNs] at h; cases h; rfl
  | [], _ :: _, _, _, h => by simp [asNs] at h
  | _ :: _, [], _, _, h => by simp [asNs] at h
  | t :: ts, d :: ds, e, e', h => by
    simp only [asNs] at h
    obtain ⟨e1, h1, h2⟩ := bindS h
    rw [asNs_lenE ts h2, asN_len t h1]
end
def lcStep (ft : PyData → En → Option En) (fi : En → Option (Bool × En)) (fe : En → Rs) (own : List Nat) : PyData → En → Option (List PyData × En) := fun d e2 =>
  (ft d e2).bind fun e3 => (fi e3).bind fun b => if b.1 = true then (fe b.2).bind fun r => some ([r.1], wip own r.2.2) else some ([], wip own b.2)
def lcF (fi0 : En → Option (List PyData × List Nat × En)) (step : PyData → En → Option (List PyData × En)) (own : List Nat) : En → Rs := fun e => (fi0 e).bind fun x => (fzO own x.2.2).bind fun e1 =>
      (lcL step x.1 (wip own e1)).bind fun y => if y.1.length ≤ sizeLine then some (.list y.1, true, unls x.2.1 (rsto e1 own y.2)) else none
theorem rsto_get (e0 : En) : ∀ (own : List Nat) (e : En), e0.length = e.length → ∀ j, (rsto e0 own e)[j]? = if j ∈ own then e0[j]? else e[j]?
  | [], e, _, j => by simp [rsto]
  | i :: r, e, hl, j => by
    have len : ∀ (r : List Nat) (e : En), (rsto e0 r e).length = e.length := fun r => by
      induction r with
      | nil => intro e; rfl
      | cons i r ih => intro e; unfold rsto; split
                       · rw [List.length_set, ih]
                       · rw [ih]
    have ih := rsto_get e0 r e hl j
    unfold rsto
    split
    · rename_i s hs
      by_cases z : j = i
      · subst z
        rw [List.getElem?_set_self (by rw [len, ← hl]; exact (List.getElem?_eq_some_iff.mp hs).1), if_pos (by simp), hs]
      · rw [List.getElem?_set_ne (Ne.symm z), ih]
        by_cases hr : j ∈ r
        · rw [if_pos hr, if_pos (by simp [hr])]
        · rw [if_neg hr, if_neg (by simp [hr, z])]
    · rename_i hs
      rw [ih]
      by_cases hr : j ∈ r
      · rw [if_pos hr, if_pos (by simp [hr])]
      · rw [if_neg hr]
        by_cases z : j = i
        · subst z
          rw [if_pos (by simp), hs, List.getElem?_eq_none]
          have := List.getElem?_eq_none_iff.mp hs
          omega
        · rw [if_neg (by simp [hr, z])]
theorem rsto_len (e0 : En) : ∀ (own : List Nat) (e : En), (rsto e0 own e).length = e.length
  | [], _ => rfl
  | i :: r, e => by
    unfold rsto
    split
    · rw [List.length_set, rsto_len]
    · rw [rsto_len]
/-- the names come back -/
theorem Rep.rsto {σ : L2.St} {e1 e3 : En} {own : List Nat} {O1 O3 : OZ} {H1 H3 : Hp} (rp1 : Rep K H1 O1 σ e1) (rp3 : Rep K H3 O3 (L2.wipe σ own) e3) (m : M O1 H1 O3 H3) (no : ∀ (j : Nat), j ∈ own → ∀ (dl : List PyData), e1[j]? ≠ some (Sl.lk dl) ∧ e1[j]? ≠ some (Sl.ow dl)) :
    Rep K H3 O3 σ (rsto e1 own e3) := by
  have hl : e1.length = e3.length := by rw [rp1.len, rp3.len, L2.wipe_length]
  have gσ : ∀ {j : Nat}, j ∉ own → (L2.wipe σ own)[j]? = σ[j]? := fun {j} n => by rw [wipe_get, if_neg fun z => n z.1]
  have ow : ∀ (j : Nat) (ds : List PyData), ((RV.rsto e1 own e3)[j]? = some (Sl.ow ds) ∨ (RV.rsto e1 own e3)[j]? = some (Sl.lk ds)) → (e3[j]? = some (Sl.ow ds) ∨ e3[j]? = some (Sl.lk ds)) ∧ j ∉ own := fun j ds h => by
    rw [rsto_get e1 own e3 hl] at h
    by_cases hj : j ∈ own
    · rw [if_pos hj] at h
      rcases h with h | h
      · exact ((no j hj ds).2 h).elim
      · exact ((no j hj ds).1 h).elim
    · rw [if_neg hj] at h
      exact ⟨h, hj⟩
  refine ⟨by rw [rsto_len, ← hl]; exact rp1.len, fun j d h => ?_, fun j ds h => ?_, fun i j a ⟨d, hi⟩ ⟨d', hj⟩ h1 h2 => ?_, rp3.zt, rp3.tb⟩
  · rw [rsto_get e1 own e3 hl] at h
    by_cases hj : j ∈ own
    · rw [if_pos hj] at h
      obtain ⟨v, h1, h2⟩ := rp1.sh j d h
      exact ⟨v, h1, h2.mono m⟩
    · rw [if_neg hj] at h
      rw [← gσ hj]
      exact rp3.sh j d h
  · obtain ⟨h, hj⟩ := ow j ds h
    rw [← gσ hj]
    exact rp3.ow j ds h
  · obtain ⟨o1, n1⟩ := ow i d hi
    obtain ⟨o2, n2⟩ := ow j d' hj
    rw [← gσ n1] at h1
    rw [← gσ n2] at h2
    exact rp3.inj i j a ⟨_, o1⟩ ⟨_, o2⟩ h1 h2
theorem lc_in {t : TN} {own : List Nat} {fi0 : En → Option (List PyData × List Nat × En)} {fi : En → Option (Bool × En)} {fe : En → Rs}
    (hsl : ∀ j ∈ tsl t, j ∈ own) (lki : ∀ e b e', fi e = some (b, e') → LkE e e') (lke : ∀ e d fr e', fe e = some (d, fr, e') → LkE e e')
    (σ : L2.St) (H : Hp) (Q : VK) (h : tE K (lcF fi0 (lcStep (fun d e => asN t d false e) fi fe own) own) σ H Q) : tLc (tI (isTup t) K fi0) (gT K t) (tT K fi) (tE K fe) own σ H Q := by
  obtain ⟨O, env, d, fr, env', rp, e1, q⟩ := h
  obtain ⟨⟨ds, lks, env1⟩, x1, e1⟩ := bindS e1
  obtain ⟨e1', x2, e1⟩ := bindS e1
  obtain ⟨⟨outs, e3⟩, x3, e1⟩ := bindS e1
  simp only at x2 x3 e1
  split at e1
  rotate_left
  · cases e1
  rename_i hz
  cases e1
  refine ⟨O, env, ds, lks, env1, rp, x1, fun J H1 O1 rp1 itok g1 D nD => ?_⟩
  obtain ⟨Oa0, rpa0, ga0, lka, noa, _⟩ := Rep.fzO rp1 x2
  obtain ⟨rpa, gac⟩ := rpa0.clean nD
  generalize hOa : (⟨fun b => Oa0.m b ∧ b ≠ D, Oa0.z⟩ : OZ) = Oa at rpa gac
  have ga := ga0.trans gac
  have nmD : ¬ Oa.m D := by rw [← hOa]; exact fun q => q.2 rfl
  have nzD : ¬ Oa.z D := fun q => (rpa.zt D q).1 nD
  have rpb := (rpa.wip own).add (xs := []) nD nmD
  have mb : M O1 H1 (Oa.prot D) (upd H1 D (.lst [])) := ga.to.trans (add_M nD)
  have hDb : (Oa.prot D).z D := .inr rfl
  refine ⟨fun i m H3 => ∃ O3 env3 accD accV rest, m = ds.length - i ∧ i ≤ ds.length ∧ Rep K H3 O3 (L2.wipe σ own) env3 ∧ G (Oa.prot D) (upd H1 D (.lst [])) O3 (upd H3 D (.lst [])) ∧ M O1 H1 O3 H3 ∧ LkS env1 σ env3 (L2.wipe σ own) ∧ H3 D = some (.lst accV) ∧
    RDs K H3 O3 accV accD ∧ lcL (lcStep (fun d e => asN t d false e) fi fe own) (ds.drop i) env3 = some (rest, e3) ∧ outs = accD ++ rest, ⟨ds.length, Oa.prot D, wip own e1', [], [], outs, by simp, Nat.zero_le _, rpb, ?_, mb, ?_, upd_same, .nil, by simpa using x3, rfl⟩, ?_⟩
  · rw [upd_upd]; exact .refl
  · intro j dl hj
    obtain ⟨k1, _⟩ := lka j dl hj
    have nj : j ∉ own := fun z => (noa j z dl).1 k1
    exact ⟨by rw [wip_get, if_neg fun z => nj z.1]; exact k1, by rw [wipe_get, if_neg fun z => nj z.1]⟩
  · rintro i m H3 ⟨O3, env3, accD, accV, rest, rfl, hi, rp3, g3, m3, lk3, hD3, rds3, hl3, ho⟩
    have zD3 : O3.z D := by rw [g3.zz]; exact hDb
    have nmD3 : ¬ O3.m D := (rp3.zt D zD3).2
    by_cases hlt : i < ds.length
    · have hd : ds[i]? = some ds[i] := List.getElem?_eq_getElem hlt
      obtain ⟨jgo, jy⟩ := itok.go i H3 O3 env3 _ _ rp3 m3 lk3 hd
      refine .inr ⟨jgo, fun H4 => ∃ O4 env4 accD4 accV4 rest4, Rep K H4 O4 (L2.wipe σ own) env4 ∧ G (Oa.prot D) (upd H1 D (.lst [])) O4 (upd H4 D (.lst [])) ∧ M O1 H1 O4 H4 ∧ LkS env1 σ env4 (L2.wipe σ own) ∧ H4 D = some (.lst accV4) ∧
        RDs K H4 O4 accV4 accD4 ∧ lcL (lcStep (fun d e => asN t d false e) fi fe own) (ds.drop (i + 1)) env4 = some (rest4, e3) ∧ outs = accD4 ++ rest4, fun H4 ⟨O4, env4, accD4, accV4, rest4, p1, p2, p3, p4, p5, p6, p7, p8⟩ =>
          ⟨ds.length - (i + 1), by omega, O4, env4, accD4, accV4, rest4, rfl, hlt, p1, p2, p3, p4, p5, p6, p7, p8⟩, fun x H4 y => ?_⟩
      obtain ⟨s4, ri⟩ := jy x H4 y
      rw [List.drop_eq_getElem_cons hlt] at hl3
      obtain ⟨⟨o, env4⟩, s1, hl4⟩ := bindS (show ((lcStep (fun d e => asN t d false e) fi fe own) ds[i] env3).bind (fun x => (lcL _ (ds.drop (i + 1)) x.2).bind fun y => some (x.1 ++ y.1, y.2)) = _ from hl3)
      obtain ⟨⟨rest', e3'⟩, s2, hl5⟩ := bindS hl4
      cases hl5
      obtain ⟨en4, t1, s1⟩ := bindS s1
      obtain ⟨⟨b, en5⟩, t2, s1⟩ := bindS s1
      have rp4 := rp3.same s4
      refine asN_g t rp4 ri t1 fun σ2 rp5 lk5 n5 => ?_
      have hw : L2.wipe σ2 own = L2.wipe σ own := wipe_eq (by rw [← rp5.len, asN_len t t1, rp3.len, L2.wipe_length]) fun j hj => n5 j fun z => hj (hsl j z)
      refine ⟨hw, O3, en4, b, en5, rp5, t2, fun H5 O5 rp6 g5 => ?_⟩
      have hD4 : H4 D = some (.lst accV) := s4 _ _ hD3
      have hD5 : H5 D = some (.lst accV) := g5.keep _ _ hD4 (nMv (fun m => nmD3 m.1) fun ps z => by cases z)
      have lk6 : LkS env1 σ en5 σ2 := (lk3.trans lk5).trans (lki _ _ _ t2).s
      have fin : ∀ {e7 : En} {H7 : Hp} {O7 : OZ} {accV7 : List V}, Rep K H7 O7 σ2 e7 → LkS env1 σ e7 σ2 → Rep K H7 O7 (L2.wipe σ own) (wip own e7) ∧ LkS env1 σ (wip own e7) (L2.wipe σ own) := fun {e7 H7 O7 accV7} r l => by
        refine ⟨by rw [← hw]; exact r.wip own, fun j dl hj => ?_⟩
        obtain ⟨k1, k2⟩ := l j dl hj
        have nj : j ∉ own := fun z => (noa j z dl).1 (lka j dl hj).1
        exact ⟨by rw [wip_get, if_neg fun z => nj z.1]; exact k1, by rw [wipe_get, if_neg fun z => nj z.1]⟩
      have gg : G O3 H3 O5 H5 := (G.same s4).trans g5
      cases b with
      | true =>
        simp only [if_true] at s1 ⊢
        obtain ⟨⟨r, frr, en6⟩, t3, s1⟩ := bindS s1
        cases s1
        refine ⟨O5, en5, r, frr, en6, rp6, t3, fun y6 H6 O6 rp7 res g6 => ?_⟩
        obtain ⟨O7, rp8, rd8, g7⟩ := res.shared rp7
        have g8 : G O5 H5 O7 H6 := g6.trans g7
        have nmD5 : ¬ O5.m D := fun q => by
          have := g5.sub D q
          rw [hD4] at this
          exact this.elim nmD3 fun z => by cases z
        have hD6 : H6 D = some (.lst accV) := g8.keep _ _ hD5 (nMv (fun m => nmD5 m.1) fun ps z => by cases z)
        have zD7 : O7.z D := by rw [g8.zz, g5.zz]; exact zD3
        have gall : G O3 H3 O7 H6 := gg.trans g8
        refine ⟨accV, hD6, ?_, O7, wip own en6, accD ++ [r], accV ++ [y6], rest', ?_, ?_, ?_, ?_, upd_same, ?_, s2, ?_⟩
        · rw [rds3.length]
          have : outs.length = accD.length + ([r] ++ rest').length := by rw [ho, List.length_append]
          simp only [List.length_append, List.length_cons, List.length_nil] at this
          omega
        · exact ((fin (accV7 := []) rp8 (lk6.trans (lke _ _ _ _ t3).s)).1).prot zD7 hD6
        · rw [upd_upd]
          refine g3.trans ⟨fun b u h n => ?_, fun b hb => ?_, gall.zz, tb_upd hD3 gall.tb⟩
          · by_cases z : b = D
            · subst z
              rw [upd_same] at h ⊢
              exact h
            · rw [upd_ne z] at h ⊢
              exact gall.keep b u h n
          · rcases gall.sub b hb with q | q
            · exact .inl q
            · by_cases z : b = D
              · subst z
                rw [hD3] at q; cases q
              · right; rw [upd_ne z]; exact q
        · exact (m3.trans gall.to).trans (prot_M zD7 hD6)
        · exact (fin (accV7 := []) rp8 (lk6.trans (lke _ _ _ _ t3).s)).2
        · exact (rds3.mono (gall.to.trans (prot_M zD7 hD6))).append (.one (rd8.mono (prot_M zD7 hD6)))
        · rw [ho, List.append_assoc]
      | false =>
        simp only [Bool.false_eq_true, if_false] at s1 ⊢
        cases s1
        refine ⟨O5, wip own en5, accD, accV, rest', (fin (accV7 := []) rp6 lk6).1, ?_, m3.trans gg.to, (fin (accV7 := []) rp6 lk6).2, hD5, rds3.mono gg.to, s2, ho⟩
        refine g3.trans ⟨fun b u h n => ?_, fun b hb => ?_, gg.zz, tb_upd hD3 gg.tb⟩
        · by_cases z : b = D
          · subst z
            rw [upd_same] at h ⊢
            exact h
          · rw [upd_ne z] at h ⊢
            exact gg.keep b u h n
        · rcases gg.sub b hb with q | q
          · exact .inl q
          · by_cases z : b = D
            · subst z
              rw [hD3] at q; cases q
            · right; rw [upd_ne z]; exact q
    · have hie : ds.length ≤ i := by omega
      refine .inl ⟨itok.stop i H3 O3 env3 _ rp3 m3 lk3 hie hi, ?_⟩
      rw [List.drop_eq_nil_of_le hie] at hl3
      cases hl3
      rw [List.append_nil] at ho
      subst ho
      have m13 : M Oa H1 O3 H3 := by
        have a := (add_M (O := Oa) (o := .lst []) nD).trans g3.to
        have b := a.trans (prot_M (xs := []) (xs' := accV) zD3 upd_same)
        rw [upd_upd, upd_self hD3] at b
        exact b
      have rpr : Rep K H3 O3 σ (rsto e1' own e3) := Rep.rsto rpa rp3 m13 noa
      obtain ⟨rpf, mf, nf⟩ := rpr.release (z := Oa.z) (D := D) (by rw [g3.zz]) nzD
      have gf : G Oa H1 ⟨fun b => O3.m b ∨ b = D, Oa.z⟩ H3 := ⟨fun b u h n => by
        have nb : b ≠ D := ne_of_none h nD
        have := g3.keep b u (by rw [upd_ne nb]; exact h) n
        rw [upd_ne nb] at this
        exact this, fun b h => by
        rcases h with h | h
        · rcases g3.sub b h with q | q
          · exact .inl q
          · by_cases z : b = D
            · exact .inr (by rw [z]; exact nD)
            · rw [upd_ne z] at q; exact .inr q
        · exact .inr (by rw [h]; exact nD), rfl, fun b ps h => by
        have nb : b ≠ D := ne_of_none h nD
        obtain ⟨qs, h3, h4⟩ := g3.tb b ps (by rw [upd_ne nb]; exact h)
        rw [upd_ne nb] at h3
        exact ⟨qs, h3, h4⟩⟩
      have gtot := g1.trans (ga.trans gf)
      refine q (.ref D) H3 _ rpf.unls ⟨D, accV, _, rfl, rfl, ⟨.inr rfl, nzD⟩, hD3, rds3.mono mf, fun i o => ?_⟩ gtot
      have ou : ∀ (l : List Nat) (e : En) (i : Nat), Own (unls l e) i → Own e i := by
        intro l
        induction l with
        | nil => intro e i o; exact o
        | cons k l ih =>
          intro e i o
          have o1 := ih (unl k e) i o
          unfold unl at o1
          split at o1
          · rename_i ds' hk
            obtain ⟨dl, o1⟩ := o1
            rcases o1 with o1 | o1
            · rcases get_set o1 with ⟨rfl, _⟩ | ⟨_, o1⟩
              · exact ⟨_, .inr hk⟩
              · exact ⟨_, .inl o1⟩
            · rcases get_set o1 with ⟨_, z⟩ | ⟨_, o1⟩
              · cases z
              · exact ⟨_, .inr o1⟩
          · exact o1
      exact nf i (ou _ _ _ o)
end
end RV

namespace RV
open PySem PySem.Spec PyProof.Rows L2
variable [Tb]
/-! ### statements -/
def RRes (K : PySem.W.Frag) (H : Hp) (O : OZ) (v : V) (d : PyData) (fr : Bool) : Prop :=
  if fr = true then ∃ p xs ds, v = .ref p ∧ d = .list ds ∧ (O.m p ∧ ¬ O.z p) ∧ H p = some (.lst xs) ∧ RDs K H O xs ds else RD K H O v d
def tS (K : PySem.W.Frag) (f : En → Option Out) : TS := fun D σ H => ∃ (O : OZ) (env : En) (out : Out), Rep K H O σ env ∧ f env = some out ∧ match out with
  | .nx env' => ∀ σ' H' O', Rep K H' O' σ' env' → LkS env σ env' σ' → G O H O' H' → D.nx σ' H'
  | .rt d fr => ∀ v H' O', RRes K H' O' v d fr → G O H O' H' → D.rt v H'
section
variable {X : Cx} {tg e a b c elt iter : Expr} {es rest : List Expr} {pos : Pos} {fa fb fc : En → Option (Hd × En)} {f f1 f2 : En → Rs} {K : PySem.W.Frag} {H H' : Hp} {O O' : OZ} {st : Stmt} {sts : List Stmt} {g g1 g2 : En → Option Out}
/-- keeps the locks -/
def KpE (f : En → Rs) : Prop := ∀ e d fr e', f e = some (d, fr, e') → LkE e e'
def KpH (f : En → Option (Hd × En)) : Prop := ∀ e h e', f e = some (h, e') → LkE e e'
def KpT (f : En → Option (Bool × En)) : Prop := ∀ e h e', f e = some (h, e') → LkE e e'
def KpI (f : En → Option (List PyData × List Nat × En)) : Prop := ∀ e ds l e', f e = some (ds, l, e') → LkE e e' ∧ ∀ (j : Nat), j ∈ l → ∀ (dl : List PyData), e[j]? ≠ some (Sl.lk dl)
theorem s_expr (h : PE X e (tE X.K f)) (kf : KpE f) (hs : swapsWith e none pos.line X.env = pure false) : PS X (.Expr e pos) (tS X.K fun en => (f en).bind fun x => some (.nx x.2.2)) := by
  refine psimp (ps_expr h hs) fun D σ H ⟨O, env, out, rp, e1, q⟩ => ?_
  obtain ⟨⟨d, fr, en⟩, x1, e1⟩ := bindS e1
  cases e1
  exact ⟨O, env, d, fr, en, rp, x1, fun v H1 O1 rp1 _ g1 => q σ H1 O1 rp1 (kf _ _ _ _ x1).s g1⟩
def asgF (t : TN) (f : En → Rs) : En → Option Out := fun en => (f en).bind fun x => (asN t x.1 x.2.1 x.2.2).bind fun e' => some (.nx e')
theorem asg_in {t : TN} (kf : KpE f) (D : Ends) (σ : L2.St) (H : Hp) (h : tS K (asgF t f) D σ H) : tE K f σ H fun x H1 => gT K t x σ H1 D.nx := by
  obtain ⟨O, env, out, rp, e1, q⟩ := h
  obtain ⟨⟨d, fr, en⟩, x1, e1⟩ := bindS e1
  obtain ⟨e', x2, e1⟩ := bindS e1
  cases e1
  refine ⟨O, env, d, fr, en, rp, x1, fun v H1 O1 rp1 res g1 => ?_⟩
  cases t with
  | nm i =>
    have x2 : stN i d fr en = some e' := by simpa only [asN] using x2
    obtain ⟨h1, h2⟩ := stN_ok rp1 res x2
    simp only [gT]
    exact q _ H1 O1 h1 ((kf _ _ _ _ x1).s.trans h2) g1
  | tup ts =>
    obtain ⟨O2, rp2, rd, g2⟩ := res.shared rp1
    have x2 : asN (.tup ts) d false en = some e' := by
      cases d <;> simp only [asN] at x2 ⊢ <;> first | exact x2 | cases x2
    exact asN_g (.tup ts) rp2 (.inl rd) x2 fun σ' rp3 lk _ => q σ' H1 O2 rp3 ((kf _ _ _ _ x1).s.trans lk) (g1.trans g2)
theorem s_asg {t : TN} (h : PE X e (tE X.K f)) (kf : KpE f) (hg : PG X tg (gT X.K t)) (hs : swapsWithSole [tg] e pos.line X.env = pure false) (hw : swappedStores [tg] e X.env = pure none) (he : (assignEach [tg] X.env).map (·.2) = [assign tg X.env]) : PS X (.Assign [tg] e pos) (tS X.K (asgF t f)) :=
  psimp (ps_asg h hg hs hw he) (asg_in kf)
/-- name = [..] on one line -/
theorem s_set {i : Nat} (h : PS X st (tAsg (tE X.K f) (gName i))) (kf : KpE f) : PS X st (tS X.K (asgF (.nm i) f)) := psimp h fun D σ H q => by
  have := asg_in kf D σ H q
  simp only [gT] at this
  exact this
/-- what a tuple of values is, given to names that are stored from the right -/
def tupF (fs : En → Option (List PyData × En)) : En → Rs := fun e => (fs e).bind fun x => if x.1.length ≤ sizeLine then some (.tuple x.1, false, x.2) else none
def KpEs (f : En → Option (List PyData × En)) : Prop := ∀ e h e', f e = some (h, e') → LkE e e'
theorem s_par {i j : Nat} {fs : En → Option (List PyData × En)} (kf : KpEs fs) (h : PS X st (tPar i j (tEs X.K fs))) : PS X st (tS X.K (asgF (.tup [.nm i, .nm j]) (tupF fs))) := by
  refine psimp h fun D σ H ⟨O, env, out, rp, e1, q⟩ => ?_
  obtain ⟨⟨d, fr, en⟩, x1, e1⟩ := bindS e1
  obtain ⟨e', x2, e1⟩ := bindS e1
  cases e1
  obtain ⟨⟨ds, en1⟩, x3, x1⟩ := bindS x1
  split at x1 <;> cases x1
  have x2 : asNs [.nm i, .nm j] ds en1 = some e' := by simpa only [asN] using x2
  refine ⟨O, env, ds, en1, rp, x3, fun vs H1 O1 rp1 rds g1 => ?_⟩
  cases rds with
  | nil => simp [asNs] at x2
  | cons r1 rds =>
    cases rds with
    | nil => simp [asNs, asN] at x2
    | cons r2 rds =>
      simp only [asNs] at x2
      obtain ⟨en2, y1, x2⟩ := bindS x2
      obtain ⟨en3, y2, x2⟩ := bindS x2
      cases rds with
      | cons _ _ => simp [asNs] at x2
      | nil =>
        simp only [asNs] at x2
        cases x2
        simp only [asN] at y1 y2
        obtain ⟨a1, a2⟩ := stN_ok rp1 (fr := false) r1 y1
        obtain ⟨b1, b2⟩ := stN_ok a1 (fr := false) r2 y2
        exact ⟨_, _, rfl, q _ H1 O1 b1 (((kf _ _ _ x3).s.trans a2).trans b2) g1⟩
theorem s_par3 {i j l : Nat} {fs : En → Option (List PyData × En)} (kf : KpEs fs) (h : PS X st (tPar3 i j l (tEs X.K fs))) : PS X st (tS X.K (asgF (.tup [.nm i, .nm j, .nm l]) (tupF fs))) := by
  refine psimp h fun D σ H ⟨O, env, out, rp, e1, q⟩ => ?_
  obtain ⟨⟨d, fr, en⟩, x1, e1⟩ := bindS e1
  obtain ⟨e', x2, e1⟩ := bindS e1
  cases e1
  obtain ⟨⟨ds, en1⟩, x3, x1⟩ := bindS x1
  split at x1 <;> cases x1
  have x2 : asNs [.nm i, .nm j, .nm l] ds en1 = some e' := by simpa only [asN] using x2
  refine ⟨O, env, ds, en1, rp, x3, fun vs H1 O1 rp1 rds g1 => ?_⟩
  cases rds with
  | nil => simp [asNs] at x2
  | cons r1 rds =>
    cases rds with
    | nil => simp [asNs, asN] at x2
    | cons r2 rds =>
      cases rds with
      | nil => simp [asNs, asN] at x2
      | cons r3 rds =>
        simp only [asNs] at x2
        obtain ⟨en2, y1, x2⟩ := bindS x2
        obtain ⟨en3, y2, x2⟩ := bindS x2
        obtain ⟨en4, y3, x2⟩ := bindS x2
        cases rds with
        | cons _ _ => simp [asNs] at x2
        | nil =>
          simp only [asNs] at x2
          cases x2
          simp only [asN] at y1 y2 y3
          obtain ⟨a1, a2⟩ := stN_ok rp1 (fr := false) r1 y1
          obtain ⟨b1, b2⟩ := stN_ok a1 (fr := false) r2 y2
          obtain ⟨c1, c2⟩ := stN_ok b1 (fr := false) r3 y3
          exact ⟨_, _, _, rfl, q _ H1 O1 c1 ((((kf _ _ _ x3).s.trans a2).trans b2).trans c2) g1⟩
theorem s_ret (h : PE X e (tE X.K f)) : PS X (.Return (some e) pos) (tS X.K fun en => (f en).bind fun x => some (.rt x.1 x.2.1)) := by
  refine psimp (ps_ret h) fun D σ H ⟨O, env, out, rp, e1, q⟩ => ?_
  obtain ⟨⟨d, fr, en⟩, x1, e1⟩ := bindS e1
  cases e1
  refine ⟨O, env, d, fr, en, rp, x1, fun v H1 O1 rp1 res g1 => q v H1 O1 ?_ g1⟩
  cases fr with
  | false => exact res
  | true =>
    obtain ⟨p, xs, ds, h1, h2, h3, h4, h5, _⟩ := res
    exact ⟨p, xs, ds, h1, h2, h3, h4, h5⟩
def retvF (i : Nat) : En → Option Out := fun e => match e[i]? with
  | some (.sh d) => some (.rt d false)
  | some (.ow ds) => some (.rt (.list ds) true)
  | _ => none
theorem s_retv {i : Nat} (h : PE X e (tVar i)) : PS X (.Return (some e) pos) (tS X.K (retvF i)) := by
  refine psimp (ps_ret h) fun D σ H ⟨O, env, out, rp, e1, q⟩ => ?_
  unfold retvF at e1
  split at e1
  · cases e1
    rename_i hs
    obtain ⟨v, h1, h2⟩ := rp.sh i _ hs
    exact ⟨v, h1, q v H O h2 .refl⟩
  · cases e1
    rename_i ds hs
    obtain ⟨a, xs, h1, h2, h3, h4⟩ := rp.ow i _ (.inl hs)
    exact ⟨_, h1, q _ H O ⟨a, xs, ds, rfl, rfl, h2, h3, h4⟩ .refl⟩
  · cases e1
theorem s_retn : PS X (.Return none pos) (tS X.K fun _ => some (.rt .none false)) := by
  refine psimp ps_retN fun D σ H ⟨O, env, out, rp, e1, q⟩ => ?_
  cases e1
  exact q .non H O .non .refl
theorem s_nil : PSs X [] (tS X.K fun en => some (.nx en)) := by
  refine pssimp pss_nil fun D σ H ⟨O, env, out, rp, e1, q⟩ => ?_
  cases e1
  exact q σ H O rp .refl .refl
def seqS (g1 g2 : En → Option Out) : En → Option Out := fun e => (g1 e).bind fun
    | .nx e' => g2 e'
    | .rt d f => some (.rt d f)
theorem s_cons (h1 : PS X st (tS X.K g1)) (h2 : PSs X sts (tS X.K g2)) : PSs X (st :: sts) (tS X.K (seqS g1 g2)) := by
  refine pssimp (pss_cons h1 h2) fun D σ H ⟨O, env, out, rp, e1, q⟩ => ?_
  obtain ⟨o1, x1, e1⟩ := bindS e1
  refine ⟨O, env, o1, rp, x1, ?_⟩
  cases o1 with
  | nx env1 =>
    intro σ1 H1 O1 rp1 lk1 ga1
    refine ⟨O1, env1, out, rp1, e1, ?_⟩
    cases out with
    | nx env2 => exact fun σ2 H2 O2 rp2 lk2 ga2 => q σ2 H2 O2 rp2 (lk1.trans lk2) (ga1.trans ga2)
    | rt d fr => exact fun v H2 O2 r ga2 => q v H2 O2 r (ga1.trans ga2)
  | rt d fr =>
    cases e1
    exact q
variable {ta : En → Option (Bool × En)}
theorem s_if {sa sb : List Stmt} (hc : PT X c (tT X.K ta)) (kt : KpT ta) (h1 : PSs X sa (tS X.K g1)) (h2 : PSs X sb (tS X.K g2)) : PS X (.If c sa sb pos) (tS X.K fun e => (ta e).bind fun x => if x.1 = true then g1 x.2 else g2 x.2) := by
  refine psimp (ps_if hc h1 h2) fun D σ H ⟨O, env, out, rp, e1, q⟩ => ?_
  obtain ⟨⟨t, en⟩, x1, e1⟩ := bindS e1
  refine ⟨O, env, t, en, rp, x1, fun H1 O1 rp1 ga1 => ?_⟩
  have lk := (kt _ _ _ x1).s (σ := σ)
  cases t with
  | true =>
    have e1 : g1 en = some out := e1
    show tS X.K g1 D σ H1
    refine ⟨O1, en, out, rp1, e1, ?_⟩
    cases out with
    | nx env2 => exact fun σ2 H2 O2 rp2 lk2 ga2 => q σ2 H2 O2 rp2 (lk.trans lk2) (ga1.trans ga2)
    | rt d fr => exact fun v H2 O2 r ga2 => q v H2 O2 r (ga1.trans ga2)
  | false =>
    have e1 : g2 en = some out := e1
    show tS X.K g2 D σ H1
    refine ⟨O1, en, out, rp1, e1, ?_⟩
    cases out with
    | nx env2 => exact fun σ2 H2 O2 rp2 lk2 ga2 => q σ2 H2 O2 rp2 (lk.trans lk2) (ga1.trans ga2)
    | rt d fr => exact fun v H2 O2 r ga2 => q v H2 O2 r (ga1.trans ga2)
theorem s_while {body : List Stmt} {n : Nat} (hp : PassesOwn (model X.prog X.w) X.A X.env X.xe) (hc : PT X c (tT X.K ta)) (kt : KpT ta) (hb : PSs X body (tS X.K g)) : PS X (.While c body [] pos) (tS X.K fun e => whL ta g n e) := by
  refine psimp (ps_while hp hc hb) fun D σ H ⟨O, env, out, rp, e1, q⟩ => ?_
  refine ⟨fun m σ3 H3 => ∃ O3 env3, Rep X.K H3 O3 σ3 env3 ∧ G O H O3 H3 ∧ LkS env σ env3 σ3 ∧ whL ta g m env3 = some out, ⟨n, O, env, rp, .refl, .refl, e1⟩, ?_⟩
  rintro m σ3 H3 ⟨O3, env3, rp3, g3, lk3, e3⟩
  cases m with
  | zero => cases e3
  | succ m =>
    obtain ⟨⟨t, en⟩, x1, e3⟩ := bindS (show ((ta env3).bind fun x => if x.1 = true then (g x.2).bind (fun | .nx e' => whL ta g m e' | .rt d f => some (.rt d f)) else some (.nx x.2)) = _ from e3)
    refine ⟨O3, env3, t, en, rp3, x1, fun H4 O4 rp4 g4 => ?_⟩
    have lk4 := lk3.trans ((kt _ _ _ x1).s (σ := σ3))
    have ga4 := g3.trans g4
    cases t with
    | true =>
      obtain ⟨o, x2, e3⟩ := bindS (show ((g en).bind (fun | .nx e' => whL ta g m e' | .rt d f => some (.rt d f))) = _ from e3)
      simp only [if_true]
      refine ⟨fun σ5 H5 => ∃ O5 env5, Rep X.K H5 O5 σ5 env5 ∧ G O H O5 H5 ∧ LkS env σ env5 σ5 ∧ whL ta g m env5 = some out, fun σ5 H5 h => ⟨m, Nat.lt_succ_self m, h⟩, O4, en, o, rp4, x2, ?_⟩
      cases o with
      | nx env5 => exact fun σ5 H5 O5 rp5 lk5 g5 => ⟨O5, env5, rp5, ga4.trans g5, lk4.trans lk5, e3⟩
      | rt d fr =>
        cases e3
        exact fun v H5 O5 r g5 => q v H5 O5 r (ga4.trans g5)
    | false =>
      cases (show some (Out.nx en) = some out from e3)
      exact q σ3 H4 O4 rp4 lk4 ga4
def forF (fi0 : En → Option (List PyData × List Nat × En)) (step : PyData → En → Option Out) : En → Option Out := fun e => (fi0 e).bind fun x => (forL step x.1 x.2.2).bind fun
      | .nx e' => some (.nx (unls x.2.1 e'))
      | .rt d f => some (.rt d f)
theorem unls_get : ∀ (l : List Nat) (e : En) (j : Nat), j ∉ l → (unls l e)[j]? = e[j]?
  | [], _, _, _ => rfl
  | i :: r, e, j, h => by
    have h' : j ≠ i ∧ j ∉ r := by simpa using h
    show (unls r (unl i e))[j]? = _
    rw [unls_get r _ j h'.2]
    unfold unl
    split
    · rw [List.getElem?_set_ne (Ne.symm h'.1)]
    · rfl
theorem s_for {t : TN} {fi0 : En → Option (List PyData × List Nat × En)} {body : List Stmt} (hp : PassesOwn (model X.prog X.w) X.A X.env X.xe) (hc : X.calm = true) (hi : PI X tg iter (tI (isTup t) X.K fi0)) (ki : KpI fi0) (hg : PG X tg (gT X.K t)) (hb : PSs X body (tS X.K g))
    (hs : ∀ x, foldedSetIterable iter X.env x = pure x) : PS X (.For tg iter body [] pos) (tS X.K (forF fi0 fun d e2 => (asN t d false e2).bind fun e3 => g e3)) := by
  refine psimp (ps_for hp hc hi hg hb hs) fun D σ H ⟨O, env, out, rp, e1, q⟩ => ?_
  obtain ⟨⟨ds, lks, env1⟩, x1, e1⟩ := bindS e1
  obtain ⟨o0, x2, e1⟩ := bindS e1
  obtain ⟨k1, k2⟩ := ki _ _ _ _ x1
  refine ⟨O, env, ds, lks, env1, rp, x1, fun J H1 O1 rp1 itok g1 => ?_⟩
  refine ⟨fun i m σ3 H3 => ∃ O3 env3, m = ds.length - i ∧ i ≤ ds.length ∧ Rep X.K H3 O3 σ3 env3 ∧ G O1 H1 O3 H3 ∧ LkS env1 σ env3 σ3 ∧ forL (fun d e2 => (asN t d false e2).bind fun e3 => g e3) (ds.drop i) env3 = some o0,
    ⟨ds.length, O1, env1, by simp, Nat.zero_le _, rp1, .refl, .refl, by simpa using x2⟩, ?_⟩
  rintro i m σ3 H3 ⟨O3, env3, rfl, hi3, rp3, g3, lk3, e3⟩
  by_cases hlt : i < ds.length
  · have hd : ds[i]? = some ds[i] := List.getElem?_eq_getElem hlt
    obtain ⟨jgo, jy⟩ := itok.go i H3 O3 env3 σ3 _ rp3 g3.to lk3 hd
    rw [List.drop_eq_getElem_cons hlt] at e3
    obtain ⟨o, y1, e3⟩ := bindS (show (((asN t ds[i] false env3).bind fun e3 => g e3).bind (fun | .nx e' => forL (fun d e2 => (asN t d false e2).bind fun e3 => g e3) (ds.drop (i + 1)) e' | .rt d f => some (.rt d f))) = _ from e3)
    obtain ⟨en4, y2, y1⟩ := bindS y1
    refine .inr ⟨jgo, fun σ5 H5 => ∃ O5 env5, Rep X.K H5 O5 σ5 env5 ∧ G O1 H1 O5 H5 ∧ LkS env1 σ env5 σ5 ∧ forL (fun d e2 => (asN t d false e2).bind fun e3 => g e3) (ds.drop (i + 1)) env5 = some o0,
      fun σ5 H5 ⟨O5, env5, p1, p2, p3, p4⟩ => ⟨ds.length - (i + 1), by omega, O5, env5, rfl, hlt, p1, p2, p3, p4⟩, fun x H4 y => ?_⟩
    obtain ⟨s4, ri⟩ := jy x H4 y
    refine asN_g t (rp3.same s4) ri y2 fun σ4 rp4 lk4 _ => ⟨O3, en4, o, rp4, y1, ?_⟩
    have g4 : G O1 H1 O3 H4 := g3.trans (.same s4)
    cases o with
    | nx env5 => exact fun σ5 H5 O5 rp5 lk5 g5 => ⟨O5, env5, rp5, g4.trans g5, (lk3.trans lk4).trans lk5, e3⟩
    | rt d fr =>
      cases e3
      cases e1
      exact fun v H5 O5 r g5 => q v H5 O5 r (g1.trans (g4.trans g5))
  · have hie : ds.length ≤ i := by omega
    refine .inl ⟨itok.stop i H3 O3 env3 σ3 rp3 g3.to lk3 hie hi3, ?_⟩
    rw [List.drop_eq_nil_of_le hie] at e3
    cases e3
    cases e1
    refine q σ3 H3 O3 rp3.unls (fun j dl hj => ?_) (g1.trans g3)
    obtain ⟨a1, a2⟩ := lk3 j dl (k1 j dl hj)
    exact ⟨by rw [unls_get lks env3 j fun z => k2 j z dl hj]; exact a1, a2⟩

/-! ### an own list's methods and places -/
variable {i : Nat} {apos : Pos}
def appF (i : Nat) (f : En → Rs) : En → Option Out := fun e => match e[i]? with
    | some (.ow _) => (f e).bind fun x => match x.2.2[i]? with
      | some (.ow ds) => if ds.length < sizeLine then some (.nx (x.2.2.set i (.ow (ds ++ [x.1])))) else none
      | _ => none
    | _ => none
theorem LkE.setOw {e : En} {i : Nat} {ds : List PyData} {s : Sl} (h : e[i]? = some (.ow ds)) : LkE e (e.set i s) := fun j dl q => by
  have n : j ≠ i := fun z => by subst z; rw [h] at q; cases q
  rw [List.getElem?_set_ne (Ne.symm n)]; exact q
theorem s_app (hv : PE X a (tVar i)) (gb : PE X b (tE X.K f)) (kf : KpE f) (hp : plainE b = true) (hbase : attributeBase a "append" X.env (eval a X.env) = eval a X.env) {cpos : Pos} (hline : (apos.endLine == cpos.line) = true) :
    PS X (.Expr (.Call (.Attribute a "append" apos) [b] [] cpos) pos) (tS X.K (appF i f)) := by
  refine psimp (ps_expr (pe_bm PySem.F.plainAttrs_list PySem.F.slot_list_append PySem.F.type_list_append mt_append hv (pa_cons gb pa_nil (star_plain hp _ _)) hbase (few_plain hp) hline (star_plain hp _ _) rfl) rfl) fun D σ H ⟨O, env, out, rp, e1, q⟩ => ?_
  unfold appF at e1
  split at e1
  · rename_i ds0 hs0
    obtain ⟨p, xs0, p1, p2, p3, p4⟩ := rp.ow i ds0 (.inl hs0)
    obtain ⟨⟨d, fr, en⟩, x1, e1⟩ := bindS e1
    simp only at e1
    split at e1
    · rename_i ds hs
      split at e1
      · rename_i hz
        cases e1
        refine ⟨_, p1, .inl ⟨rfl, _, .of p3⟩, O, env, d, fr, en, rp, x1, fun v H1 O1 rp1 res g1 => ?_⟩
        obtain ⟨O2, rp2, rd, g2⟩ := res.shared rp1
        obtain ⟨p', xs, h1, h2, h3, h4⟩ := rp2.ow i ds (.inl hs)
        rw [p1] at h1; cases h1
        have w := rp2.write hs p1 h3 (h4.append (.one rd))
        exact ⟨p, xs, v, rfl, rfl, h3, by rw [h4.length]; exact hz, q σ _ O2 w.1 ((kf _ _ _ _ x1).trans (.setOw hs)).s (g1.trans (g2.trans w.2))⟩
      · cases e1
    · cases e1
  · cases e1
theorem setIx_ok {σ : L2.St} {env env' : En} {k : Int} {d : PyData} {v : V} {p : Addr} (rp : Rep K H O σ env) (e : setIx i k d env = some env') (hp : σ[i]? = some (some (.ref p))) (rd : RD K H O v d) :
    ∃ xs j, H p = some (.lst xs) ∧ L2.ixN xs.length k = some j ∧ Rep K (upd H p (.lst (xs.set j v))) O σ env' ∧ G O H O (upd H p (.lst (xs.set j v))) ∧ LkE env env' := by
  unfold setIx at e
  split at e
  · rename_i ds hs
    obtain ⟨j, x1, e1⟩ := bindS e
    cases e1
    obtain ⟨p', xs, h1, h2, h3, h4⟩ := rp.ow i ds (.inl hs)
    rw [hp] at h1; cases h1
    have w := rp.write hs hp h3 (h4.set rd j)
    exact ⟨xs, j, h3, by rw [h4.length]; exact x1, w.1, w.2, .setOw hs⟩
  · cases e
def stoF (i : Nat) (f : En → Rs) (fb : En → Option (Hd × En)) : En → Option Out := fun e => (f e).bind fun x => match x.2.2[i]? with
    | some (.ow _) => (fb x.2.2).bind fun y => (fetch y.2 y.1).bind fun d => (intOf d).bind fun k => (setIx i k x.1 y.2).bind fun e' => some (.nx e')
    | _ => none
theorem s_sto {tpos : Pos} (he : PE X e (tE X.K f)) (kf : KpE f) (hv : PE X a (tVar i)) (gb : PE X b (tH X.K fb)) (kb : KpH fb) (hpg : PG X (.Subscript a b tpos) (gSub (tVar i) (tH X.K fb) rSetL)) (hs : swapsWithSole [.Subscript a b tpos] e pos.line X.env = pure false) (hw : swappedStores [.Subscript a b tpos] e X.env = pure none) :
    PS X (.Assign [.Subscript a b tpos] e pos) (tS X.K (stoF i f fb)) := by
  refine psimp (ps_asg he hpg hs hw) fun D σ H ⟨O, env, out, rp, e1, q⟩ => ?_
  obtain ⟨⟨d, fr, en⟩, x1, e1⟩ := bindS e1
  simp only at e1
  split at e1
  · rename_i ds0 hs0
    obtain ⟨⟨h, en2⟩, x2, e1⟩ := bindS e1
    obtain ⟨d2, x3, e1⟩ := bindS e1
    obtain ⟨k, x4, e1⟩ := bindS e1
    obtain ⟨e', x5, e1⟩ := bindS e1
    cases e1
    refine ⟨O, env, d, fr, en, rp, x1, fun v H1 O1 rp1 res g1 => ?_⟩
    obtain ⟨O2, rp2, rd, g2⟩ := res.shared rp1
    obtain ⟨p, xs0, p1, p2, p3, p4⟩ := rp2.ow i ds0 (.inl hs0)
    refine ⟨_, p1, O2, en, h, en2, rp2, x2, fun w H3 O3 rp3 rh3 g3 => ?_⟩
    have rf := rh3.fetch rp3 x3
    cases d2 <;> cases x4
    cases rf.int
    obtain ⟨xs, j, a1, a2, a3, a4, a5⟩ := setIx_ok rp3 x5 p1 (rd.mono g3.to)
    exact ⟨p, xs, k, j, rfl, rfl, a1, a2, q σ _ O3 a3 (((kf _ _ _ _ x1).trans (kb _ _ _ x2)).trans a5).s (g1.trans (g2.trans (g3.trans a4)))⟩
  · cases e1

/-! ### op= -/
def rAug (o : Op2) : R2 := fun x y H Q =>
  (∃ i j r, x = .int i ∧ y = .int j ∧ aug2 o (.int i) (.int j) = some (.int r) ∧ Q (.int r) H) ∨
  (∃ i j, o = .add ∧ x = .str i ∧ y = .str j ∧ i.length + j.length ≤ sizeLine ∧ Q (.str (i ++ j)) H) ∨
  (o = .add ∧ rExt2 x y H Q)
theorem iop_bin {X : Cx} (o : Op2) : PIp X (opOf o) (rAug o) := by
  intro pins s σ H x y v u Q I rx ry h
  rcases h with ⟨i, j, r, rfl, rfl, e, q⟩ | ⟨i, j, rfl, rfl, rfl, hz, q⟩ | ⟨rfl, h⟩
  · cases o <;> simp only [aug2] at e
    · cases e; exact iop_add pins s σ H _ _ v u Q I rx ry ⟨i, j, rfl, rfl, q⟩
    · cases e; exact iop_sub pins s σ H _ _ v u Q I rx ry ⟨i, j, rfl, rfl, q⟩
    · split at e
      · cases e; exact iop_mul pins s σ H _ _ v u Q I rx ry ⟨i, j, rfl, rfl, ‹_›, q⟩
      · cases e
    · split at e
      · cases e; exact iop_fdiv pins s σ H _ _ v u Q I rx ry ⟨i, j, rfl, rfl, ‹_›, q⟩
      · cases e
    · split at e
      · cases e; exact iop_mod pins s σ H _ _ v u Q I rx ry ⟨i, j, rfl, rfl, ‹_›, q⟩
      · cases e
    · cases e
  · exact iop_add_str pins s σ H _ _ v u Q I rx ry ⟨i, j, rfl, rfl, hz, q⟩
  · exact iop_ext pins s σ H _ _ v u Q I rx ry h
/-- an item of an own list -/
def rGetL : V → V → Hp → VK → Prop := fun o i H Q => ∃ p xs k z, o = .ref p ∧ i = .int k ∧ H p = some (.lst xs) ∧ atI xs k = some z ∧ Q z H
theorem get_list {X : Cx} : PGet X rGetL := by
  intro pins s σ H x y v u Q I rx ry h
  obtain ⟨p, xs, i, z, rfl, rfl, hq, he, q⟩ := h
  cases rx
  obtain ⟨t, rfl⟩ := ry
  obtain ⟨its, r, pl, hz⟩ := I.list (.of hq)
  obtain ⟨j, h1, h2, h3, h4, h5⟩ := atI_get he
  obtain ⟨w, ew, rw'⟩ := r.get h2
  have hl := r.length
  have hn := line63
  have fin : EP X pins σ Q w s := ⟨z, H, I, rw', q⟩
  by_cases h0 : 0 ≤ i
  · have hj : i.toNat = j := by
      rw [seqIndex_of h0 h5] at h1
      exact Option.some.inj h1
    exact wpAny_getItem_list pl.isList h0 (by omega) (by rw [hj]; simpa using ew) fin
  · have hj : (i + (its.toArray.size : Int)).toNat = j := by
      rw [seqIndex_neg (by omega) h4] at h1
      rw [List.size_toArray, ← hl]
      exact Option.some.inj h1
    exact wpAny_getItem_list_neg pl.isList (by omega) (by rw [List.size_toArray] <;> omega) (by omega) (by rw [hj]; simpa using ew) fin
variable {o : Op2}
def augF (i : Nat) (o : Op2) (fb : En → Option (Hd × En)) : En → Option Out := fun e => match e[i]? with
    | some (.sh d1) => (fb e).bind fun y => (fetch y.2 y.1).bind fun d2 => (aug2 o d1 d2).bind fun r => (stN i r false y.2).bind fun e' => some (.nx e')
    | some (.ow _) => (fb e).bind fun y => (fetch y.2 y.1).bind fun d2 => extF i o d2 y.2
    | _ => none
theorem extF_ok {d2 : PyData} {e : En} {out : Out} (h : extF i o d2 e = some out) : ∃ es ds, o = .add ∧ d2 = .list es ∧ e[i]? = some (.ow ds) ∧ ds.length + es.length ≤ sizeLine ∧ out = .nx (e.set i (.ow (ds ++ es))) := by
  unfold extF at h
  split at h
  · rename_i es ds hs
    split at h <;> cases h
    exact ⟨es, ds, rfl, rfl, hs, ‹_›, rfl⟩
  · cases h
theorem aug2_sorts {d1 d2 r : PyData} (e : aug2 o d1 d2 = some r) : (∃ i j k, d1 = .int i ∧ d2 = .int j ∧ r = .int k) ∨ (∃ i j, o = .add ∧ d1 = .str i ∧ d2 = .str j ∧ i.length + j.length ≤ sizeLine ∧ r = .str (i ++ j)) := by
  unfold aug2 at e
  split at e
  · cases e; exact .inl ⟨_, _, _, rfl, rfl, rfl⟩
  · cases e; exact .inl ⟨_, _, _, rfl, rfl, rfl⟩
  · split at e <;> cases e; exact .inl ⟨_, _, _, rfl, rfl, rfl⟩
  · split at e <;> cases e; exact .inl ⟨_, _, _, rfl, rfl, rfl⟩
  · split at e <;> cases e; exact .inl ⟨_, _, _, rfl, rfl, rfl⟩
  · split at e <;> cases e; exact .inr ⟨_, _, rfl, rfl, rfl, ‹_›, rfl⟩
  · cases e
theorem aug_in {x y : V} {d1 d2 r : PyData} {O1 O2 : OZ} {H1 : Hp} {Q : VK} (e : aug2 o d1 d2 = some r) (r1 : RD K H O1 x d1) (r2 : RF K H1 O2 y d2) (q : ∀ z, (∀ O3, RD K H1 O3 z r) → Q z H1) : rAug o x y H1 Q := by
  rcases aug2_sorts e with ⟨i, j, k, rfl, rfl, rfl⟩ | ⟨i, j, rfl, rfl, rfl, hz, rfl⟩
  · cases r1; cases r2.int; exact .inl ⟨i, j, k, rfl, rfl, e, q _ fun _ => .int k⟩
  · cases r1; cases r2.str; exact .inr (.inl ⟨i, j, rfl, rfl, rfl, hz, q _ fun _ => .str _⟩)
theorem s_aug (gb : PE X b (tH X.K fb)) (kb : KpH fb) (h : PS X st (tAug i (tH X.K fb) (rAug o))) : PS X st (tS X.K (augF i o fb)) := by
  refine psimp h fun D σ H ⟨O, env, out, rp, e1, q⟩ => ?_
  unfold augF at e1
  split at e1
  · rename_i d1 hs
    obtain ⟨⟨h, en2⟩, x2, e1⟩ := bindS e1
    obtain ⟨d2, x3, e1⟩ := bindS e1
    obtain ⟨r, x4, e1⟩ := bindS e1
    obtain ⟨e', x5, e1⟩ := bindS e1
    cases e1
    obtain ⟨x, h1, h2⟩ := rp.sh i _ hs
    refine ⟨x, h1, O, env, h, en2, rp, x2, fun w H3 O3 rp3 rh3 g3 => ?_⟩
    refine aug_in x4 h2 (rh3.fetch rp3 x3) fun z rz => ?_
    obtain ⟨a1, a2⟩ := stN_ok rp3 (fr := false) (rz O3) x5
    exact q _ H3 O3 a1 ((kb _ _ _ x2).s.trans a2) g3
  · rename_i ds0 hs
    obtain ⟨⟨hh, en2⟩, x2, e1⟩ := bindS e1
    obtain ⟨d2, x3, e1⟩ := bindS e1
    obtain ⟨es, ds, rfl, rfl, hs2, hz, rfl⟩ := extF_ok e1
    obtain ⟨p, xs0, p1, p2, p3, p4⟩ := rp.ow i ds0 (.inl hs)
    refine ⟨_, p1, O, env, _, en2, rp, x2, fun w H3 O3 rp3 rh3 g3 => ?_⟩
    obtain ⟨a, zs, rfl, b2, b3⟩ := (rh3.fetch rp3 x3).list
    obtain ⟨p', xs, c1, c2, c3, c4⟩ := rp3.ow i ds (.inl hs2)
    rw [p1] at c1; cases c1
    refine .inr (.inr ⟨rfl, p, a, xs, zs, rfl, rfl, c3, b2, by rw [c4.length, b3.length]; exact hz, ?_⟩)
    have hset : σ.set i (some (.ref p)) = σ := by
      apply List.ext_getElem?
      intro j
      by_cases hj : i = j
      · subst hj
        rw [List.getElem?_set_self (by have := List.getElem?_eq_some_iff.mp p1; exact this.1), p1]
      · rw [List.getElem?_set_ne hj]
    show D.nx (σ.set i (some (.ref p))) _
    rw [hset]
    have w := rp3.write hs2 p1 c3 (c4.append b3)
    exact q σ _ O3 w.1 ((kb _ _ _ x2).trans (.setOw hs2)).s (g3.trans w.2)
  · cases e1
def augsF (i : Nat) (fi0 : En → Option (Hd × En)) (o : Op2) (fb : En → Option (Hd × En)) : En → Option Out := fun e => match e[i]? with
    | some (.ow _) => (fi0 e).bind fun y => (fetch y.2 y.1).bind fun d => (intOf d).bind fun k => match y.2[i]? with
      | some (.ow ds) => (atI ds k).bind fun old => (fb y.2).bind fun z => (fetch z.2 z.1).bind fun d2 => (intOf old).bind fun a => (intOf d2).bind fun b => (aug2 o (.int a) (.int b)).bind fun r => (setIx i k r z.2).bind fun e' => some (.nx e')
      | _ => none
    | _ => none
theorem RDs.atI {xs : List V} {ds : List PyData} {k : Int} {d : PyData} (h : RDs K H O xs ds) (e : L2.atI ds k = some d) : ∃ z, L2.atI xs k = some z ∧ RD K H O z d := by
  obtain ⟨j, h1, h2⟩ := bindS e
  obtain ⟨z, z1, z2⟩ := h.get h2
  exact ⟨z, by show (L2.ixN xs.length k).bind _ = _; rw [h.length, h1]; exact z1, z2⟩
theorem s_augs (kb : KpH fb) (ka : KpH fa) (h : PS X st (tAugS (tVar i) (tH X.K fa) (tH X.K fb) rGetL (rAug o) rSetL)) : PS X st (tS X.K (augsF i fa o fb)) := by
  refine psimp h fun D σ H ⟨O, env, out, rp, e1, q⟩ => ?_
  unfold augsF at e1
  split at e1
  · rename_i ds0 hs
    obtain ⟨⟨h1, en1⟩, x1, e1⟩ := bindS e1
    obtain ⟨d1, x2, e1⟩ := bindS e1
    obtain ⟨k, x3, e1⟩ := bindS e1
    split at e1
    · rename_i ds1 hs1
      obtain ⟨old, x4, e1⟩ := bindS e1
      obtain ⟨⟨h2, en2⟩, x5, e1⟩ := bindS e1
      obtain ⟨d2, x6, e1⟩ := bindS e1
      obtain ⟨a, x7, e1⟩ := bindS e1
      obtain ⟨b, x8, e1⟩ := bindS e1
      obtain ⟨r, x9, e1⟩ := bindS e1
      obtain ⟨e', x10, e1⟩ := bindS e1
      cases e1
      obtain ⟨p, xs0, p1, p2, p3, p4⟩ := rp.ow i ds0 (.inl hs)
      refine ⟨_, p1, O, env, h1, en1, rp, x1, fun w H1 O1 rp1 rh1 g1 => ?_⟩
      have rf := rh1.fetch rp1 x2
      cases d1 <;> cases x3
      cases rf.int
      obtain ⟨p', xs, c1, c2, c3, c4⟩ := rp1.ow i ds1 (.inl hs1)
      rw [p1] at c1; cases c1
      cases old <;> cases x7
      obtain ⟨z, b1, b2⟩ := c4.atI x4
      refine ⟨p, xs, _, z, rfl, rfl, c3, b1, O1, en1, h2, en2, rp1, x5, fun w2 H2 O2 rp2 rh2 g2 => ?_⟩
      refine aug_in x9 b2 (by have := rh2.fetch rp2 x6; cases d2 <;> cases x8; exact this) fun z rz => ?_
      obtain ⟨xs2, j, a1, a2, a3, a4, a5⟩ := setIx_ok rp2 x10 p1 (rz O2)
      exact ⟨p, xs2, _, j, rfl, rfl, a1, a2, q σ _ O2 a3 (((ka _ _ _ x1).trans (kb _ _ _ x5)).trans a5).s (g1.trans (g2.trans a4))⟩
    · cases e1
  · cases e1
end
end RV

namespace RV
open PySem PySem.Spec PyProof.Rows L2
variable [Tb]
/-! ### the evaluator keeps the locks -/
theorem LkE.set {e : En} {i : Nat} {s : Sl} (h : ∀ dl, e[i]? ≠ some (Sl.lk dl)) : LkE e (e.set i s) := fun j dl q => by
  have n : j ≠ i := fun z => by subst z; exact h dl q
  rw [List.getElem?_set_ne (Ne.symm n)]; exact q
theorem stN_lk {i : Nat} {d : PyData} {fr : Bool} {e e' : En} (h : stN i d fr e = some e') : LkE e e' := by
  unfold stN at h
  split at h
  · cases h
  · cases h
  · rename_i s n1 n2
    cases h
    exact .set fun dl z => n1 dl (by rw [n2] at z; exact (Option.some.inj z))
mutual
theorem asN_lk : ∀ (t : TN) {d : PyData} {fr : Bool} {e e' : En}, asN t d fr e = some e' → LkE e e'
  | .nm i, d, fr, e, e', h => by simp only [asN] at h; exact stN_lk h
  | .tup ts, d, fr, e, e', h => by
    cases d <;> simp only [asN] at h <;> first | exact asNs_lk ts h | cases h
theorem asNs_lk : ∀ (ts : List TN) {ds : List PyData} {e e' : En}, asNs ts ds e = some e' → LkE e e'
  | [], [], e, e', h => by simp only [asNs] at h; cases h; exact .refl
  | [], _ :: _, e, e', h => by simp only [asNs] at h; cases h
  | _ :: _, [], e, e', h => by simp only [asNs] at h; cases h
  | t :: ts, d :: ds, e, e', h => by
    simp only [asNs] at h
    obtain ⟨e1, h1, h2⟩ := bindS h
    exact (asN_lk t h1).trans (asNs_lk ts h2)
end
theorem frzAll_lk {e e' : En} (h : frzAll e = some e') : LkE e e' := by
  unfold frzAll at h
  split at h
  · cases h
  · rename_i n
    intro j dl hj
    refine (n ?_).elim
    rw [List.any_eq_true]
    exact ⟨_, List.mem_of_getElem? hj, rfl⟩
theorem aft_lk {d : PyData} {fr : Bool} {e : En} {d' : PyData} {fr' : Bool} {e' : En} (h : aft d fr e = some (d', fr', e')) : LkE e e' := by
  unfold aft at h
  split at h
  · cases h; exact .refl
  · obtain ⟨e1, h1, h2⟩ := bindS h
    cases h2
    exact frzAll_lk h1
theorem hdl_lk {c : CE} {r : Rs} {e : En} {h : Hd} {e' : En} (k : ∀ d fr e1, r = some (d, fr, e1) → LkE e e1) (q : hdl c r e = some (h, e')) : LkE e e' := by
  by_cases n : ∃ i, c = .var i
  · obtain ⟨i, rfl⟩ := n
    simp only [hdl] at q
    split at q <;> cases q <;> exact .refl
  · rw [hdl_val (fun i z => n ⟨i, z⟩)] at q
    obtain ⟨⟨d, fr, e1⟩, h1, h2⟩ := bindS q
    cases h2
    exact k _ _ _ h1
theorem lock_lk {h : Hd} {e : En} : LkE e (lock h e).2 := by
  unfold lock
  split
  · split
    · rename_i ds hs
      exact .set fun dl z => by rw [hs] at z; cases z
    · exact .refl
  · exact .refl
theorem lock_mem {h : Hd} {e : En} {j : Nat} (hj : j ∈ (lock h e).1) : ∃ ds, e[j]? = some (Sl.ow ds) := by
  unfold lock at hj
  split at hj
  · split at hj
    · rename_i ds hs
      have : j = _ := List.mem_singleton.mp hj
      subst this
      exact ⟨ds, hs⟩
    · cases hj
  · cases hj
theorem fzO_no : ∀ {own : List Nat} {e e' : En}, fzO own e = some e' → LkE e e' ∧ ∀ j ∈ own, ∀ dl, e[j]? ≠ some (Sl.lk dl)
  | [], e, e', h => by cases h; exact ⟨.refl, fun j hj => by cases hj⟩
  | i :: r, e, e', h => by
    have step : ∀ s, e[i]? = some s → (∀ dl, s ≠ .lk dl) → fzO r (e.set i (frz s)) = some e' → LkE e e' ∧ ∀ j ∈ i :: r, ∀ dl, e[j]? ≠ some (Sl.lk dl) := by
      intro s hs n h
      obtain ⟨a, b⟩ := fzO_no h
      have l1 : LkE e (e.set i (frz s)) := .set fun dl z => by rw [hs] at z; exact n dl (Option.some.inj z)
      refine ⟨l1.trans a, fun j hj dl z => ?_⟩
      rcases List.mem_cons.mp hj with rfl | hj
      · rw [hs] at z; exact n dl (Option.some.inj z)
      · exact b j hj dl (l1 j dl z)
    unfold fzO at h
    split at h
    · cases h
    · cases h
    · rename_i s n hs
      exact step s hs (fun dl z => n dl z) h
/-- but for the block's own names -/
def LkO (own : List Nat) (e e' : En) : Prop := ∀ j, j ∉ own → ∀ dl, e[j]? = some (Sl.lk dl) → e'[j]? = some (Sl.lk dl)
theorem lcL_lk {own : List Nat} {step : PyData → En → Option (List PyData × En)} (k : ∀ d e r e', step d e = some (r, e') → LkO own e e') : ∀ {ds : List PyData} {e : En} {r : List PyData} {e' : En}, lcL step ds e = some (r, e') → LkO own e e'
  | [], e, r, e', h => by cases h; exact fun _ _ _ h => h
  | d :: ds, e, r, e', h => by
    obtain ⟨⟨r1, e1⟩, h1, h2⟩ := bindS (show ((step d e).bind fun x => (lcL step ds x.2).bind fun y => some (x.1 ++ y.1, y.2)) = _ from h)
    obtain ⟨⟨r2, e2⟩, h3, h4⟩ := bindS h2
    cases h4
    exact fun j n dl q => lcL_lk k h3 j n dl (k _ _ _ _ h1 j n dl q)
theorem gqL_lk {own : List Nat} {al : Bool} {step : PyData → En → Option (Option Bool × En)} (k : ∀ d e r e', step d e = some (r, e') → LkO own e e') : ∀ {ds : List PyData} {e : En} {r : Bool} {e' : En}, gqL al step ds e = some (r, e') → LkO own e e'
  | [], e, r, e', h => by cases h; exact fun _ _ _ h => h
  | d :: ds, e, r, e', h => by
    obtain ⟨⟨r1, e1⟩, h1, h2⟩ := bindS (show ((step d e).bind fun x => match x.1 with
      | none => gqL al step ds x.2
      | some b => if b = al then gqL al step ds x.2 else some (b, x.2)) = _ from h)
    have h0 := k _ _ _ _ h1
    cases r1 with
    | none => exact fun j n dl q => gqL_lk k h2 j n dl (h0 j n dl q)
    | some b =>
      simp only at h2
      split at h2
      · exact fun j n dl q => gqL_lk k h2 j n dl (h0 j n dl q)
      · cases h2; exact h0
theorem wip_lk {own : List Nat} {e : En} : LkO own e (wip own e) := fun j n dl q => by
  rw [wip_get, if_neg fun z => n z.1]; exact q
theorem rsto_lk {own : List Nat} {e0 e : En} : LkO own e (rsto e0 own e) := fun j n dl q => by
  have : ∀ (own : List Nat) (e : En), j ∉ own → (rsto e0 own e)[j]? = e[j]? := fun own => by
    induction own with
    | nil => intro e _; rfl
    | cons i r ih =>
      intro e n
      have n' : j ≠ i ∧ j ∉ r := by simpa using n
      unfold rsto
      split
      · rw [List.getElem?_set_ne (Ne.symm n'.1), ih e n'.2]
      · exact ih e n'.2
  rw [this own e n]; exact q
theorem KpI.of {ds : List PyData} {l : List Nat} {e e1 e' : En} (h1 : LkE e e1) (h2 : LkE e1 e') (h3 : ∀ j ∈ l, ∃ d, e1[j]? = some (Sl.ow d)) : LkE e e' ∧ ∀ (j : Nat), j ∈ l → ∀ (dl : List PyData), e[j]? ≠ some (Sl.lk dl) :=
  ⟨h1.trans h2, fun j hj dl z => by obtain ⟨d, q⟩ := h3 j hj; rw [h1 j dl z] at q; cases q⟩
variable {Φ : Fs}
mutual
theorem evE_lk : ∀ (c : CE), KpE (evE Φ c)
  | .con d, e, _, _, e', h => by simp only [evE] at h; cases h; exact .refl
  | .var i, e, d, fr, e', h => by
    simp only [evE] at h
    split at h
    · cases h; exact .refl
    · rename_i ds hs
      cases h; exact .set fun dl z => by rw [hs] at z; cases z
    · cases h
  | .bin o a b, e, d, fr, e', h => by
    simp only [evE] at h
    obtain ⟨x, h1, h⟩ := bindS h
    obtain ⟨y, h2, h⟩ := bindS h
    obtain ⟨_, _, h⟩ := bindS h
    obtain ⟨_, _, h⟩ := bindS h
    obtain ⟨_, _, h⟩ := bindS h
    cases h
    exact (hdl_lk (evE_lk a _) h1).trans (hdl_lk (evE_lk b _) h2)
  | .neg a, e, d, fr, e', h => by
    simp only [evE] at h
    obtain ⟨x, h1, h⟩ := bindS h
    obtain ⟨_, _, h⟩ := bindS h
    obtain ⟨_, _, h⟩ := bindS h
    cases h
    exact hdl_lk (evE_lk a _) h1
  | .nott a, e, d, fr, e', h => by
    simp only [evE] at h
    obtain ⟨x, h1, h⟩ := bindS h
    obtain ⟨_, _, h⟩ := bindS h
    obtain ⟨_, _, h⟩ := bindS h
    cases h
    exact hdl_lk (evE_lk a _) h1
  | .andd a b, e, d, fr, e', h => by
    simp only [evE] at h
    obtain ⟨x, h1, h⟩ := bindS h
    obtain ⟨t, _, h⟩ := bindS h
    split at h
    · obtain ⟨y, h2, h⟩ := bindS h
      cases h
      exact (evE_lk a _ _ _ _ h1).trans (evE_lk b _ _ _ _ h2)
    · cases h; exact evE_lk a _ _ _ _ h1
  | .orr a b, e, d, fr, e', h => by
    simp only [evE] at h
    obtain ⟨x, h1, h⟩ := bindS h
    obtain ⟨t, _, h⟩ := bindS h
    split at h
    · cases h; exact evE_lk a _ _ _ _ h1
    · obtain ⟨y, h2, h⟩ := bindS h
      cases h
      exact (evE_lk a _ _ _ _ h1).trans (evE_lk b _ _ _ _ h2)
  | .cmp o a b, e, d, fr, e', h => by
    simp only [evE] at h
    obtain ⟨x, h1, h⟩ := bindS h
    obtain ⟨y, h2, h⟩ := bindS h
    obtain ⟨_, _, h⟩ := bindS h
    obtain ⟨_, _, h⟩ := bindS h
    obtain ⟨_, _, h⟩ := bindS h
    cases h
    exact (hdl_lk (evE_lk a _) h1).trans (hdl_lk (evE_lk b _) h2)
  | .chain o o2 a b c, e, d, fr, e', h => by
    simp only [evE] at h
    obtain ⟨x, h1, h⟩ := bindS h
    obtain ⟨y, h2, h⟩ := bindS h
    obtain ⟨_, _, h⟩ := bindS h
    obtain ⟨_, _, h⟩ := bindS h
    obtain ⟨_, _, h⟩ := bindS h
    have k := (hdl_lk (evE_lk a _) h1).trans (hdl_lk (evE_lk b _) h2)
    split at h
    · obtain ⟨z, h3, h⟩ := bindS h
      obtain ⟨_, _, h⟩ := bindS h
      obtain ⟨_, _, h⟩ := bindS h
      obtain ⟨_, _, h⟩ := bindS h
      cases h
      exact k.trans (hdl_lk (evE_lk c _) h3)
    · cases h; exact k
  | .chain3 o o2 o3 a b c d, e, _, fr, e', h => by
    simp only [evE] at h
    obtain ⟨x, h1, h⟩ := bindS h
    obtain ⟨y, h2, h⟩ := bindS h
    obtain ⟨_, _, h⟩ := bindS h
    obtain ⟨_, _, h⟩ := bindS h
    obtain ⟨_, _, h⟩ := bindS h
    have k := (hdl_lk (evE_lk a _) h1).trans (hdl_lk (evE_lk b _) h2)
    split at h
    · obtain ⟨z, h3, h⟩ := bindS h
      obtain ⟨_, _, h⟩ := bindS h
      obtain ⟨_, _, h⟩ := bindS h
      obtain ⟨_, _, h⟩ := bindS h
      have k2 := k.trans (hdl_lk (evE_lk c _) h3)
      split at h
      · obtain ⟨u, h4, h⟩ := bindS h
        obtain ⟨_, _, h⟩ := bindS h
        obtain ⟨_, _, h⟩ := bindS h
        obtain ⟨_, _, h⟩ := bindS h
        cases h
        exact k2.trans (hdl_lk (evE_lk d _) h4)
      · cases h; exact k2
    · cases h; exact k
  | .ite c a b, e, d, fr, e', h => by
    simp only [evE] at h
    obtain ⟨x, h1, h⟩ := bindS h
    have k := evT_lk c _ _ _ h1
    split at h
    · exact k.trans (evE_lk a _ _ _ _ h)
    · exact k.trans (evE_lk b _ _ _ _ h)
  | .tup es, e, d, fr, e', h => by
    simp only [evE] at h
    obtain ⟨x, h1, h⟩ := bindS h
    split at h <;> cases h
    exact evEs_lk es _ _ _ h1
  | .lst es, e, d, fr, e', h => by
    simp only [evE] at h
    obtain ⟨x, h1, h⟩ := bindS h
    split at h <;> cases h
    exact evEs_lk es _ _ _ h1
  | .idx a b, e, d, fr, e', h => by
    simp only [evE] at h
    obtain ⟨x, h1, h⟩ := bindS h
    obtain ⟨y, h2, h⟩ := bindS h
    obtain ⟨_, _, h⟩ := bindS h
    obtain ⟨_, _, h⟩ := bindS h
    obtain ⟨_, _, h⟩ := bindS h
    cases h
    exact (hdl_lk (evE_lk a _) h1).trans (hdl_lk (evE_lk b _) h2)
  | .idxm a b, e, d, fr, e', h => by
    simp only [evE] at h
    obtain ⟨x, h1, h⟩ := bindS h
    obtain ⟨_, _, h⟩ := bindS h
    obtain ⟨y, h2, h⟩ := bindS h
    obtain ⟨_, _, h⟩ := bindS h
    obtain ⟨_, _, h⟩ := bindS h
    split at h
    · obtain ⟨_, _, h⟩ := bindS h
      cases h
      exact (hdl_lk (evE_lk a _) h1).trans (hdl_lk (evE_lk b _) h2)
    · cases h
  | .lenset c, e, d, fr, e', h => by
    simp only [evE] at h
    obtain ⟨x, h1, h⟩ := bindS h
    obtain ⟨_, _, h⟩ := bindS h
    obtain ⟨_, _, h⟩ := bindS h
    obtain ⟨_, _, h⟩ := bindS h
    split at h <;> cases h
    exact hdl_lk (evE_lk c _) h1
  | .join z b, e, d, fr, e', h => by
    simp only [evE] at h
    obtain ⟨y, h2, h⟩ := bindS h
    obtain ⟨_, _, h⟩ := bindS h
    obtain ⟨_, _, h⟩ := bindS h
    cases h
    exact hdl_lk (evE_lk b _) h2
  | .slc a lo hi, e, d, fr, e', h => by
    simp only [evE] at h
    obtain ⟨x, h1, h⟩ := bindS h
    obtain ⟨y, h2, h⟩ := bindS h
    obtain ⟨z, h3, h⟩ := bindS h
    obtain ⟨_, _, h⟩ := bindS h
    obtain ⟨_, _, h⟩ := bindS h
    cases h
    exact ((hdl_lk (evE_lk a _) h1).trans (evO_lk lo _ _ _ h2)).trans (evO_lk hi _ _ _ h3)
  | .rev a, e, d, fr, e', h => by
    simp only [evE] at h
    obtain ⟨x, h1, h⟩ := bindS h
    obtain ⟨_, _, h⟩ := bindS h
    obtain ⟨_, _, h⟩ := bindS h
    cases h
    exact hdl_lk (evE_lk a _) h1
  | .call f es, e, d, fr, e', h => by
    simp only [evE] at h
    obtain ⟨x, h1, h⟩ := bindS h
    obtain ⟨_, _, h⟩ := bindS h
    obtain ⟨_, _, h⟩ := bindS h
    exact (evHs_lk es _ _ _ h1).trans (aft_lk h)
  | .fn b es, e, d, fr, e', h => by
    simp only [evE] at h
    obtain ⟨x, h1, h⟩ := bindS h
    obtain ⟨_, _, h⟩ := bindS h
    obtain ⟨_, _, h⟩ := bindS h
    cases h
    exact evHs_lk es _ _ _ h1
  | .lc elt t it ifs own, e, d, fr, e', h => by
    simp only [evE] at h
    obtain ⟨⟨ds, lks, e1⟩, h1, h⟩ := bindS h
    obtain ⟨e2, h2, h⟩ := bindS h
    obtain ⟨⟨outs, e3⟩, h3, h⟩ := bindS h
    simp only at h1 h2 h3 h
    split at h <;> cases h
    obtain ⟨k1, k2⟩ := evI_lk it _ _ _ _ h1
    obtain ⟨k3, k4⟩ := fzO_no h2
    have k5 : LkO own (wip own e2) e3 := lcL_lk (fun d e r e' hs => by
      obtain ⟨e4, a1, hs⟩ := bindS hs
      obtain ⟨⟨b, e5⟩, a2, hs⟩ := bindS hs
      have l5 := (asN_lk t a1).trans (evTo_lk ifs _ _ _ a2)
      simp only at hs
      split at hs
      · obtain ⟨⟨r6, f6, e6⟩, a3, hs⟩ := bindS hs
        cases hs
        exact fun j n dl q => wip_lk j n dl ((l5.trans (evE_lk elt _ _ _ _ a3)) j dl q)
      · cases hs
        exact fun j n dl q => wip_lk j n dl (l5 j dl q)) h3
    intro j dl q
    have q1 := k1 j dl q
    have n : j ∉ own := fun z => k4 j z dl q1
    have q2 := rsto_lk (e0 := e2) j n dl (k5 j n dl (wip_lk j n dl (k3 j dl q1)))
    show (unls lks (rsto e2 own e3))[j]? = _
    rw [unls_get _ _ _ fun z => k2 j z dl q]
    exact q2
  | .gq al elt t it ifs own, e, d, fr, e', h => by
    simp only [evE] at h
    obtain ⟨⟨ds, lks, e1⟩, h1, h⟩ := bindS h
    obtain ⟨e2, h2, h⟩ := bindS h
    obtain ⟨⟨outs, e3⟩, h3, h⟩ := bindS h
    simp only at h1 h2 h3 h
    cases h
    obtain ⟨k1, k2⟩ := evI_lk it _ _ _ _ h1
    obtain ⟨k3, k4⟩ := fzO_no h2
    have k5 : LkO own (wip own e2) e3 := gqL_lk (fun d e r e' hs => by
      obtain ⟨e4, a1, hs⟩ := bindS hs
      obtain ⟨⟨b, e5⟩, a2, hs⟩ := bindS hs
      have l5 := (asN_lk t a1).trans (evTo_lk ifs _ _ _ a2)
      simp only at hs
      split at hs
      · obtain ⟨⟨r6, f6, e6⟩, a3, hs⟩ := bindS hs
        obtain ⟨q6, a4, hs⟩ := bindS hs
        cases hs
        exact fun j n dl q => wip_lk j n dl ((l5.trans (evE_lk elt _ _ _ _ a3)) j dl q)
      · cases hs
        exact fun j n dl q => wip_lk j n dl (l5 j dl q)) h3
    intro j dl q
    have q1 := k1 j dl q
    have n : j ∉ own := fun z => k4 j z dl q1
    have q2 := rsto_lk (e0 := e2) j n dl (k5 j n dl (wip_lk j n dl (k3 j dl q1)))
    show (unls lks (rsto e2 own e3))[j]? = _
    rw [unls_get _ _ _ fun z => k2 j z dl q]
    exact q2
  | .pop i, e, d, fr, e', h => by
    simp only [evE] at h
    split at h
    · rename_i ds hs
      obtain ⟨_, _, h⟩ := bindS h
      cases h
      exact .setOw hs
    · cases h
  | .popAt i c, e, d, fr, e', h => by
    simp only [evE] at h
    split at h
    · obtain ⟨x, h1, h⟩ := bindS h
      obtain ⟨_, _, h⟩ := bindS h
      obtain ⟨_, _, h⟩ := bindS h
      split at h
      · rename_i ds hs
        obtain ⟨_, _, h⟩ := bindS h
        obtain ⟨_, _, h⟩ := bindS h
        cases h
        exact (hdl_lk (evE_lk c _) h1).trans (.setOw hs)
      · cases h
    · cases h
  | .lstR it, e, d, fr, e', h => by
    simp only [evE] at h
    obtain ⟨⟨ds, l, e1⟩, h1, h⟩ := bindS h
    split at h <;> cases h
    obtain ⟨k1, k2⟩ := evI_lk it _ _ _ _ h1
    intro j dl q
    show (unls l e1)[j]? = _
    rw [unls_get _ _ _ fun z => k2 j z dl q]
    exact k1 j dl q
  | .tupR it, e, d, fr, e', h => by
    simp only [evE] at h
    obtain ⟨⟨ds, l, e1⟩, h1, h⟩ := bindS h
    split at h <;> cases h
    obtain ⟨k1, k2⟩ := evI_lk it _ _ _ _ h1
    intro j dl q
    show (unls l e1)[j]? = _
    rw [unls_get _ _ _ fun z => k2 j z dl q]
    exact k1 j dl q
theorem evT_lk : ∀ (c : CT), KpT (evT Φ c)
  | .val c, e, b, e', h => by
    simp only [evT] at h
    obtain ⟨x, h1, h⟩ := bindS h
    obtain ⟨_, _, h⟩ := bindS h
    obtain ⟨_, _, h⟩ := bindS h
    cases h
    exact hdl_lk (evE_lk c _) h1
  | .andd a b, e, _, e', h => by
    simp only [evT] at h
    obtain ⟨x, h1, h⟩ := bindS h
    have k := evT_lk a _ _ _ h1
    split at h
    · exact k.trans (evT_lk b _ _ _ h)
    · cases h; exact k
  | .orr a b, e, _, e', h => by
    simp only [evT] at h
    obtain ⟨x, h1, h⟩ := bindS h
    have k := evT_lk a _ _ _ h1
    split at h
    · cases h; exact k
    · exact k.trans (evT_lk b _ _ _ h)
  | .nott a, e, _, e', h => by
    simp only [evT] at h
    obtain ⟨x, h1, h⟩ := bindS h
    cases h
    exact evT_lk a _ _ _ h1
theorem evTo_lk : ∀ (c : Option CT), KpT (evTo Φ c)
  | none, e, _, e', h => by simp only [evTo] at h; cases h; exact .refl
  | some c, e, _, e', h => by simp only [evTo] at h; exact evT_lk c _ _ _ h
theorem evO_lk : ∀ (c : Option CE) (e : En) (o : Option Int) (e' : En), evO Φ c e = some (o, e') → LkE e e'
  | none, e, _, e', h => by simp only [evO] at h; cases h; exact .refl
  | some c, e, _, e', h => by
    simp only [evO] at h
    obtain ⟨x, h1, h⟩ := bindS h
    obtain ⟨_, _, h⟩ := bindS h
    obtain ⟨_, _, h⟩ := bindS h
    cases h
    exact hdl_lk (evE_lk c _) h1
theorem evEs_lk : ∀ (es : List CE), KpEs (evEs Φ es)
  | [], e, _, e', h => by simp only [evEs] at h; cases h; exact .refl
  | c :: r, e, _, e', h => by
    simp only [evEs] at h
    obtain ⟨x, h1, h⟩ := bindS h
    obtain ⟨y, h2, h⟩ := bindS h
    cases h
    exact (evE_lk c _ _ _ _ h1).trans (evEs_lk r _ _ _ h2)
theorem evHs_lk : ∀ (es : List CE) (e : En) (hs : List Hd) (e' : En), evHs Φ es e = some (hs, e') → LkE e e'
  | [], e, _, e', h => by simp only [evHs] at h; cases h; exact .refl
  | c :: r, e, _, e', h => by
    simp only [evHs] at h
    obtain ⟨x, h1, h⟩ := bindS h
    obtain ⟨y, h2, h⟩ := bindS h
    cases h
    exact (hdl_lk (evE_lk c _) h1).trans (evHs_lk r _ _ _ h2)
theorem evI_lk : ∀ (it : CI), KpI (evI Φ it)
  | .seq c, e, _, l, e', h => by
    simp only [evI] at h
    obtain ⟨x, h1, h⟩ := bindS h
    obtain ⟨_, _, h⟩ := bindS h
    obtain ⟨_, _, h⟩ := bindS h
    obtain ⟨_, h⟩ := Prod.mk.inj (Option.some.inj h)
    have q1 : (lock x.1 x.2).1 = l := by rw [h]
    have q2 : (lock x.1 x.2).2 = e' := by rw [h]
    subst q1 q2
    exact KpI.of (ds := []) (hdl_lk (evE_lk c _) h1) lock_lk fun j hj => lock_mem hj
  | .rng1 a, e, _, _, e', h => by
    simp only [evI] at h
    obtain ⟨x, h1, h⟩ := bindS h
    obtain ⟨_, _, h⟩ := bindS h
    obtain ⟨_, _, h⟩ := bindS h
    split at h <;> cases h
    exact ⟨hdl_lk (evE_lk a _) h1, fun j hj => by cases hj⟩
  | .rng2 a b, e, _, _, e', h => by
    simp only [evI] at h
    obtain ⟨x, h1, h⟩ := bindS h
    obtain ⟨y, h2, h⟩ := bindS h
    obtain ⟨_, _, h⟩ := bindS h
    obtain ⟨_, _, h⟩ := bindS h
    obtain ⟨_, _, h⟩ := bindS h
    obtain ⟨_, _, h⟩ := bindS h
    split at h <;> cases h
    exact ⟨(hdl_lk (evE_lk a _) h1).trans (hdl_lk (evE_lk b _) h2), fun j hj => by cases hj⟩
  | .rng3 a b c, e, _, _, e', h => by simp only [evI] at h; cases h
  | .enm c, e, _, l, e', h => by
    simp only [evI] at h
    obtain ⟨x, h1, h⟩ := bindS h
    obtain ⟨_, _, h⟩ := bindS h
    obtain ⟨_, _, h⟩ := bindS h
    obtain ⟨_, h⟩ := Prod.mk.inj (Option.some.inj h)
    have q1 : (lock x.1 x.2).1 = l := by rw [h]
    have q2 : (lock x.1 x.2).2 = e' := by rw [h]
    subst q1 q2
    exact KpI.of (ds := []) (hdl_lk (evE_lk c _) h1) lock_lk fun j hj => lock_mem hj
  | .zip a b, e, _, _, e', h => by
    simp only [evI] at h
    obtain ⟨x, h1, h⟩ := bindS h
    obtain ⟨y, h2, h⟩ := bindS h
    obtain ⟨_, _, h⟩ := bindS h
    obtain ⟨_, _, h⟩ := bindS h
    obtain ⟨_, _, h⟩ := bindS h
    cases h
    refine KpI.of (ds := []) ((hdl_lk (evE_lk a _) h1).trans (hdl_lk (evE_lk b _) h2)) (lock_lk.trans lock_lk) fun j hj => ?_
    rcases List.mem_append.mp hj with hj | hj
    · exact lock_mem hj
    · obtain ⟨ds, q⟩ := lock_mem hj
      unfold lock at q
      split at q
      · split at q
        · rcases get_set q with ⟨_, z⟩ | ⟨_, q⟩
          · cases z
          · exact ⟨ds, q⟩
        · exact ⟨ds, q⟩
      · exact ⟨ds, q⟩
end
end RV

set_option maxHeartbeats 1000000
namespace RZ2
open PySem PySem.Spec PyProof.Rows L2 RZ
/-! ### zip of a list and a tuple -/
theorem Draws.tuple {prog : Program} {w : World} {A : Around} (hh : A.handled = none) (it l : Addr) (hne : l ≠ it) (items : Array Value) :
    Draws prog w A it [it, l] items.size (fun i x => items[i]? = some x) (fun i h => h.IsTupleIter it l i ∧ h.IsTuple l items) where
  live := fun i h st => by obtain ⟨o, ho, _⟩ := st.1; exact ⟨o, ho⟩
  frame := fun i h h' st k => ⟨st.1.at fun o e => k it (by simp) o e, st.2.at fun o e => k l (by simp) o e⟩
  item := fun i s Q E hi st hQ => by
    obtain ⟨x, hx⟩ : ∃ x, items[i]? = some x := ⟨items[i], by simp [hi]⟩
    refine nextOf_tuple_item st.1 st.2 hx fun h' h1 hs => ?_
    exact hQ x h' s.toks hx ⟨h1, st.2.extBut hs.extBut hne⟩ hs
  done := fun s Q E st hE => nextOf_tuple_end hh st.1 st.2 (by simp) fun h' e hk he => hE h' e hk he
abbrev zmH1 (h : Heap) (l1 : Addr) : Heap := h.push { cls := .type "list_iterator", data := .fields #[.ref l1, .int 0 0] }
abbrev zmH2 (h : Heap) (l1 l2 : Addr) : Heap := (zmH1 h l1).push { cls := .type "tuple_iterator", data := .fields #[.ref l2, .int 0 0] }
abbrev zmH3 (h : Heap) (l1 l2 : Addr) : Heap := (zmH2 h l1 l2).push { cls := .type "tuple", data := .seq #[.ref h.objs.size, .ref (zmH1 h l1).objs.size] }
abbrev zmH4 (h : Heap) (l1 l2 : Addr) : Heap := (zmH3 h l1 l2).push { cls := .type "tuple", data := .seq #[.none, .none] }
abbrev zmH5 (h : Heap) (l1 l2 : Addr) : Heap := (zmH4 h l1 l2).push { cls := .type "zip", data := .fields #[.none, .bool false, .bool false, .ref (zmH2 h l1 l2).objs.size, .ref (zmH3 h l1 l2).objs.size] }
theorem meets_zm (l1 l2 : Addr) (xs ys : Array Value) :
    Meets (Builtin.«zip.__new__» ⟨[.type "zip", .ref l1, .ref l2], []⟩) (fun _ R s => s.heap.IsList l1 xs ∧ s.heap.IsTuple l2 ys ∧
      R (.ok (.ret (.ref (zmH4 s.heap l1 l2).objs.size))) { s with heap := zmH5 s.heap l1 l2 }) :=
  .of_wp fun prog w A R s h => by
    obtain ⟨hp, g, d, tk, os⟩ := s; obtain ⟨hl1, hl2, h⟩ := h
    have hsub := sub_zip
    have hL1 : Heap.IsList (Shared.heap ⟨hp, g, d, tk, os⟩) l1 xs := hl1
    have hL2 : Heap.IsTuple (Shared.heap ⟨hp.push { cls := .type "list_iterator", data := .fields #[.ref l1, .int 0 0] }, g, d, tk, os⟩) l2 ys := Heap.IsTuple.push hl2 _
    wp_walk using wpAny_pyIter_list hL1, wpAny_pyIter_tuple hL2
    exact ⟨_, rfl, h⟩
section
variable {prog : Program} {w : World} {A : Around} {E : Value → Shared → Prop} {s : Shared}
theorem call_zm {l1 l2 : Addr} {xs ys : Array Value} {Q : Value → Shared → Prop} (hl1 : s.heap.IsList l1 xs) (hl2 : s.heap.IsTuple l2 ys)
    (h : ∀ h', IsZip h' (s.heap.objs.size + 4) (s.heap.objs.size + 2) (s.heap.objs.size + 3) .none → IsPair h' (s.heap.objs.size + 2) (.ref s.heap.objs.size) (.ref (s.heap.objs.size + 1)) →
      IsPair h' (s.heap.objs.size + 3) .none .none → h'.IsListIter s.heap.objs.size l1 0 → h'.IsTupleIter (s.heap.objs.size + 1) l2 0 → h'.objs.size = s.heap.objs.size + 5 →
      (∀ c o, s.heap.get? c = some o → h'.get? c = some o) → Q (.ref (s.heap.objs.size + 4)) { s with heap := h' }) :
    wpAny (model prog w) A (call (.type "zip") [.ref l1, .ref l2]) Q E s := by
  refine callType_new F.called_zip (by decide) (F.typeCall_zip_2 _ _) (F.newCall_zip_2 _ _) (fun obj => F.args_object_init_3 obj _ _) F.entry_zip_new
    (meets_zm l1 l2 xs ys) ⟨hl1, hl2, ?_⟩
  have z1 : (zmH1 s.heap l1).objs.size = s.heap.objs.size + 1 := Heap.size_push ..
  have z2 : (zmH2 s.heap l1 l2).objs.size = s.heap.objs.size + 2 := by rw [Heap.size_push, z1]
  have z3 : (zmH3 s.heap l1 l2).objs.size = s.heap.objs.size + 3 := by rw [Heap.size_push, z2]
  have z4 : (zmH4 s.heap l1 l2).objs.size = s.heap.objs.size + 4 := by rw [Heap.size_push, z3]
  have z5 : (zmH5 s.heap l1 l2).objs.size = s.heap.objs.size + 5 := by rw [Heap.size_push, z4]
  have g5 : (zmH5 s.heap l1 l2).get? (zmH4 s.heap l1 l2).objs.size = some _ := Heap.get?_push_size _ rfl
  have g4 : (zmH5 s.heap l1 l2).get? (zmH3 s.heap l1 l2).objs.size = some _ := Heap.get?_push_of_some _ (Heap.get?_push_size _ rfl)
  have g3 : (zmH5 s.heap l1 l2).get? (zmH2 s.heap l1 l2).objs.size = some _ := Heap.get?_push_of_some _ (Heap.get?_push_of_some _ (Heap.get?_push_size _ rfl))
  have g2 : (zmH5 s.heap l1 l2).get? (zmH1 s.heap l1).objs.size = some _ := Heap.get?_push_of_some _ (Heap.get?_push_of_some _ (Heap.get?_push_of_some _ (Heap.get?_push_size _ rfl)))
  have g1 : (zmH5 s.heap l1 l2).get? s.heap.objs.size = some _ := Heap.get?_push_of_some _ (Heap.get?_push_of_some _ (Heap.get?_push_of_some _ (Heap.get?_push_of_some _ (Heap.get?_push_size _ rfl))))
  show _ ∧ _
  rw [z2, z3, z4] at g5
  rw [z1, z2] at g3
  rw [z3] at g4
  rw [z1] at g2
  rw [z4]
  exact ⟨⟨_, g5, rfl⟩, h _ g5 g3 g4 ⟨_, g1, rfl, rfl⟩ ⟨_, g2, rfl, rfl⟩ z5 fun c o x =>
    Heap.get?_push_of_some _ (Heap.get?_push_of_some _ (Heap.get?_push_of_some _ (Heap.get?_push_of_some _ (Heap.get?_push_of_some _ x))))⟩
end
theorem sep_of {z TI TO i1 i2 a b : Addr} (D : ZipApart z TI TO i1 i2 a b) : ZipSep2 z TI TO i1 i2 [i1, a] [i2, b] where
  TIz := D.TIz
  TOz := D.TOz
  TITO := D.TITO
  TIi1 := D.TIi1
  mem1 := by simp
  zf1 := fun h => by
    have h : z = i1 ∨ z = a := by simpa using h
    exact h.elim (fun e => D.i1z e.symm) fun e => D.l1z e.symm
  Tf1 := fun h => by
    have h : TO = i1 ∨ TO = a := by simpa using h
    exact h.elim D.TOi1 fun e => D.l1TO e.symm
  TIi2 := D.TIi2
  mem2 := by simp
  zf2 := fun h => by
    have h : z = i2 ∨ z = b := by simpa using h
    exact h.elim (fun e => D.i2z e.symm) fun e => D.l2z e.symm
  Tf2 := fun h => by
    have h : TO = i2 ∨ TO = b := by simpa using h
    exact h.elim D.TOi2 fun e => D.l2TO e.symm
  sep1_2 := fun h => by
    have h : i1 = i2 ∨ i1 = b := by simpa using h
    exact h.elim D.i12 fun e => D.l2i1 e.symm
  sep2_1 := fun h => by
    have h : i2 = i1 ∨ i2 = a := by simpa using h
    exact h.elim (fun e => D.i12 e.symm) fun e => D.l1i2 e.symm
/-- the list at a, the tuple at b as they stand at each turn, the items in new pairs -/
def ItzM (K : PySem.W.Frag) (a b : Addr) : It :=
  ⟨fun i H => ∃ (xs ys : List V) (x y : V), SqL K H a xs ∧ SqT K H b ys ∧ xs[i]? = some x ∧ ys[i]? = some y,
    fun i H v H' => ∃ T x y, v = .ref T ∧ H T = none ∧ H' = upd H T (.tup [x, y]) ∧ (∀ xs, SqL K H a xs → xs[i]? = some x) ∧ ∀ ys, SqT K H b ys → ys[i]? = some y,
    fun i H => ∃ xs ys : List V, SqL K H a xs ∧ SqT K H b ys ∧ i ≤ xs.length ∧ i ≤ ys.length ∧ (xs.length = i ∨ ys.length = i)⟩
theorem turn_zipM {P : Program} {w : World} {K : PySem.W.Frag} {elts : List Expr} {kk : Nat} {tpos : Pos} {a b z TI TO i1 i2 : Addr} (D : ZipApart z TI TO i1 i2 a b) :
    Turn P w K (.Tuple elts kk tpos) (ItzM K a b) [z, TI, TO, i1, i2] z (fun i h => IsZip h z TI TO .none ∧ IsPair h TI (.ref i1) (.ref i2) ∧ (∃ x y, IsPair h TO x y) ∧ h.IsListIter i1 a i ∧ h.IsTupleIter i2 b i) where
  mem := by simp
  obj := fun i h st c hc => by
    obtain ⟨hz, hTI, ⟨x, y, hTO⟩, ⟨o1, e1, _, d1⟩, ⟨o2, e2, _, d2⟩⟩ := st
    have e' : c = z ∨ c = TI ∨ c = TO ∨ c = i1 ∨ c = i2 := by simpa using hc
    rcases e' with q | q | q | q | q
    · rw [q]; exact ⟨_, hz, fun v q => nomatch q⟩
    · rw [q]; exact ⟨_, hTI, fun v q => nomatch q⟩
    · rw [q]; exact ⟨_, hTO, fun v q => nomatch q⟩
    · rw [q]; exact ⟨o1, e1, fun v q => by rw [d1] at q; cases q⟩
    · rw [q]; exact ⟨o2, e2, fun v q => by rw [d2] at q; cases q⟩
  keep := fun i h h' st k => by
    obtain ⟨hz, hTI, ⟨x, y, hTO⟩, h1, h2⟩ := st
    exact ⟨k z (by simp) _ hz, k TI (by simp) _ hTI, ⟨x, y, k TO (by simp) _ hTO⟩, h1.at fun o q => k i1 (by simp) o q, h2.at fun o q => k i2 (by simp) o q⟩
  item := by
    intro X hP hw hK hc i pins s σ H E I hf st hg
    subst hP hw hK
    obtain ⟨hz, hTI, ⟨x0, y0, hTO⟩, h1, h2⟩ := st
    obtain ⟨xs, ys, x, y, hqx, hqy, hx, hy⟩ := hg
    obtain ⟨its, rv, p, _⟩ := I.list hqx
    obtain ⟨its2, rv2, p2, _⟩ := I.tuple hqy
    obtain ⟨u, hu, ru⟩ := rv.get hx
    obtain ⟨u2, hu2, ru2⟩ := rv2.get hy
    have hzl : z < s.heap.objs.size := Heap.lt_size hz
    have hh : X.A.in1.handled = none := I.ok.hd hc
    have D1 := Draws.list (prog := X.prog) (w := X.w) hh i1 a D.l1i1 its.toArray
    have D2 := Draws.tuple (prog := X.prog) (w := X.w) hh i2 b D.l2i2 its2.toArray
    have hlt1 : i < its.toArray.size := by simpa using (List.getElem?_eq_some_iff.mp hu).1
    have hlt2 : i < its2.toArray.size := by simpa using (List.getElem?_eq_some_iff.mp hu2).1
    refine wpAny_pyNext_zipD2_item (sep_of D) D1 D2 hz hTI hTO ⟨h1, p.isList⟩ ⟨h2, p2⟩ hlt1 hlt2 fun v1 v2 h' tk e1 e2 z' TO' st1 st2 hT hsz hk => ?_
    have e1 : its[i]? = some v1 := by simpa using e1
    have e2 : its2[i]? = some v2 := by simpa using e2
    rw [hu] at e1; cases e1
    rw [hu2] at e2; cases e2
    obtain ⟨h1', _⟩ := st1
    obtain ⟨h2', _⟩ := st2
    refine ⟨_, rfl, wpAny_letOwnedTupleGo_zip (s := { s with heap := h', toks := tk }) z' fun h'' z'' sb => ?_⟩
    have hT2 : h''.get? s.heap.objs.size = some { cls := .type "tuple", data := .seq #[u, u2] } := (sb.2 _ (Nat.ne_of_gt hzl)).trans hT
    have new : ObjOk X.prog X.w (upd H s.heap.objs.size (.tup [x, y])) h'' s.heap.objs.size (.tup [x, y]) :=
      ⟨by show 2 ≤ sizeLine; decide, [u, u2], .cons ru (.cons ru2 .nil), ⟨_, hT2, rfl, _, rfl⟩⟩
    have I1 : Inv X pins σ (upd H s.heap.objs.size (.tup [x, y])) { s with heap := h'', toks := tk } :=
      I.turnedNew (t' := tk) (ch := [z, TI, TO, i1, i2]) (fun c o hb q => (sb.2 c (fun q' => hb (by simp [q']))).trans (hk c o (fun q' => hb (by simp [q'])) (fun q' => hb (by simp [q'])) (fun q' => hb (by simp [q'])) (fun q' => hb (by simp [q'])) q)) hf (Nat.le_refl _) new
    refine ⟨.ref s.heap.objs.size, _, I1, rfl, ⟨_, x, y, rfl, I.hok.fresh (Nat.le_refl _), rfl, fun l hl => by rw [I.list_inj hl hqx]; exact hx, fun l hl => by rw [I.tuple_inj hl hqy]; exact hy⟩, ⟨z'', ?_, ⟨u, u2, ?_⟩, ?_, ?_⟩, fun c hcm => ?_⟩
    · exact (sb.2 _ D.TIz).trans (hk _ _ D.TIz D.TITO D.TIi1 D.TIi2 hTI)
    · exact (sb.2 _ D.TOz).trans TO'
    · exact h1'.at fun o q => (sb.2 _ D.i1z).trans q
    · exact h2'.at fun o q => (sb.2 _ D.i2z).trans q
    · have hlt : c < s.heap.objs.size := by
        have e' : c = z ∨ c = TI ∨ c = TO ∨ c = i1 ∨ c = i2 := by simpa using hcm
        rcases e' with q | q | q | q | q
        · rw [q]; exact hzl
        · rw [q]; exact Heap.lt_size hTI
        · rw [q]; exact Heap.lt_size hTO
        · rw [q]; obtain ⟨_, e1, _⟩ := h1; exact Heap.lt_size e1
        · rw [q]; obtain ⟨_, e2, _⟩ := h2; exact Heap.lt_size e2
      rw [upd_ne (Nat.ne_of_lt hlt)]
      exact (hf c hcm).1
  done := by
    intro X hP hw hK hc i pins s σ H E I hf st hg
    subst hP hw hK
    obtain ⟨hz, hTI, ⟨x0, y0, hTO⟩, h1, h2⟩ := st
    obtain ⟨xs, ys, hqx, hqy, b1, b2, hend⟩ := hg
    obtain ⟨its, rv, p, _⟩ := I.list hqx
    obtain ⟨its2, rv2, p2, _⟩ := I.tuple hqy
    have l1 := rv.length
    have l2 := rv2.length
    have hh : X.A.in1.handled = none := I.ok.hd hc
    have D1 := Draws.list (prog := X.prog) (w := X.w) hh i1 a D.l1i1 its.toArray
    have D2 := Draws.tuple (prog := X.prog) (w := X.w) hh i2 b D.l2i2 its2.toArray
    refine wpAny_pyNext_zipD2_end (sep_of D) D1 D2 hz hTI hTO ⟨h1, p.isList⟩ ⟨h2, p2⟩ (by simp; omega) (by simp; omega) (by simp; omega) fun h' tk hk => ⟨rfl, I.turnedL (t' := tk) (ch := [z, TI, TO, i1, i2]) (fun c o hb q =>
      hk c o (fun q' => hb (by simp [q'])) (fun q' => hb (by simp [q'])) (fun q' => hb (by simp [q'])) (fun q' => hb (by simp [q'])) q) hf⟩
  self := fun A i s Q E st h => wpAny_pyIter_zip st.1 h
/-- zip of two lists, two tuples, a list and a tuple -/
def iZipB (K : PySem.W.Frag) (ta : TA) : TI := fun σ H R => ta σ H fun vs H1 => ∃ a b xs ys, vs = [.ref a, .ref b] ∧ ((SqL K H1 a xs ∧ SqL K H1 b ys ∧ R (Itz K a b) H1) ∨ (SqT K H1 a xs ∧ SqT K H1 b ys ∧ R (ItzT K a b) H1) ∨ (SqL K H1 a xs ∧ SqT K H1 b ys ∧ R (ItzM K a b) H1))
theorem pi_zipB {X : Cx} {e e2 : Expr} {ta : TA} {p pos tpos : Pos} {elts : List Expr} {kk : Nat} (hg : Gl X "zip") (hm : X.mg "zip" = none) (ha : PA X [e, e2] ta)
    (hs : starEach [e, e2] X.env = (false, eval e X.env) :: starEach [e2] X.env := by rfl) (hpl : (backTo pos (starEach [e2] X.env)).any (·.1) = false := by rfl) :
    PI X (.Tuple elts kk tpos) (.Call (.Name "zip" p) [e, e2] [] pos) (iZipB X.K ta) := by
  refine ⟨fun pins s σ H R I h => ?_⟩
  refine Call_ (ld_blt I hg hm PyProof.Rows.boot_zip (PyProof.Rows.callWith_type1 (thn (ha.run pos pins s σ H _ I h) fun us s1 ⟨vs, H1, I1, r1, q1⟩ => ?_) hs hpl))
  obtain ⟨a, b, xs, ys, ex, q1⟩ := q1
  subst ex
  cases r1 with
  | cons r rr =>
    cases rr with
    | cons r' rr =>
      cases rr
      cases r
      cases r'
      have fresh5 : ∀ c, c ∈ [s1.heap.objs.size + 4, s1.heap.objs.size + 2, s1.heap.objs.size + 3, s1.heap.objs.size, s1.heap.objs.size + 1] → FpOk X pins H1 c := fun c hcm => by
        have e' : c = s1.heap.objs.size + 4 ∨ c = s1.heap.objs.size + 2 ∨ c = s1.heap.objs.size + 3 ∨ c = s1.heap.objs.size ∨ c = s1.heap.objs.size + 1 := by simpa using hcm
        have hle : s1.heap.objs.size ≤ c := by
          rcases e' with z | z | z | z | z
          · rw [z]; exact Nat.le_add_right _ _
          · rw [z]; exact Nat.le_add_right _ _
          · rw [z]; exact Nat.le_add_right _ _
          · rw [z]; exact Nat.le_refl _
          · rw [z]; exact Nat.le_add_right _ _
        exact I1.fpOk hle (I1.hok.fresh hle)
      rcases q1 with ⟨hqx, hqy, q⟩ | ⟨hqx, hqy, q⟩ | ⟨hqx, hqy, q⟩
      · obtain ⟨its, rv, p1, _⟩ := I1.list hqx
        obtain ⟨its2, rv2, p2, _⟩ := I1.list hqy
        refine call_zip_2 p1.isList p2.isList fun h' hz hTI hTO h1 h2 hsz hk => wpAny_pyIter_zip hz ?_
        have I2 : Inv X pins σ H1 { s1 with heap := h' } := I1.kept (t' := s1.toks) hk
        exact ⟨s1.heap.objs.size + 4, [s1.heap.objs.size + 4, s1.heap.objs.size + 2, s1.heap.objs.size + 3, s1.heap.objs.size, s1.heap.objs.size + 1], _, _, H1, rfl, I2, turn_zip (PySem.W.ktu_apart s1.heap.objs.size a b p1.lt p2.lt), ⟨hz, hTI, ⟨_, _, hTO⟩, h1, h2⟩, fresh5, q⟩
      · obtain ⟨its, rv, p1, _⟩ := I1.tuple hqx
        obtain ⟨its2, rv2, p2, _⟩ := I1.tuple hqy
        obtain ⟨o1, ho1, _⟩ := id p1
        obtain ⟨o2, ho2, _⟩ := id p2
        refine call_zipT (show s1.heap.IsTuple a its.toArray from p1) (show s1.heap.IsTuple b its2.toArray from p2) fun h' hz hTI hTO h1 h2 hsz hk => wpAny_pyIter_zip hz ?_
        have I2 : Inv X pins σ H1 { s1 with heap := h' } := I1.kept (t' := s1.toks) hk
        exact ⟨s1.heap.objs.size + 4, [s1.heap.objs.size + 4, s1.heap.objs.size + 2, s1.heap.objs.size + 3, s1.heap.objs.size, s1.heap.objs.size + 1], _, _, H1, rfl, I2, turn_zipT (PySem.W.ktu_apart s1.heap.objs.size a b (Heap.lt_size ho1) (Heap.lt_size ho2)), ⟨hz, hTI, ⟨_, _, hTO⟩, h1, h2⟩, fresh5, q⟩
      · obtain ⟨its, rv, p1, _⟩ := I1.list hqx
        obtain ⟨its2, rv2, p2, _⟩ := I1.tuple hqy
        obtain ⟨o2, ho2, _⟩ := id p2
        refine call_zm p1.isList (show s1.heap.IsTuple b its2.toArray from p2) fun h' hz hTI hTO h1 h2 hsz hk => wpAny_pyIter_zip hz ?_
        have I2 : Inv X pins σ H1 { s1 with heap := h' } := I1.kept (t' := s1.toks) hk
        exact ⟨s1.heap.objs.size + 4, [s1.heap.objs.size + 4, s1.heap.objs.size + 2, s1.heap.objs.size + 3, s1.heap.objs.size, s1.heap.objs.size + 1], _, _, H1, rfl, I2, turn_zipM (PySem.W.ktu_apart s1.heap.objs.size a b p1.lt (Heap.lt_size ho2)), ⟨hz, hTI, ⟨_, _, hTO⟩, h1, h2⟩, fresh5, q⟩
end RZ2

namespace RV
open PySem PySem.Spec PyProof.Rows L2
variable [Tb]
/-! ### index -/
theorem idxOfD_some {ds : List PyData} {d : PyData} {j : Nat} (h : idxOfD ds d = some j) : ∃ hj : j < ds.length, PyData.eqv ds[j] d = true ∧ ∀ (m : Nat) (hm : m < j), PyData.eqv (ds[m]'(by omega)) d = false := by
  obtain ⟨h1, h2, h3⟩ := List.findIdx?_eq_some_iff_getElem.mp h
  exact ⟨h1, h2, fun m hm => by have := h3 m hm; simpa using this⟩
section
variable {X : Cx} {a b : Expr} {pos : Pos} {fa fb : En → Option (Hd × En)} {K : PySem.W.Frag} {H H' : Hp} {O O' : OZ}
theorem item_at {h : Heap} {us : List Value} {ds : List PyData} {as : List Addr} (hc : PyData.canLayAll0 ds = true) (ra : ReadsAll h us ds as) : us.length = ds.length ∧ ∀ (m : Nat) (hm : m < us.length) (hd : m < ds.length), SeqAt.readOf h us[m] = ds[m] := by
  have e := SeqAt.readsAll_map ds us as hc ra
  refine ⟨by rw [← e, List.length_map], fun m hm hd => ?_⟩
  have : (us.map (SeqAt.readOf h))[m]? = ds[m]? := by rw [e]
  rw [List.getElem?_map, List.getElem?_eq_getElem hm, List.getElem?_eq_getElem hd] at this
  exact Option.some.inj this
def rIdxT (K : PySem.W.Frag) : V → List V → Hp → VK → Prop := fun x vs H Q => ∃ p xs ds y d j, x = .ref p ∧ vs = [y] ∧ SqT K H p xs ∧ DpAll K H xs ds ∧ Dp K H y d ∧ PyData.canLayAll0 ds = true ∧ d.canLay0 = true ∧ d.depth < 100 ∧ idxOfD ds d = some j ∧ Q (.int (j : Nat)) H
theorem mt_idxT (hu : X.A.units + 200 < cLine) : MtR X "tuple.index" (rIdxT X.K) := by
  intro pins s σ H x xs v us Q I rx rs h
  obtain ⟨p, xs', ds, y, d, j, rfl, rfl, hq, hxs, hy, hc, hd, hdp, hj, q⟩ := h
  cases rx
  obtain ⟨u, rfl, ru⟩ := Vals.one rs
  obtain ⟨its, r, pl, hz⟩ := I.tuple hq
  obtain ⟨as, r1⟩ := Dp.readsAll I ds xs' its hxs r
  obtain ⟨bs, r2⟩ := Dp.reads I d y u hy ru
  obtain ⟨e1, e2⟩ := item_at hc r1
  obtain ⟨⟨cls, dd, dt, sl⟩, ho, hcl, n, hdt⟩ := pl
  simp only at hcl hdt
  subst hcl
  subst hdt
  obtain ⟨h1, h2, h3⟩ := idxOfD_some hj
  refine call_meets PySem.F.slot_tuple_index ⟨_, ho, rfl⟩ PySem.F.entry_tuple_index (PySem.F.args_tuple_index_2 _ _) (TI.tuple_indexAt p its.toArray n dd sl u (fun w => PyData.eqv (SeqAt.readOf s.heap w) d) j (by simpa [e1] using h1) ?_ ?_)
    ⟨ho, SeqAt.items_eqAt (by simpa using r1) r2 hc hd (by have : min (PyData.depthAll ds) d.depth ≤ d.depth := Nat.min_le_right _ _; omega), ⟨.int (j : Nat), H, I.tok _, ⟨_, rfl⟩, q⟩⟩
  · show PyData.eqv (SeqAt.readOf s.heap (its.toArray[j]'(by simpa [e1] using h1))) d = true
    rw [show its.toArray[j]'(by simpa [e1] using h1) = its[j]'(by omega) by simp, e2 j (by omega) h1]
    exact h2
  · intro m hm hmj
    show PyData.eqv (SeqAt.readOf s.heap its.toArray[m]) d = false
    rw [show its.toArray[m] = its[m]'(by omega) by simp, e2 m (by omega) (by omega)]
    exact h3 m hmj
def rIdxL (K : PySem.W.Frag) : V → List V → Hp → VK → Prop := fun x vs H Q => ∃ p xs ds y d j, x = .ref p ∧ vs = [y] ∧ SqL K H p xs ∧ DpAll K H xs ds ∧ Dp K H y d ∧ PyData.canLayAll0 ds = true ∧ d.canLay0 = true ∧ d.depth < 100 ∧ ds.length ≤ sizeLine ∧ idxOfD ds d = some j ∧ Q (.int (j : Nat)) H
theorem mt_idxL (hu : X.A.units + 200 < cLine) : MtR X "list.index" (rIdxL X.K) := by
  intro pins s σ H x xs v us Q I rx rs h
  obtain ⟨p, xs', ds, y, d, j, rfl, rfl, hq, hxs, hy, hc, hd, hdp, hsz, hj, q⟩ := h
  cases rx
  obtain ⟨u, rfl, ru⟩ := Vals.one rs
  obtain ⟨its, r, pl, hz⟩ := I.list hq
  obtain ⟨as, r1⟩ := Dp.readsAll I ds xs' its hxs r
  obtain ⟨bs, r2⟩ := Dp.reads I d y u hy ru
  obtain ⟨e1, e2⟩ := item_at hc r1
  obtain ⟨⟨cls, dd, dt, sl⟩, n, ho, hcl, hdd, hdt⟩ := pl
  simp only at hcl hdt
  subst hcl
  subst hdt
  obtain ⟨h1, h2, h3⟩ := idxOfD_some hj
  have h63 := line63
  refine call_meets PySem.F.slot_list_index ⟨_, ho, rfl⟩ PySem.F.entry_list_index (PySem.F.args_list_index_2 _ _) (SeqAt.list_indexAt p its.toArray n dd sl u (fun w => PyData.eqv (SeqAt.readOf s.heap w) d) j (by simpa [e1] using h1) (by omega) ?_ ?_)
    ⟨ho, SeqAt.items_eqAt (by simpa using r1) r2 hc hd (by have : min (PyData.depthAll ds) d.depth ≤ d.depth := Nat.min_le_right _ _; omega), ⟨.int (j : Nat), H, I.tok _, ⟨_, rfl⟩, q⟩⟩
  · show PyData.eqv (SeqAt.readOf s.heap (its.toArray[j]'(by simpa [e1] using h1))) d = true
    rw [show its.toArray[j]'(by simpa [e1] using h1) = its[j]'(by omega) by simp, e2 j (by omega) h1]
    exact h2
  · intro m hm hmj
    show PyData.eqv (SeqAt.readOf s.heap its.toArray[m]) d = false
    rw [show its.toArray[m] = its[m]'(by omega) by simp, e2 m (by omega) (by omega)]
    exact h3 m hmj
/-- what a method of a list or tuple starts from -/
def isSeq (K : PySem.W.Frag) (H : Hp) (x : V) : Prop := ∃ p, x = .ref p ∧ ((∃ xs, SqU H p xs) ∨ ∃ xs, SqL K H p xs)
def tIdx (X : Cx) (ta tb : TE) : TE := fun σ H Q => ta σ H fun x H1 => ∃ p, x = .ref p ∧
  (((∃ xs, SqU H1 p xs) ∧ tb σ H1 fun y H2 => rIdxT X.K (.ref p) [y] H2 Q) ∨ ((∃ xs, SqL X.K H1 p xs) ∧ tb σ H1 fun y H2 => rIdxL X.K (.ref p) [y] H2 Q))
theorem pe_idx {ta tb : TE} {apos cpos : Pos} (hu : X.A.units + 200 < cLine) (ga : PE X a ta) (gb : PE X b tb) (hp : plainE b = true) (hbase : attributeBase a "index" X.env (eval a X.env) = eval a X.env) (hline : (apos.endLine == cpos.line) = true) :
    PE X (.Call (.Attribute a "index" apos) [b] [] cpos) (tIdx X ta tb) := by
  refine ⟨fun pins s σ H Q I h => ?_⟩
  refine wpAny_Call_method_late hbase (few_plain hp) hline rfl (thn (ga.run pins s σ H _ I h) fun v s1 ⟨x, H1, I1, r1, p, e, q1⟩ => ?_)
  subst e
  cases r1
  have fin : ∀ (T : String) (id : String) (r : V → List V → Hp → VK → Prop), PlainAttrs T → Slot T "index" id → typeOf (.builtin id) = pure (.type "method_descriptor") → s1.TypeIs (.ref p) T → (∃ ob, s1.heap.get? p = some ob ∧ ob.dict = none) → MtR X id r → (tb σ H1 fun y H2 => r (.ref p) [y] H2 Q) →
      MethodOn X.prog X.w X.A "index" cpos (.ref p) (backTo cpos (starEach [b] X.env)) (EP X pins σ Q) X.xe s1 := by
    intro T id r pa sl ty h1 h2 hm hb
    have hA := (pa_cons gb pa_nil (star_plain hp _ _)).run cpos pins s1 σ H1 (fun vs H2 => r (.ref p) vs H2 Q) I1 hb
    rw [star_plain hp] at hA ⊢
    exact ⟨T, id, pa, sl, ty, h1, fun a e => by cases e; exact h2, Calls.callWith_builtin (by rfl) (Calls.evalArgs_plain (thn hA fun us s2 ⟨vs, H2, I2, r2, q2⟩ => hm pins s2 σ H2 (.ref p) vs _ us Q I2 (by exact rfl) r2 q2))⟩
  rcases q1 with ⟨⟨xs, hs⟩, q1⟩ | ⟨⟨xs, hs⟩, q1⟩
  · obtain ⟨its, _, ⟨o, e, hc, _⟩, _⟩ := I1.tuple hs.t
    obtain ⟨o', e', hd⟩ := hs
    have e2 := (I1.hok p _ e').1
    exact fin "tuple" "tuple.index" _ PySem.F.plainAttrs_tuple PySem.F.slot_tuple_index PySem.F.type_tuple_index ⟨o, e, hc⟩ ⟨o', e2, hd⟩ (mt_idxT hu) q1
  · obtain ⟨its, _, pl, _⟩ := I1.list hs
    have ti := pl.isList.typeIs
    obtain ⟨o, n, e, c, hd, _⟩ := pl
    exact fin "list" "list.index" _ PySem.F.plainAttrs_list PySem.F.slot_list_index PySem.F.type_list_index ti ⟨o, e, hd⟩ (mt_idxL hu) q1
theorem shaped_all {ds : List PyData} (h : SeqAt.shaped (.tuple ds) = true) : PyData.canLayAll0 ds = true := by
  have := shaped_lay h
  simpa [PyData.canLay0] using this
theorem shaped_allL {ds : List PyData} (h : SeqAt.shaped (.list ds) = true) : PyData.canLayAll0 ds = true := by
  have := shaped_lay h
  simpa [PyData.canLay0] using this
theorem sameSeq_ok {d0 d1 : PyData} (h : sameSeq d0 d1 = true) : (∃ a b, d0 = .tuple a ∧ d1 = .tuple b) ∨ (∃ a b, d0 = .list a ∧ d1 = .list b) := by
  unfold sameSeq at h
  split at h
  · exact .inl ⟨_, _, rfl, rfl⟩
  · exact .inr ⟨_, _, rfl, rfl⟩
  · cases h
def idxmF (fa fb : En → Option (Hd × En)) : En → Rs := fun e => (fa e).bind fun x => (fetch x.2 x.1).bind fun d0 => (fb x.2).bind fun y =>
      (fetch y.2 x.1).bind fun d1 => (fetch y.2 y.1).bind fun d2 => if sameSeq d0 d1 = true then (fIdx [d1, d2]).bind fun r => some (r.1, r.2, y.2) else none
theorem g_index {apos : Pos} (hu : X.A.units + 200 < cLine) (ga : PE X a (tH X.K fa)) (gb : PE X b (tH X.K fb)) (hp : plainE b = true) (hbase : attributeBase a "index" X.env (eval a X.env) = eval a X.env) (hline : (apos.endLine == pos.line) = true) :
    PE X (.Call (.Attribute a "index" apos) [b] [] pos) (tE X.K (idxmF fa fb)) := by
  refine peimp (pe_idx hu ga gb hp hbase hline) fun σ H Q ⟨O, env, d, fr, env', rp, e1, q⟩ => ?_
  obtain ⟨⟨h, en1⟩, y1, e1⟩ := bindS e1
  obtain ⟨d0, y2, e1⟩ := bindS e1
  obtain ⟨⟨h', en2⟩, y3, e1⟩ := bindS e1
  obtain ⟨d1, y4, e1⟩ := bindS e1
  obtain ⟨d2, y5, e1⟩ := bindS e1
  split at e1
  rotate_left
  · cases e1
  rename_i hk
  obtain ⟨⟨d', fr'⟩, y6, e1⟩ := bindS e1
  cases e1
  refine ⟨O, env, h, en1, rp, y1, fun v H1 O1 rp1 rh1 g1 => ?_⟩
  have rf := rh1.fetch rp1 y2
  rcases sameSeq_ok hk with ⟨ds0, ds, rfl, rfl⟩ | ⟨ds0, ds, rfl, rfl⟩
  · obtain ⟨p, xs, rfl, sq, _⟩ := rf.tuple
    refine ⟨p, rfl, .inl ⟨⟨xs, sq⟩, O1, en1, h', en2, rp1, y3, fun w H2 O2 rp2 rh2 g2 => ?_⟩⟩
    have y6 : (if SeqAt.shaped (.tuple ds) = true ∧ SeqAt.shaped d2 = true then (idxOfD ds d2).bind fun j => some (PyData.int j, false) else none) = some (d', fr') := y6
    split at y6
    rotate_left
    · cases y6
    rename_i hz
    obtain ⟨j, hj, y6⟩ := bindS y6
    cases y6
    obtain ⟨p', xs', e, sq', rds⟩ := ((rh1.mono g2.to).fetch rp2 y4).tuple
    cases e
    exact ⟨p, xs', ds, w, d2, j, rfl, rfl, sq'.t, RDs.dp (shaped_all hz.1) rds, (rh2.fetch rp2 y5).dp (shaped_lay hz.2), shaped_all hz.1, shaped_lay hz.2, by have := SeqAt.depth_of_shaped hz.2; omega, hj, q _ H2 O2 rp2 (.int j) (g1.trans g2)⟩
  · obtain ⟨p, xs, rfl, sq, _⟩ := rf.list
    refine ⟨p, rfl, .inr ⟨⟨xs, .of sq⟩, O1, en1, h', en2, rp1, y3, fun w H2 O2 rp2 rh2 g2 => ?_⟩⟩
    have y6 : (if SeqAt.shaped (.list ds) = true ∧ SeqAt.shaped d2 = true ∧ ds.length ≤ sizeLine then (idxOfD ds d2).bind fun j => some (PyData.int j, false) else none) = some (d', fr') := y6
    split at y6
    rotate_left
    · cases y6
    rename_i hz
    obtain ⟨j, hj, y6⟩ := bindS y6
    cases y6
    obtain ⟨p', xs', e, sq', rds⟩ := ((rh1.mono g2.to).fetch rp2 y4).list
    cases e
    exact ⟨p, xs', ds, w, d2, j, rfl, rfl, .of sq', RDs.dp (shaped_allL hz.1) rds, (rh2.fetch rp2 y5).dp (shaped_lay hz.2.1), shaped_allL hz.1, shaped_lay hz.2.1, by have := SeqAt.depth_of_shaped hz.2.1; omega, hz.2.2, hj, q _ H2 O2 rp2 (.int j) (g1.trans g2)⟩
/-! ### enumerate(list) -/
def enmL (fa : En → Option (Hd × En)) : En → Option (List PyData × List Nat × En) := fun e => (fa e).bind fun x => (fetch x.2 x.1).bind fun d => (lstOf d).bind fun ds => some (ds.mapIdx (fun i d => .tuple [.int i, d]), lock x.1 x.2)
theorem i_enmL {elts : List Expr} {kk : Nat} {tpos p : Pos} (hg : Gl X "enumerate") (hm : X.mg "enumerate" = none) (ga : PE X a (tH X.K fa)) (hp : plainE a = true) : PI X (.Tuple elts kk tpos) (.Call (.Name "enumerate" p) [a] [] pos) (tI true X.K (enmL fa)) := by
  refine piimp (pi_enum hg hm (pa_cons ga pa_nil (star_plain hp _ _)) (star_plain hp _ _)) fun σ H R ⟨O, env, ds, lks, env1, rp, e1, q⟩ => ?_
  obtain ⟨⟨h, en⟩, x1, e1⟩ := bindS e1
  obtain ⟨d, x2, e1⟩ := bindS e1
  obtain ⟨ds', x3, e1⟩ := bindS e1
  have e1' : (ds'.mapIdx fun i d => PyData.tuple [.int i, d]) = ds ∧ lock h en = (lks, env1) := by
    have z : some ((ds'.mapIdx fun i d => PyData.tuple [.int i, d]), lock h en) = some (ds, lks, env1) := e1
    cases hl : lock h en with
    | mk p1 p2 => rw [hl] at z; cases z; exact ⟨rfl, rfl⟩
  obtain ⟨rfl, hlk⟩ := e1'
  have henv1 : env1 = (lock h en).2 := by rw [hlk]
  have hd : d = .list ds' := by cases d <;> cases x3; rfl
  subst hd
  refine ⟨O, env, h, en, rp, x1, fun v H1 O1 rp1 rh1 g1 => ?_⟩
  have rp1' : Rep X.K H1 O1 σ env1 := by rw [henv1]; exact rp1.lock h
  obtain ⟨p, rfl, ⟨xs, hx⟩, lat⟩ := list_later rp1 rh1 x2
  refine ⟨p, xs, rfl, .of hx, q (Ite X.K p) H1 O1 rp1' ⟨?_, ?_⟩ g1⟩
  · intro i H2 O2 env2 σ2 d rp2 g2 lk hd
    rw [List.getElem?_mapIdx] at hd
    obtain ⟨d', hd', rfl⟩ := Option.map_eq_some_iff.mp hd
    obtain ⟨xs2, h1, h2⟩ := lat H2 O2 env2 σ2 rp2 g2 (by rw [henv1] at lk; exact lk)
    obtain ⟨y, k1, k2⟩ := h2.get hd'
    refine ⟨⟨xs2, y, .of h1, k1⟩, fun x H3 ⟨T, z, z1, z2, z3, z4⟩ => ?_⟩
    subst z1 z3
    have e := z4 xs2 (.of h1)
    rw [k1] at e; cases e
    have sm : Same H2 (upd H2 T (.tup [.int (i : Nat), y])) := Same.new z2
    exact ⟨sm, .inr ⟨T, [.int (i : Nat), y], [.int (i : Nat), d'], rfl, rfl, .inl (.inl upd_same), .cons (.int _) (.one (k2.mono (.same sm)))⟩⟩
  · intro i H2 O2 env2 σ2 rp2 g2 lk hd hle
    obtain ⟨xs2, h1, h2⟩ := lat H2 O2 env2 σ2 rp2 g2 (by rw [henv1] at lk; exact lk)
    exact ⟨xs2, .of h1, by rw [h2.length]; rw [List.length_mapIdx] at hd; exact hd⟩
/-! ### zip -/
theorem fetch_lock {h h' : Hd} {e : En} : fetch (lock h e).2 h' = fetch e h' := by
  unfold lock
  split
  · rename_i i
    split
    · rename_i ds hs
      cases h' with
      | val d => rfl
      | slot j =>
        simp only [RV.fetch]
        by_cases hij : i = j
        · subst hij
          rw [List.getElem?_set_self (List.getElem?_eq_some_iff.mp hs).1, hs]
        · rw [List.getElem?_set_ne hij]
    · rfl
  · rfl
def zipF (fa fb : En → Option (Hd × En)) : En → Option (List PyData × List Nat × En) := fun e => (fa e).bind fun x => (fb x.2).bind fun y => (fetch y.2 x.1).bind fun d => (fetch y.2 y.1).bind fun d' => (zipOf d d').bind fun ds =>
      some (ds, (lock x.1 y.2).1 ++ (lock y.1 (lock x.1 y.2).2).1, (lock y.1 (lock x.1 y.2).2).2)
theorem zip_get {ds es : List PyData} {i : Nat} {d : PyData} (h : (List.zipWith (fun p q => PyData.tuple [p, q]) ds es)[i]? = some d) : ∃ x y, ds[i]? = some x ∧ es[i]? = some y ∧ d = .tuple [x, y] := by
  rw [List.getElem?_zipWith] at h
  split at h
  · rename_i x y e1 e2; cases h; exact ⟨x, y, e1, e2, rfl⟩
  · cases h
theorem i_zip {elts : List Expr} {kk : Nat} {tpos p : Pos} (hg : Gl X "zip") (hm : X.mg "zip" = none) (ga : PE X a (tH X.K fa)) (gb : PE X b (tH X.K fb)) (hp : plainE a = true) (hp2 : plainE b = true) : PI X (.Tuple elts kk tpos) (.Call (.Name "zip" p) [a, b] [] pos) (tI true X.K (zipF fa fb)) := by
  refine piimp (RZ2.pi_zipB hg hm (pa_cons ga (pa_cons gb pa_nil (star_plain hp2 _ _)) (star_plain hp _ _)) (star_plain hp _ _) (back_plain _ _ (by simp [hp2]))) fun σ H R ⟨O, env, ds, lks, env1, rp, e1, q⟩ => ?_
  obtain ⟨⟨h, en⟩, x1, e1⟩ := bindS e1
  obtain ⟨⟨h', en2⟩, x2, e1⟩ := bindS e1
  obtain ⟨d, x3, e1⟩ := bindS e1
  obtain ⟨d', x4, e1⟩ := bindS e1
  obtain ⟨ds', x5, e1⟩ := bindS e1
  have e1' : ds' = ds ∧ (lock h' (lock h en2).2).2 = env1 := by
    have z : some (ds', (lock h en2).1 ++ (lock h' (lock h en2).2).1, (lock h' (lock h en2).2).2) = some (ds, lks, env1) := e1
    injection z with z
    injection z with z1 z2
    injection z2 with z2 z3
    exact ⟨z1, z3⟩
  obtain ⟨rfl, henv1⟩ := e1'
  refine ⟨O, env, h, en, rp, x1, fun v H1 O1 rp1 rh1 g1 => ⟨O1, en, h', en2, rp1, x2, fun w H2 O2 rp2 rh2 g2 => ?_⟩⟩
  have rhv := rh1.mono g2.to
  have rp2' : Rep X.K H2 O2 σ (lock h en2).2 := rp2.lock h
  have rp3 : Rep X.K H2 O2 σ env1 := by rw [← henv1]; exact rp2'.lock h'
  have lk1 : ∀ {env3 : En} {σ3 : L2.St}, LkS env1 σ env3 σ3 → LkS (lock h en2).2 σ env3 σ3 := fun l => by
    refine LkS.trans (LkE.s ?_) l
    rw [← henv1]; exact lock_lk
  have x4' : fetch (lock h en2).2 h' = some d' := by rw [fetch_lock]; exact x4
  unfold zipOf at x5
  split at x5
  · cases x5
    obtain ⟨p, rfl, ⟨xs, hx⟩, lat⟩ := list_later rp2 rhv x3
    obtain ⟨p', rfl, ⟨ys, hy⟩, lat'⟩ := list_later rp2' rh2 x4'
    refine ⟨p, p', xs, ys, rfl, .inl ⟨.of hx, .of hy, q (Itz X.K p p') H2 O2 rp3 ⟨?_, ?_⟩ (g1.trans g2)⟩⟩
    · intro i H3 O3 env3 σ3 d rp3 g3 lk hd
      obtain ⟨u, u', hu, hu', rfl⟩ := zip_get hd
      obtain ⟨xs2, a1, a2⟩ := lat H3 O3 env3 σ3 rp3 g3 (lk1 lk)
      obtain ⟨ys2, b1, b2⟩ := lat' H3 O3 env3 σ3 rp3 g3 (by rw [henv1]; exact lk)
      obtain ⟨y, k1, k2⟩ := a2.get hu
      obtain ⟨y', k1', k2'⟩ := b2.get hu'
      refine ⟨⟨xs2, ys2, y, y', .of a1, .of b1, k1, k1'⟩, fun x H4 ⟨T, z, z', z1, z2, z3, z4, z5⟩ => ?_⟩
      subst z1 z3
      have e := z4 xs2 (.of a1)
      rw [k1] at e; cases e
      have e := z5 ys2 (.of b1)
      rw [k1'] at e; cases e
      have sm : Same H3 (upd H3 T (.tup [y, y'])) := Same.new z2
      exact ⟨sm, .inr ⟨T, [y, y'], [u, u'], rfl, rfl, .inl (.inl upd_same), .cons (k2.mono (.same sm)) (.one (k2'.mono (.same sm)))⟩⟩
    · intro i H3 O3 env3 σ3 rp3 g3 lk hd hle
      obtain ⟨xs2, a1, a2⟩ := lat H3 O3 env3 σ3 rp3 g3 (lk1 lk)
      obtain ⟨ys2, b1, b2⟩ := lat' H3 O3 env3 σ3 rp3 g3 (by rw [henv1]; exact lk)
      refine ⟨xs2, ys2, .of a1, .of b1, ?_⟩
      rw [List.length_zipWith] at hd
      rw [a2.length, b2.length]
      omega
  · cases x5
    obtain ⟨rd, -⟩ := other_later (by intro ds z; cases z) rp2 rhv x3
    obtain ⟨rd', -⟩ := other_later (by intro ds z; cases z) rp2' rh2 x4'
    cases rd with
    | @tup p xs _ hx ra =>
    cases rd' with
    | @tup p' ys _ hy rb =>
    refine ⟨p, p', xs, ys, rfl, .inr (.inl ⟨hx.t, hy.t, q (RZ.ItzT X.K p p') H2 O2 rp3 ⟨?_, ?_⟩ (g1.trans g2)⟩)⟩
    · intro i H3 O3 env3 σ3 d rp3 g3 lk hd
      obtain ⟨u, u', hu, hu', rfl⟩ := zip_get hd
      obtain ⟨y, k1, k2⟩ := (ra.mono g3).get hu
      obtain ⟨y', k1', k2'⟩ := (rb.mono g3).get hu'
      have hx3 := (hx.mono g3).t (K := X.K)
      have hy3 := (hy.mono g3).t (K := X.K)
      refine ⟨⟨xs, ys, y, y', hx3, hy3, k1, k1'⟩, fun x H4 ⟨T, z, z', z1, z2, z3, z4, z5⟩ => ?_⟩
      subst z1 z3
      have e := z4 xs hx3
      rw [k1] at e; cases e
      have e := z5 ys hy3
      rw [k1'] at e; cases e
      have sm : Same H3 (upd H3 T (.tup [y, y'])) := Same.new z2
      exact ⟨sm, .inr ⟨T, [y, y'], [u, u'], rfl, rfl, .inl (.inl upd_same), .cons (k2.mono (.same sm)) (.one (k2'.mono (.same sm)))⟩⟩
    · intro i H3 O3 env3 σ3 rp3 g3 lk hd hle
      refine ⟨xs, ys, (hx.mono g3).t, (hy.mono g3).t, ?_⟩
      rw [List.length_zipWith] at hd
      rw [ra.length, rb.length]
      omega
  · cases x5
    obtain ⟨p, rfl, ⟨xs, hx⟩, lat⟩ := list_later rp2 rhv x3
    obtain ⟨rd', -⟩ := other_later (by intro ds z; cases z) rp2' rh2 x4'
    cases rd' with
    | @tup p' ys _ hy rb =>
    refine ⟨p, p', xs, ys, rfl, .inr (.inr ⟨.of hx, hy.t, q (RZ2.ItzM X.K p p') H2 O2 rp3 ⟨?_, ?_⟩ (g1.trans g2)⟩)⟩
    · intro i H3 O3 env3 σ3 d rp3 g3 lk hd
      obtain ⟨u, u', hu, hu', rfl⟩ := zip_get hd
      obtain ⟨xs2, a1, a2⟩ := lat H3 O3 env3 σ3 rp3 g3 (lk1 lk)
      obtain ⟨y, k1, k2⟩ := a2.get hu
      obtain ⟨y', k1', k2'⟩ := (rb.mono g3).get hu'
      have hy3 := (hy.mono g3).t (K := X.K)
      refine ⟨⟨xs2, ys, y, y', .of a1, hy3, k1, k1'⟩, fun x H4 ⟨T, z, z', z1, z2, z3, z4, z5⟩ => ?_⟩
      subst z1 z3
      have e := z4 xs2 (.of a1)
      rw [k1] at e; cases e
      have e := z5 ys hy3
      rw [k1'] at e; cases e
      have sm : Same H3 (upd H3 T (.tup [y, y'])) := Same.new z2
      exact ⟨sm, .inr ⟨T, [y, y'], [u, u'], rfl, rfl, .inl (.inl upd_same), .cons (k2.mono (.same sm)) (.one (k2'.mono (.same sm)))⟩⟩
    · intro i H3 O3 env3 σ3 rp3 g3 lk hd hle
      obtain ⟨xs2, a1, a2⟩ := lat H3 O3 env3 σ3 rp3 g3 (lk1 lk)
      rw [List.length_zipWith] at hd hle
      have r2 := rb.length
      have r1 := a2.length
      refine ⟨xs2, ys, .of a1, (hy.mono g3).t, ?_, ?_, ?_⟩
      · rw [r1]; omega
      · rw [r2]; omega
      · rw [r1, r2]; omega
  · cases x5
/-! ### len(set(list of ints)), join -/
def lensetF (fa : En → Option (Hd × En)) : En → Rs := fun e => (fa e).bind fun x => (fetch x.2 x.1).bind fun d => (lstOf d).bind fun ds => (intsOf ds).bind fun ns => if ns.Nodup ∧ ns.length ≤ 4000 then some (.int ns.length, false, x.2) else none
theorem g_lenset {p p2 q : Pos} (hc : X.calm = true) (hg : Gl X "len") (hm : X.mg "len" = none) (hg2 : Gl X "set") (hm2 : X.mg "set" = none) (ga : PE X a (tH X.K fa)) (hp : plainE a = true) : PE X (.Call (.Name "len" p) [.Call (.Name "set" p2) [a] [] q] [] pos) (tE X.K (lensetF fa)) := by
  refine peimp (RZ.pe_lenSetI hg hm hg2 hm2 ga hc (star_plain hp _ _)) fun σ H Q ⟨O, env, d, fr, env', rp, e1, q⟩ => ?_
  obtain ⟨⟨h, en⟩, x1, e1⟩ := bindS e1
  obtain ⟨d', x2, e1⟩ := bindS e1
  obtain ⟨ds, x3, e1⟩ := bindS e1
  obtain ⟨ns, x4, e1⟩ := bindS e1
  split at e1
  rotate_left
  · cases e1
  rename_i hz
  cases e1
  refine ⟨O, env, h, en, rp, x1, fun v H1 O1 rp1 rh1 g1 => ?_⟩
  have hd : d' = .list ds := by cases d' <;> cases x3; rfl
  subst hd
  obtain ⟨l, xs, rfl, hx, rd⟩ := (rh1.fetch rp1 x2).list
  cases intsOf_eq x4
  cases rd.ints
  exact ⟨l, ns, rfl, .of hx, hz.1, hz.2, q _ H1 O1 rp1 (.int _) g1⟩
theorem strsOf_eq : ∀ {ds : List PyData} {ns : List Str}, strsOf ds = some ns → ds = ns.map .str
  | [], ns, h => by cases h; rfl
  | d :: ds, ns, h => by
    cases d with
    | str i =>
      obtain ⟨l, h1, h2⟩ := Option.bind_eq_some_iff.mp (show ((strsOf ds).bind fun l => some (i :: l)) = some ns from h)
      cases h2
      rw [strsOf_eq h1]; rfl
    | _ => cases h
def joinF (z : Str) (fb : En → Option (Hd × En)) : En → Rs := fun e => (fb e).bind fun y => (fetch y.2 y.1).bind fun d2 => (joinD (.str z) d2).bind fun r => some (r, false, y.2)
theorem g_join {apos cp : Pos} {z : Str} {k : Nat} (gb : PE X b (tH X.K fb)) (hp : plainE b = true) (hline : (apos.endLine == pos.line) = true) : PE X (.Call (.Attribute (.Constant (.str z) k cp) "join" apos) [b] [] pos) (tE X.K (joinF z fb)) := by
  refine peimp (pe_join (pe_str (x := z)) gb (star_plain hp _ _) rfl hline) fun σ H Q ⟨O, env, d, fr, env', rp, e1, q⟩ => ?_
  obtain ⟨⟨h', en2⟩, x2, e1⟩ := bindS e1
  obtain ⟨d2, x4, e1⟩ := bindS e1
  obtain ⟨r, x5, e1⟩ := bindS e1
  cases e1
  refine ⟨⟨z, rfl⟩, O, env, h', en2, rp, x2, fun w H2 O2 rp2 rh2 g2 => ?_⟩
  have rw' := rh2.fetch rp2 x4
  unfold joinD at x5
  split at x5
  · rename_i e0
    cases e0
    obtain ⟨ys, y1, y2⟩ := bindS x5
    split at y2 <;> cases y2
    obtain ⟨l, xs, rfl, hx, rd⟩ := rw'.list
    cases strsOf_eq y1
    cases rd.strs
    exact ⟨_, l, ys, rfl, rfl, .inl (.of hx), ‹_›, q _ H2 O2 rp2 (.str _) g2⟩
  · rename_i e0
    cases e0
    obtain ⟨ys, y1, y2⟩ := bindS x5
    split at y2 <;> cases y2
    obtain ⟨l, xs, rfl, hx, rd⟩ := rw'.tuple
    cases strsOf_eq y1
    cases rd.strs
    exact ⟨_, l, ys, rfl, rfl, .inr hx.t, ‹_›, q _ H2 O2 rp2 (.str _) g2⟩
  · cases x5
/-! ### a op b op c op d -/
def tChain3 (r r' r'' : R2) (ta tb tc td : TE) : TE := fun σ H Q => ta σ H fun x H1 => tb σ H1 fun y H2 => r x y H2 fun z H3 => ∃ k, z = .bl k ∧
  (if k = true then tc σ H3 fun w H4 => r' y w H4 fun z2 H5 => ∃ k2, z2 = .bl k2 ∧ (if k2 = true then td σ H5 fun u H6 => r'' w u H6 Q else Q (.bl false) H5) else Q (.bl false) H3)
theorem pe_chain3 {c d : Expr} {ta tb tc td : TE} {op op' op'' : CmpOp} {r r' r'' : R2} (ho : OpR X (compareOp op) r) (ho' : OpR X (compareOp op') r') (ho'' : OpR X (compareOp op'') r'') (ha : PE X a ta) (hb : PE X b tb) (hc : PE X c tc) (hd : PE X d td)
    (hm : lastMarks [op, op', op''] [b, c, d] = false) : PE X (.Compare a [op, op', op''] [b, c, d] pos) (tChain3 r r' r'' ta tb tc td) := by
  refine ⟨fun pins s σ H Q I h => ?_⟩
  refine Compare_chain (thn (ha.run pins s σ H _ I h) fun v s1 ⟨x, H1, I1, r1, q1⟩ => chain_link (thn (hb.run pins s1 σ H1 _ I1 q1) fun u s2 ⟨y, H2, I2, r2, q2⟩ =>
    thn (ho pins s2 σ H2 x y v u _ I2 r1 r2 q2) fun d s3 ⟨z, H3, I3, r3, k, e, q3⟩ => ?_)) hm
  subst e
  cases r3
  refine wpAny_truthy_bool ?_
  cases k with
  | false => exact ite_ff ⟨.bl false, H3, I3, rfl, q3⟩
  | true =>
    refine ite_tt (chain_link (thn (hc.run pins s3 σ H3 _ I3 q3) fun w' s4 ⟨z', H4, I4, r4, q4⟩ => thn (ho' pins s4 σ H4 y z' u w' _ I4 r2 r4 q4) fun d s5 ⟨z, H5, I5, r5, k2, e, q5⟩ => ?_))
    subst e
    cases r5
    refine wpAny_truthy_bool ?_
    cases k2 with
    | false => exact ite_ff ⟨.bl false, H5, I5, rfl, q5⟩
    | true => exact ite_tt (chain_last (thn (hd.run pins s5 σ H5 _ I5 q5) fun w2 s6 ⟨z2, H6, I6, r6, q6⟩ => ho'' pins s6 σ H6 z' z2 w' w2 Q I6 r4 r6 q6))
theorem pt_chain3 {c d : Expr} {ta tb tc td : TE} {op op' op'' : CmpOp} {r r' r'' : R2} (ho : OpR X (compareOp op) r) (ho' : OpR X (compareOp op') r') (ho'' : OpR X (compareOp op'') r'') (ha : PE X a ta) (hb : PE X b tb) (hc : PE X c tc) (hd : PE X d td)
    (hm : lastMarks [op, op', op''] [b, c, d] = false) : PT X (.Compare a [op, op', op''] [b, c, d] pos) (tTest (tChain3 r r' r'' ta tb tc td)) := by
  refine ⟨fun pins s σ H Q I h => ?_⟩
  refine isTrue_chain (thn (ha.run pins s σ H _ I h) fun v s1 ⟨x, H1, I1, r1, q1⟩ => test_link (thn (hb.run pins s1 σ H1 _ I1 q1) fun u s2 ⟨y, H2, I2, r2, q2⟩ =>
    thn (ho pins s2 σ H2 x y v u _ I2 r1 r2 q2) fun d s3 ⟨z, H3, I3, r3, k, e, q3⟩ => ?_)) hm
  subst e
  cases r3
  refine wpAny_truthy_bool ?_
  cases k with
  | false =>
    obtain ⟨k', e', q'⟩ := q3
    cases e'
    exact ite_ff ⟨H3, I3, q'⟩
  | true =>
    refine ite_tt (test_link (thn (hc.run pins s3 σ H3 _ I3 q3) fun w' s4 ⟨z', H4, I4, r4, q4⟩ => thn (ho' pins s4 σ H4 y z' u w' _ I4 r2 r4 q4) fun d s5 ⟨z, H5, I5, r5, k2, e, q5⟩ => ?_))
    subst e
    cases r5
    refine wpAny_truthy_bool ?_
    cases k2 with
    | false =>
      obtain ⟨k', e', q'⟩ := q5
      cases e'
      exact ite_ff ⟨H5, I5, q'⟩
    | true =>
      refine ite_tt (test_last (thn (hd.run pins s5 σ H5 _ I5 q5) fun w2 s6 ⟨z2, H6, I6, r6, q6⟩ => thn (ho'' pins s6 σ H6 z' z2 w' w2 _ I6 r4 r6 q6) fun d' s7 ⟨z3, H7, I7, r7, k3, e3, q7⟩ => ?_))
      subst e3
      cases r7
      exact wpAny_truthy_bool ⟨H7, I7, q7⟩
variable {c d : Expr} {fc fd : En → Option (Hd × En)}
def ch3F (fa fb fc fd : En → Option (Hd × En)) (o o2 o3 : Cm) : En → Rs := fun e => (fa e).bind fun x => (fb x.2).bind fun y =>
      (fetch y.2 x.1).bind fun d1 => (fetch y.2 y.1).bind fun d2 => (cmpD o d1 d2).bind fun r => if r = true then
        (fc y.2).bind fun z => (fetch z.2 y.1).bind fun d2' => (fetch z.2 z.1).bind fun d3 => (cmpD o2 d2' d3).bind fun r2 => if r2 = true then
          (fd z.2).bind fun u => (fetch u.2 z.1).bind fun d3' => (fetch u.2 u.1).bind fun d4 => (cmpD o3 d3' d4).bind fun r3 => some (.bool r3, false, u.2)
        else some (.bool false, false, z.2)
      else some (.bool false, false, y.2)
theorem ch3_in {o o2 o3 : Cm} (σ : L2.St) (H : Hp) (Q : VK) (h : tE X.K (ch3F fa fb fc fd o o2 o3) σ H Q) : tChain3 (rCm X.K o) (rCm X.K o2) (rCm X.K o3) (tH X.K fa) (tH X.K fb) (tH X.K fc) (tH X.K fd) σ H Q := by
  obtain ⟨O, env, d, fr, env', rp, e1, q⟩ := h
  obtain ⟨⟨h1, en1⟩, x1, e1⟩ := bindS e1
  obtain ⟨⟨h2, en2⟩, x2, e1⟩ := bindS e1
  obtain ⟨d1, x3, e1⟩ := bindS e1
  obtain ⟨d2, x4, e1⟩ := bindS e1
  obtain ⟨r, x5, e1⟩ := bindS e1
  refine ⟨O, env, h1, en1, rp, x1, fun v H1 O1 rp1 rh1 g1 => ⟨O1, en1, h2, _, rp1, x2, fun w H2 O2 rp2 rh2 g2 => ?_⟩⟩
  refine ⟨O2, d1, d2, _, (rh1.mono g2.to).fetch rp2 x3, rh2.fetch rp2 x4, x5, r, rfl, ?_⟩
  cases r with
  | false =>
    rw [if_neg Bool.false_ne_true] at e1 ⊢
    cases e1
    exact q _ H2 O2 rp2 (.bl _) (g1.trans g2)
  | true =>
    rw [if_pos rfl] at e1 ⊢
    obtain ⟨⟨h3, en3⟩, x6, e1⟩ := bindS e1
    obtain ⟨d2', x7, e1⟩ := bindS e1
    obtain ⟨d3, x8, e1⟩ := bindS e1
    obtain ⟨r2, x9, e1⟩ := bindS e1
    refine ⟨O2, en2, h3, _, rp2, x6, fun w' H3 O3 rp3 rh3 g3 => ?_⟩
    refine ⟨O3, d2', d3, _, (rh2.mono g3.to).fetch rp3 x7, rh3.fetch rp3 x8, x9, r2, rfl, ?_⟩
    cases r2 with
    | false =>
      rw [if_neg Bool.false_ne_true] at e1 ⊢
      cases e1
      exact q _ H3 O3 rp3 (.bl _) (g1.trans (g2.trans g3))
    | true =>
      rw [if_pos rfl] at e1 ⊢
      obtain ⟨⟨h4, en4⟩, y6, e1⟩ := bindS e1
      obtain ⟨d3', y7, e1⟩ := bindS e1
      obtain ⟨d4, y8, e1⟩ := bindS e1
      obtain ⟨r3, y9, e1⟩ := bindS e1
      cases e1
      refine ⟨O3, en3, h4, _, rp3, y6, fun w2 H4 O4 rp4 rh4 g4 => ?_⟩
      exact ⟨O4, d3', d4, _, (rh3.mono g4.to).fetch rp4 y7, rh4.fetch rp4 y8, y9, q _ H4 O4 rp4 (.bl _) (g1.trans (g2.trans (g3.trans g4)))⟩
theorem g_chain3 {o o2 o3 : Cm} (hu : X.A.units + 200 < cLine) (ga : PE X a (tH X.K fa)) (gb : PE X b (tH X.K fb)) (gc : PE X c (tH X.K fc)) (gd : PE X d (tH X.K fd)) (hm : lastMarks [cmOf o, cmOf o2, cmOf o3] [b, c, d] = false) :
    PE X (.Compare a [cmOf o, cmOf o2, cmOf o3] [b, c, d] pos) (tE X.K (ch3F fa fb fc fd o o2 o3)) := peimp (pe_chain3 (op_cm o hu) (op_cm o2 hu) (op_cm o3 hu) ga gb gc gd hm) ch3_in
theorem ch3_bool {o o2 o3 : Cm} : ∀ en d fr e', ch3F fa fb fc fd o o2 o3 en = some (d, fr, e') → ∃ b, d = .bool b := fun en d fr e' e1 => by
  obtain ⟨_, _, e1⟩ := bindS e1
  obtain ⟨_, _, e1⟩ := bindS e1
  obtain ⟨_, _, e1⟩ := bindS e1
  obtain ⟨_, _, e1⟩ := bindS e1
  obtain ⟨_, _, e1⟩ := bindS e1
  split at e1
  · obtain ⟨_, _, e1⟩ := bindS e1
    obtain ⟨_, _, e1⟩ := bindS e1
    obtain ⟨_, _, e1⟩ := bindS e1
    obtain ⟨_, _, e1⟩ := bindS e1
    split at e1
    · obtain ⟨_, _, e1⟩ := bindS e1
      obtain ⟨_, _, e1⟩ := bindS e1
      obtain ⟨_, _, e1⟩ := bindS e1
      obtain ⟨_, _, e1⟩ := bindS e1
      cases e1; exact ⟨_, rfl⟩
    · cases e1; exact ⟨_, rfl⟩
  · cases e1; exact ⟨_, rfl⟩
theorem t_chain3 {o o2 o3 : Cm} (hu : X.A.units + 200 < cLine) (ga : PE X a (tH X.K fa)) (gb : PE X b (tH X.K fb)) (gc : PE X c (tH X.K fc)) (gd : PE X d (tH X.K fd)) (hm : lastMarks [cmOf o, cmOf o2, cmOf o3] [b, c, d] = false) :
    PT X (.Compare a [cmOf o, cmOf o2, cmOf o3] [b, c, d] pos) (tT X.K (bT (ch3F fa fb fc fd o o2 o3))) := ptimp (pt_chain3 (op_cm o hu) (op_cm o2 hu) (op_cm o3 hu) ga gb gc gd hm) (tB_of ch3_in ch3_bool)
/-! ### enumerate(str) -/
def IteS (x : Str) : It :=
  ⟨fun i _ => i < x.cps.size, fun i H v H' => ∃ T c, v = .ref T ∧ H T = none ∧ H' = upd H T (.tup [.int (i : Nat), .str ⟨#[c]⟩]) ∧ x.cps[i]? = some c, fun i _ => x.cps.size ≤ i⟩
theorem turn_enumS {P : Program} {w : World} {K : PySem.W.Frag} {elts : List Expr} {kk : Nat} {tpos : Pos} (x : Str) (t : Tok) (e it : Addr) :
    Turn P w K (.Tuple elts kk tpos) (IteS x) [e, it] e (fun i h => i ≤ x.cps.size ∧ (∃ old, IsEnum h e it ((i : Nat) : Int) old) ∧ h.IsStrIter it (strIterType x) x t i ∧ e ≠ it) where
  mem := by simp
  obj := fun i h st b hb => by
    obtain ⟨_, ⟨old, he⟩, ⟨o, ho, hc, hd⟩, _⟩ := st
    have e' : b = e ∨ b = it := by simpa using hb
    rcases e' with z | z
    · rw [z]; exact ⟨_, he, fun v q => nomatch q⟩
    · rw [z]; exact ⟨o, ho, fun v q => by rw [hd] at q; cases q⟩
  keep := fun i h h' st k => let ⟨hi, ⟨old, he⟩, ⟨o, ho, r⟩, hne⟩ := st; ⟨hi, ⟨old, k e (by simp) _ he⟩, ⟨o, k it (by simp) o ho, r⟩, hne⟩
  item := by
    intro X hP hw hK hc i pins s σ H E I hf st hg
    subst hP hw hK
    obtain ⟨hi, ⟨old, he⟩, hit, hne⟩ := st
    have D : Draws X.prog X.w X.A.in1 it [it] x.cps.size (fun i v => ∃ c u, x.cps[i]? = some c ∧ v = .str ⟨#[c]⟩ u) (fun i h => h.IsStrIter it (strIterType x) x t i) := by
      unfold strIterType
      split
      · exact Draws.strAscii (A := X.A.in1) (show X.A.in1.handled = none from I.ok.hd hc) it x t
      · exact Draws.strWide (A := X.A.in1) (show X.A.in1.handled = none from I.ok.hd hc) it x t
    have hel : e < s.heap.objs.size := Heap.lt_size he
    have hil : it < s.heap.objs.size := by obtain ⟨_, q, _⟩ := hit; exact Heap.lt_size q
    refine wpAny_pyNext_enum_itemD D he hit hg hne (by simpa using hne) fun y h' tk hy ho hit' hT hsz hk => ?_
    obtain ⟨c, u, hcx, rfl⟩ := hy
    refine ⟨_, rfl, wpAny_letOwnedTupleGo_enum (s := { s with heap := h', toks := tk + 1 }) ho fun h'' he' sb => ?_⟩
    have hT2 : h''.get? s.heap.objs.size = some { cls := .type "tuple", data := .seq #[.int i tk, .str ⟨#[c]⟩ u] } := (sb.2 _ (Nat.ne_of_gt hel)).trans hT
    have new : ObjOk X.prog X.w (upd H s.heap.objs.size (.tup [.int (i : Nat), .str ⟨#[c]⟩])) h'' s.heap.objs.size (.tup [.int (i : Nat), .str ⟨#[c]⟩]) :=
      ⟨by show 2 ≤ sizeLine; decide, [.int i tk, .str ⟨#[c]⟩ u], .cons ⟨_, rfl⟩ (.cons ⟨_, rfl⟩ .nil), ⟨_, hT2, rfl, _, rfl⟩⟩
    have I1 : Inv X pins σ (upd H s.heap.objs.size (.tup [.int (i : Nat), .str ⟨#[c]⟩])) { s with heap := h'', toks := tk + 1 } :=
      I.turnedNew (ch := [e, it]) (fun b ob hb q => (sb.2 b (fun z => hb (by simp [z]))).trans (hk b ob (fun z => hb (by simp [z])) (fun z => hb (by simp [z])) q)) hf (Nat.le_refl _) new
    refine ⟨.ref s.heap.objs.size, _, I1, rfl, ⟨_, c, rfl, I.hok.fresh (Nat.le_refl _), rfl, hcx⟩, ⟨hg, ⟨.str ⟨#[c]⟩ u, ?_⟩, D.frame _ _ _ hit' fun b hb o q => ?_, hne⟩, fun b hb => ?_⟩
    · have e1 : ((i + 1 : Nat) : Int) = (i : Int) + 1 := by omega
      rw [e1]; exact he'
    · have : b = it := by simpa using hb
      rw [this] at q ⊢
      exact (sb.2 it (Ne.symm hne)).trans q
    · have hb' : b < s.heap.objs.size := by
        have e' : b = e ∨ b = it := by simpa using hb
        rcases e' with z | z
        · rw [z]; exact hel
        · rw [z]; exact hil
      rw [upd_ne (Nat.ne_of_lt hb')]
      exact (hf b hb).1
  done := by
    intro X hP hw hK hc i pins s σ H E I hf st hg
    subst hP hw hK
    obtain ⟨hi, ⟨old, he⟩, hit, hne⟩ := st
    have hg' : x.cps.size ≤ i := hg
    have hz : i = x.cps.size := Nat.le_antisymm hi hg'
    subst hz
    have D : Draws X.prog X.w X.A.in1 it [it] x.cps.size (fun i v => ∃ c u, x.cps[i]? = some c ∧ v = .str ⟨#[c]⟩ u) (fun i h => h.IsStrIter it (strIterType x) x t i) := by
      unfold strIterType
      split
      · exact Draws.strAscii (A := X.A.in1) (show X.A.in1.handled = none from I.ok.hd hc) it x t
      · exact Draws.strWide (A := X.A.in1) (show X.A.in1.handled = none from I.ok.hd hc) it x t
    obtain ⟨f0, f1, f2, f3, f4, f5⟩ := hf it (by simp)
    exact wpAny_pyNext_enum_endD D he hit fun h' eb => ⟨rfl, I.turned (t' := s.toks) (fun b o hb q => eb b o hb q) f0 f1 f3 f4 f5⟩
  self := fun A i s Q E st h => let ⟨_, ⟨_, he⟩, _⟩ := st; wpAny_pyIter_enum he h
def iEnumS (ta : TA) : TI := fun σ H R => ta σ H fun vs H1 => ∃ x, vs = [.str x] ∧ R (IteS x) H1
theorem pi_enumS {e : Expr} {ta : TA} {p tpos : Pos} {elts : List Expr} {kk : Nat} (hg : Gl X "enumerate") (hm : X.mg "enumerate" = none) (ha : PA X [e] ta) (hs : starEach [e] X.env = [(false, eval e X.env)]) :
    PI X (.Tuple elts kk tpos) (.Call (.Name "enumerate" p) [e] [] pos) (iEnumS ta) := by
  refine ⟨fun pins s σ H R I h => ?_⟩
  refine Call_ (ld_blt I hg hm boot_enumerate (PyProof.Rows.callWith_type1 (thn (ha.run pos pins s σ H _ I h) fun us s1 ⟨vs, H1, I1, r1, q1⟩ => ?_) hs rfl))
  obtain ⟨x, ex, q⟩ := q1
  subst ex
  cases r1 with
  | cons r rr =>
    cases rr
    obtain ⟨t, rfl⟩ := r
    refine call_enumerate_str fun h' he hit hsz hk => wpAny_pyIter_enum he ?_
    have I2 : Inv X pins σ H1 { s1 with heap := h' } := I1.kept (t' := s1.toks) hk
    refine ⟨s1.heap.objs.size + 1, [s1.heap.objs.size + 1, s1.heap.objs.size], _, _, H1, rfl, I2, turn_enumS x t (s1.heap.objs.size + 1) s1.heap.objs.size, ⟨Nat.zero_le _, ⟨.none, he⟩, hit, Nat.succ_ne_self _⟩, fun b hb => ?_, q⟩
    have e' : b = s1.heap.objs.size + 1 ∨ b = s1.heap.objs.size := by simpa using hb
    have hle : s1.heap.objs.size ≤ b := by
      rcases e' with z | z
      · rw [z]; exact Nat.le_add_right _ _
      · rw [z]; exact Nat.le_refl _
    exact I1.fpOk hle (I1.hok.fresh hle)
def enmF (fa : En → Option (Hd × En)) : En → Option (List PyData × List Nat × En) := fun e => (fa e).bind fun x => (fetch x.2 x.1).bind fun d => (enmOf d).bind fun ds => some (ds.mapIdx (fun i d => .tuple [.int i, d]), lock x.1 x.2)
theorem i_enm {elts : List Expr} {kk : Nat} {tpos p : Pos} (hg : Gl X "enumerate") (hm : X.mg "enumerate" = none) (ga : PE X a (tH X.K fa)) (hp : plainE a = true) : PI X (.Tuple elts kk tpos) (.Call (.Name "enumerate" p) [a] [] pos) (tI true X.K (enmF fa)) := by
  refine ⟨fun pins s σ H R I ⟨O, env, ds, lks, env1, rp, e1, q⟩ => ?_⟩
  obtain ⟨⟨h, en⟩, x1, e1'⟩ := bindS e1
  obtain ⟨d, x2, e1'⟩ := bindS e1'
  obtain ⟨ds', x3, e1'⟩ := bindS e1'
  unfold enmOf at x3
  split at x3
  · rename_i dl
    cases x3
    refine (i_enmL hg hm ga hp).run pins s σ H R I ⟨O, env, ds, lks, env1, rp, ?_, q⟩
    show (fa env).bind _ = _
    rw [x1, Option.bind_some, x2, Option.bind_some]
    exact e1'
  · rename_i z
    cases x3
    refine (piimp (t' := fun σ0 H0 R0 => σ0 = σ ∧ H0 = H ∧ R0 = R) (pi_enumS hg hm (pa_cons ga pa_nil (star_plain hp _ _)) (star_plain hp _ _)) fun σ0 H0 R0 ⟨h1, h2, h3⟩ => ?_).run pins s σ H R I ⟨rfl, rfl, rfl⟩
    subst h1 h2 h3
    refine ⟨O, env, h, en, rp, x1, fun v H1 O1 rp1 rh1 g1 => ?_⟩
    obtain ⟨rd, hl⟩ := other_later (by intro ds z; cases z) rp1 rh1 x2
    cases rd
    have z2 : some ((z.cps.toList.map fun c => PyData.str ⟨#[c]⟩).mapIdx fun i d => PyData.tuple [.int i, d], lock h en) = some (ds, lks, env1) := e1'
    rw [hl] at z2
    injection z2 with z2
    injection z2 with z3 z4
    injection z4 with z4 z5
    subst z3 z4 z5
    refine ⟨z, rfl, q (IteS z) H1 O1 rp1 ⟨?_, ?_⟩ g1⟩
    · intro i H2 O2 env2 σ2 d rp2 g2 lk hd
      rw [List.getElem?_mapIdx, List.getElem?_map] at hd
      obtain ⟨d', hd', rfl⟩ := Option.map_eq_some_iff.mp hd
      obtain ⟨c, hc, rfl⟩ := Option.map_eq_some_iff.mp hd'
      rw [Array.getElem?_toList] at hc
      refine ⟨(Array.getElem?_eq_some_iff.mp hc).1, fun x H3 ⟨T, c', z1, z2, z3, z4⟩ => ?_⟩
      subst z1 z3
      rw [hc] at z4; cases z4
      exact ⟨Same.new z2, .inr ⟨T, [.int (i : Nat), .str ⟨#[c]⟩], [.int (i : Nat), .str ⟨#[c]⟩], rfl, rfl, .inl (.inl upd_same), .cons (.int _) (.one (.str _))⟩⟩
    · intro i H2 O2 env2 σ2 rp2 g2 lk hd hle
      rw [List.length_mapIdx, List.length_map] at hd
      show z.cps.size ≤ i
      simpa using hd
  · cases x3
end
end RV

namespace RV
open PySem PySem.Spec PyProof.Rows L2
/-! ### all, any of a generator expression: the machine -/
theorem over_gen {A : Around} {elt tg iter : Expr} {ifs : List Expr} {scope : Scope} {pos : Pos} {it : Value} {env : Env} : A.over (.compLoop (.GeneratorExp elt [⟨tg, iter, ifs, 0⟩] scope pos) 0 it .none env) [] = A.deeper env := by
  first
    | rfl
    | (obtain ⟨hd, d, fr, gs, u⟩ := A; simp [Around.over, Around.deeper, marksOver, frameCount, unitsOf, envsOf, guardsOf, pushEnvs, pushGuards, Code.envs, Code.env?, Code.isFrame, Code.guards, Code.isGuard, Code.weight, Code.frames, Code.isCreation, Code.isCaller, Code.cUnits])
theorem over_genS {A : Around} {elt tg iter : Expr} {ifs : List Expr} {scope : Scope} {pos : Pos} {it : Value} {env : Env} : A.over (.compStart (.GeneratorExp elt [⟨tg, iter, ifs, 0⟩] scope pos) 0 it .none env) [] = A.deeper env := by
  first
    | rfl
    | (obtain ⟨hd, d, fr, gs, u⟩ := A; simp [Around.over, Around.deeper, marksOver, frameCount, unitsOf, envsOf, guardsOf, pushEnvs, pushGuards, Code.envs, Code.env?, Code.isFrame, Code.guards, Code.isGuard, Code.weight, Code.frames, Code.isCreation, Code.isCaller, Code.cUnits])
/-- a generator's turn, any target -/
theorem turn_gen (elt target iter : Expr) (ifs : List Expr) (scope : Scope) (pos : Pos) (it acc : Value) (env : Env) :
    compTurn (.GeneratorExp elt [⟨target, iter, ifs, 0⟩] scope pos) 0 it acc env = (do
      standAt iter.pos
      match ← pyNext it with
      | none => pure (.done .next)
      | some v =>
        letOwnedTupleGo target it v
        assign target env v
        let mut ok := true
        for c in ifs do
          if ok then ok ← isTrue c env (eval c env)
        if ok then
          (do let v ← eval elt env; standAt elt.pos; let _ ← yieldOut env v)
        again (.compLoop (.GeneratorExp elt [⟨target, iter, ifs, 0⟩] scope pos) 0 it acc env)) := by rfl
/-- what the consumer may do between two items: the table of generators and the counts change, no object does -/
structure Btw (g : Nat) (s s' : Shared) : Prop where
  heap : s'.heap = s.heap
  os : s'.os = s.os
  bare : AllBare s.gens → AllBare s'.gens
  size : g < s.gens.size → g < s'.gens.size
theorem Btw.trans {g : Nat} {a b c : Shared} (x : Btw g a b) (y : Btw g b c) : Btw g a c := ⟨y.heap.trans x.heap, y.os.trans x.os, fun h => y.bare (x.bare h), fun h => y.size (x.size h)⟩
/-- behind it: objects may be new -/
structure Aft (s s' : Shared) : Prop where
  heap : ∀ b o, s.heap.get? b = some o → s'.heap.get? b = some o
  os : s'.os = s.os
  bare : AllBare s.gens → AllBare s'.gens
theorem setGen_bare {s : Shared} {g : Nat} {x : GenState} (hx : x.bare = true) (h : AllBare s.gens) : AllBare (s.setGen g x).gens := fun y hy => by
  simp only [Shared.setGen] at hy
  rcases Array.mem_or_eq_of_mem_setIfInBounds hy with z | z
  · exact h y z
  · rw [z]; exact hx
theorem setGen_sz {s : Shared} {g k : Nat} {x : GenState} (h : k < s.gens.size) : k < (s.setGen g x).gens.size := by rw [GenW.setGen_size]; exact h
section
variable {prog : Program} {w : World} {A : Around} {a g : Addr} {al : Bool} {Rd : Nat → Shared → Prop} {Dn Fn : Shared → Prop}
/-- an item has come: its truth; where the consumer goes on, the generator is ready with fewer items left -/
def gRun (g : Nat) (al : Bool) (Rd : Nat → Shared → Prop) (Fn : Shared → Prop) : Protocol := fun m s₀ v s kap => ∃ b, v = .bool b ∧ g < s.gens.size ∧ (b = al → ∃ k, k ≤ m ∧ Rd k s ∧ ∀ s'', Btw g s s'' → kap (.send .none) s'') ∧ (b ≠ al → Fn s)
def gEnd (g : Nat) (Dn : Shared → Prop) : GenEnd := fun n s₀ r s₁ => r = .ok .next ∧ Dn s₁
variable {elt tg iter : Expr} {ifs : List Expr} {scope : Scope} {pos : Pos} {it : Value} {cenv : Env}
/-- one turn of the generator's body -/
def TurnG (prog : Program) (w : World) (A2 : Around) (elt tg : Expr) (ifs : List Expr) (it : Value) (cenv : Env) (al : Bool) (Rd : Nat → Shared → Prop) (Dn Fn : Shared → Prop) : Prop :=
  ∀ (m : Nat) (s : Shared), Rd m s → wpAny (model prog w) A2 (pyNext it) (fun r s1 => match r with
    | none => Dn s1
    | some v => 0 < m ∧ wpAny (model prog w) A2 (letOwnedTupleGo tg it v) (fun _ s1' => wpAny (model prog w) A2 (assign tg cenv v) (fun _ s2 =>
        wpAny (model prog w) A2 (forIn ifs true fun c r => if r = true then do let ok ← isTrue c cenv (eval c cenv); pure (ForInStep.yield ok) else pure (ForInStep.yield r)) (fun ok s3 =>
          if ok = true then wpAny (model prog w) A2 (eval elt cenv) (fun y s4 => ∃ b, y = .bool b ∧ (b = al → ∃ m', m' < m ∧ Rd m' s4) ∧ (b ≠ al → Fn s4)) (fun _ _ => False) s3
          else ∃ m', m' < m ∧ Rd m' s3) (fun _ _ => False) s2) (fun _ _ => False) s1') (fun _ _ => False) s1) (fun _ _ => False) s
theorem nof {α : Type} {t : Sem α} {Q : α → Shared → Prop} {M : Model} {A : Around} {E : Value → Shared → Prop} {s : Shared} (h : wpAny M A t Q (fun _ _ => False) s) : wpAny M A t Q E s := wpAny_mono h (fun _ _ x => x) fun _ _ z => z.elim
/-- the count of generators does not fall -/
theorem gsz {α : Type} {t : Sem α} {Q : α → Shared → Prop} {M : Model} {A : Around} {E : Value → Shared → Prop} {s : Shared} {g : Nat} (hg : g < s.gens.size) (h : wpAny M A t Q E s) : wpAny M A t (fun a s' => g < s'.gens.size ∧ Q a s') E s :=
  GenW.wpAny_gsz (n := g + 1) hg (wpAny_mono h (fun a s' q hn => ⟨hn, q⟩) fun e s' q _ => q)
theorem seg_gq (hco : cenv.scope.isCoroutine = false) (hT : TurnG prog w (A.deeper cenv) elt tg ifs it cenv al Rd Dn Fn) (hB : ∀ m s s', Rd m s → Btw g s s' → Rd m s') : ∀ (m N : Nat) (s₀ s : Shared), m ≤ N → Rd m s → g < s.gens.size →
    Seg (model prog w) A (gEnd g Dn) (gRun g al Rd Fn) N s₀ (.compLoop (.GeneratorExp elt [⟨tg, iter, ifs, 0⟩] scope pos) 0 it .none cenv)
      ((model prog w).den (.compLoop (.GeneratorExp elt [⟨tg, iter, ifs, 0⟩] scope pos) 0 it .none cenv)) [] s := by
  intro m
  induction m using Nat.strongRecOn with
  | _ m ih =>
  intro N s₀ s hN hR hg
  show Seg _ A _ _ _ s₀ _ ((compTurn (.GeneratorExp elt [⟨tg, iter, ifs, 0⟩] scope pos) 0 it .none cenv).onRaise (leaving cenv)) [] s
  rw [turn_gen, Sem.onRaise_eq_wrap]
  refine seg_bind_wrap (wpAny_standAt ?_)
  refine seg_bind_wrap ?_
  rw [over_gen]
  refine nof (wpAny_mono (gsz hg (hT m s hR)) (fun r s1 ⟨hg1, h1⟩ => ?_) fun _ _ z => z)
  cases r with
  | none => exact seg_end (.ok .next) ⟨rfl, h1⟩
  | some v =>
    obtain ⟨hm, h1⟩ := h1
    refine seg_bind_wrap ?_
    rw [over_gen]
    refine nof (wpAny_mono (gsz hg1 h1) (fun _ s2 ⟨hg2, h2⟩ => ?_) fun _ _ z => z)
    refine seg_bind_wrap ?_
    rw [over_gen]
    refine nof (wpAny_mono (gsz hg2 h2) (fun _ s3 ⟨hg3, h3⟩ => ?_) fun _ _ z => z)
    refine seg_bind_wrap ?_
    rw [over_gen]
    refine nof (wpAny_mono (gsz hg3 h3) (fun ok s4 ⟨hg4, h4⟩ => ?_) fun _ _ z => z)
    cases ok with
    | false =>
      simp only [Bool.false_eq_true, if_false] at h4 ⊢
      obtain ⟨m', hm', hR'⟩ := h4
      exact seg_again rfl (ih m' hm' N s₀ s4 (by omega) hR' hg4)
    | true =>
      simp only [if_true] at h4 ⊢
      have hy : ∀ v, yieldOut cenv v = yieldValue v := fun v => by simp only [yieldOut, hco, Bool.false_eq_true, if_false]
      simp only [hy]
      rw [Sem.bind_eq_wrap', Sem.bind_eq_wrap', Sem.wrap_wrap, Sem.wrap_wrap]
      refine seg_wrap ?_
      rw [over_gen]
      refine nof (wpAny_mono (gsz hg4 h4) (fun y s5 ⟨hg5, b, hb, h5, h6⟩ => ?_) fun _ _ z => z)
      obtain ⟨N', rfl⟩ : ∃ N', N = N' + 1 := ⟨N - 1, by omega⟩
      refine seg_at (seg_yield rfl rfl rfl ⟨b, hb, hg5, fun e => ?_, h6⟩)
      obtain ⟨m', hm', hR'⟩ := h5 e
      exact ⟨m', by omega, hR', fun s'' hal => seg_again rfl (ih m' hm' N' s'' s'' (by omega) (hB _ _ _ hR' hal) (hal.size hg5))⟩
theorem seg_gqS (hco : cenv.scope.isCoroutine = false) (hT : TurnG prog w (A.deeper cenv) elt tg ifs it cenv al Rd Dn Fn) (hB : ∀ m s s', Rd m s → Btw g s s' → Rd m s') (hself : ∀ m s Q, Rd m s → Q it s → wpAny (model prog w) (A.deeper cenv) (pyIter it) Q (fun _ _ => False) s)
    {m N : Nat} {s₀ s : Shared} (hN : m ≤ N) (hR : Rd m s) (hg : g < s.gens.size) :
    Seg (model prog w) A (gEnd g Dn) (gRun g al Rd Fn) N s₀ (.compStart (.GeneratorExp elt [⟨tg, iter, ifs, 0⟩] scope pos) 0 it .none cenv)
      ((model prog w).den (.compStart (.GeneratorExp elt [⟨tg, iter, ifs, 0⟩] scope pos) 0 it .none cenv)) [] s := by
  have loop := seg_gq (iter := iter) (scope := scope) (pos := pos) hco hT hB m N s₀ s hN hR hg
  show Seg _ A _ _ _ s₀ _ ((compStart (.GeneratorExp elt [⟨tg, iter, ifs, 0⟩] scope pos) 0 it .none cenv).onRaise (leaving cenv)) [] s
  unfold compStart
  rw [Sem.onRaise_eq_wrap]
  show Seg _ A _ _ _ s₀ _ ((ask >>= _).wrap _ _ _ _) [] s
  refine seg_bind_wrap (wpAny_askSetting ?_)
  split
  · exact seg_again rfl loop
  · refine seg_bind_wrap (wpAny_rule ?_)
    show Seg _ A _ _ _ s₀ _ ((standAt iter.pos >>= _).wrap _ _ _ _) [] s
    refine seg_bind_wrap (wpAny_standAt (seg_bind_wrap ?_))
    rw [over_genS]
    exact nof (hself m s _ hR (seg_again rfl loop))
/-- the consumer's side: the generator stands ready -/
def CJ (prog : Program) (w : World) (A : Around) (a : Addr) (g : Nat) (al : Bool) (Rd : Nat → Shared → Prop) (Dn Fn : Shared → Prop) (N : Nat) (s : Shared) : Prop :=
  g < s.gens.size ∧ ∃ k gs, k ≤ N ∧ Rd k s ∧ s.gens[g]? = some gs ∧ ∀ s'', Btw g s s'' → gs.Goes (model prog w) A.in1 (gEnd g Dn) (gRun g al Rd Fn) N (.send .none) s''
theorem self_gen {s : Shared} {g : Nat} {x y : GenState} (h : s.gens[g]? = some x) : (s.setGen g y).gens[g]? = some y := by
  have hl : g < s.gens.size := (Array.getElem?_eq_some_iff.mp h).1
  simp [Shared.setGen, hl]
theorem lt_gen {s : Shared} {g : Nat} {y : GenState} (hl : g < s.gens.size) : (s.setGen g y).gens[g]? = some y := by simp [Shared.setGen, hl]
theorem next_gq {E : Value → Shared → Prop} {N : Nat} {s : Shared} {Q : Option Value → Shared → Prop} (hh : A.handled = none) (hroom : A.depth < recursionLimit) (hgen : ∀ m s, Rd m s → s.heap.IsGen a g ∧ s.heap.NoLimit) (hB : ∀ m s s', Rd m s → Btw g s s' → Rd m s')
    (h : CJ prog w A a g al Rd Dn Fn N s) (hY : ∀ b s1, (b = al → ∃ N', N' < N ∧ CJ prog w A a g al Rd Dn Fn N' s1) → (b ≠ al → ∃ s2, Fn s2 ∧ Aft s2 s1) → Q (some (.bool b)) s1) (hD : ∀ s2 s1, Dn s2 → Aft s2 s1 → Q none s1) :
    wpAny (model prog w) A (pyNext (.ref a)) Q E s := by
  obtain ⟨hg, k, gs, hk, hR, hgs, hgo⟩ := h
  obtain ⟨h1, h2⟩ := hgen k s hR
  have hBtw : Btw g s (s.setGen g .running) := ⟨rfl, rfl, fun h => setGen_bare rfl h, fun h => setGen_sz h⟩
  refine wpAny_pyNext_genexpQ (P := fun n s₀ s₁ => Dn s₁) hh h2 hroom h1 hgs (hgo _ hBtw) (fun v s₁ gs' hbr hv => ?_) (fun s₁ hp h' hk' => ?_)
  · obtain ⟨b, rfl, hg1, h3, h4⟩ := hv
    refine hY b _ (fun e => ?_) (fun e => ⟨s₁, h4 e, ⟨fun _ _ z => z, rfl, fun z => setGen_bare hbr z⟩⟩)
    obtain ⟨k', hk', hR', hkap⟩ := h3 e
    cases N with
    | zero => exact (hkap s₁ ⟨rfl, rfl, id, id⟩).elim
    | succ N =>
      have hB1 : Btw g s₁ (s₁.setGen g gs') := ⟨rfl, rfl, fun h => setGen_bare hbr h, fun h => setGen_sz h⟩
      exact ⟨N, Nat.lt_succ_self N, setGen_sz hg1, k', gs', by omega, hB _ _ _ hR' hB1, lt_gen hg1, fun s'' hal => hkap s'' (hB1.trans hal)⟩
  · exact hD s₁ _ hp ⟨hk', rfl, fun z => setGen_bare rfl z⟩
end
end RV

namespace RV
open PySem PySem.Spec PyProof.Rows L2
/-! ### the consumer -/
section
variable {prog : Program} {w : World} {A : Around} {a g : Addr} {al : Bool} {Rd : Nat → Shared → Prop} {Dn Fn : Shared → Prop} {R : Result → Shared → Prop}
theorem all_loop_gq (hh : A.handled = none) (hroom : A.in1.depth < recursionLimit) (hgen : ∀ m s, Rd m s → s.heap.IsGen a g ∧ s.heap.NoLimit) (hB : ∀ m s s', Rd m s → Btw g s s' → Rd m s')
    (hD : ∀ s2 s1, Dn s2 → Aft s2 s1 → R (.ok (.ret (.bool true))) s1) (hF : ∀ s2 s1, Fn s2 → Aft s2 s1 → R (.ok (.ret (.bool false))) s1) : ∀ (N : Nat) (s : Shared), CJ prog w A.in1 a g true Rd Dn Fn N s → codeAny (model prog w) A (.builtin "all.loop" ⟨[.ref a], []⟩) R s := by
  intro N
  induction N using Nat.strongRecOn with
  | _ N ih =>
  intro s hJ
  refine codeAny_builtin F.entry_all_loop ?_
  rw [Around.under_plainId F.plain_all_loop _]
  show wpAny _ A.in1 (pyNext (.ref a) >>= _) _ _ s
  refine wpAny_bind (next_gq (A := A.in1) hh hroom hgen hB hJ (fun b s1 hn hf => ?_) (fun s2 s1 h2 h3 => ?_))
  · refine wpAny_bind (wpAny_holding (wpAny_truthy_bool ?_))
    refine wpAny_bind (wpAny_letGo ?_)
    cases b with
    | true =>
      obtain ⟨N', hN, hJ'⟩ := hn rfl
      simp only [if_true]
      exact wpAny_pure ⟨plainId_quiet F.plain_all_loop _, ih N' hN s1 hJ'⟩
    | false =>
      obtain ⟨s2, h2, h3⟩ := hf (by decide)
      simp only [Bool.false_eq_true, if_false]
      exact wpAny_bind (wpAny_rule (wpAny_pure (hF s2 s1 h2 h3)))
  · exact wpAny_bind (wpAny_rule (wpAny_pure (hD s2 s1 h2 h3)))
theorem any_loop_gq (hh : A.handled = none) (hroom : A.in1.depth < recursionLimit) (hgen : ∀ m s, Rd m s → s.heap.IsGen a g ∧ s.heap.NoLimit) (hB : ∀ m s s', Rd m s → Btw g s s' → Rd m s')
    (hD : ∀ s2 s1, Dn s2 → Aft s2 s1 → R (.ok (.ret (.bool false))) s1) (hF : ∀ s2 s1, Fn s2 → Aft s2 s1 → R (.ok (.ret (.bool true))) s1) : ∀ (N : Nat) (s : Shared), CJ prog w A.in1 a g false Rd Dn Fn N s → codeAny (model prog w) A (.builtin "any.loop" ⟨[.ref a], []⟩) R s := by
  intro N
  induction N using Nat.strongRecOn with
  | _ N ih =>
  intro s hJ
  refine codeAny_builtin F.entry_any_loop ?_
  rw [Around.under_plainId F.plain_any_loop _]
  show wpAny _ A.in1 (pyNext (.ref a) >>= _) _ _ s
  refine wpAny_bind (next_gq (A := A.in1) hh hroom hgen hB hJ (fun b s1 hn hf => ?_) (fun s2 s1 h2 h3 => ?_))
  · refine wpAny_bind (wpAny_holding (wpAny_truthy_bool ?_))
    refine wpAny_bind (wpAny_letGo ?_)
    cases b with
    | false =>
      obtain ⟨N', hN, hJ'⟩ := hn rfl
      simp only [Bool.false_eq_true, if_false]
      exact wpAny_pure ⟨plainId_quiet F.plain_any_loop _, ih N' hN s1 hJ'⟩
    | true =>
      obtain ⟨s2, h2, h3⟩ := hf (by decide)
      simp only [if_true]
      exact wpAny_bind (wpAny_rule (wpAny_pure (hF s2 s1 h2 h3)))
  · exact wpAny_bind (wpAny_rule (wpAny_pure (hD s2 s1 h2 h3)))
def nameOf (al : Bool) : String := if al = true then "all" else "any"
/-- all(g), any(g) of a generator that stands ready -/
theorem call_gq {N : Nat} {s : Shared} {Q : Value → Shared → Prop} {E : Value → Shared → Prop} (hh : A.handled = none) (hroom : A.in1.depth < recursionLimit) (hgen : ∀ m s, Rd m s → s.heap.IsGen a g ∧ s.heap.NoLimit) (hB : ∀ m s s', Rd m s → Btw g s s' → Rd m s')
    (hD : ∀ s2 s1, Dn s2 → Aft s2 s1 → Q (.bool al) s1) (hF : ∀ s2 s1, Fn s2 → Aft s2 s1 → Q (.bool (!al)) s1) (hJ : CJ prog w A.in1 a g al Rd Dn Fn N s) : wpAny (model prog w) A (call (.builtin (nameOf al)) [.ref a]) Q E s := by
  obtain ⟨k, gs, hk, hR, _⟩ := hJ.2
  have hit : ∀ Q' E', Q' (.ref a) s → wpAny (model prog w) A.in1 (pyIter (.ref a)) Q' E' s := fun Q' E' q => by
    obtain ⟨hg, _⟩ := hgen _ _ hR
    exact wpAny_pyIter_gen hg q
  cases al with
  | true =>
    refine call_function_tree F.kind_all F.plain_all F.entry_all (F.args_all1 _) ?_
    unfold Builtin.«all»
    refine wpAny_bind (m := oneArg "all" _) (wpAny_pure ?_)
    refine wpAny_bind (hit _ _ ?_)
    exact wpAny_pure ⟨plainId_quiet F.plain_all_loop _, all_loop_gq hh hroom hgen hB hD hF N s hJ⟩
  | false =>
    refine call_function_tree F.kind_any F.plain_any F.entry_any (F.args_any1 _) ?_
    unfold Builtin.«any»
    refine wpAny_bind (m := oneArg "any" _) (wpAny_pure ?_)
    refine wpAny_bind (hit _ _ ?_)
    exact wpAny_pure ⟨plainId_quiet F.plain_any_loop _, any_loop_gq hh hroom hgen hB hD hF N s hJ⟩
end
end RV

namespace RV
open PySem PySem.Spec PyProof.Rows L2
/-! ### the generator's frame -/
/-- the generator's context -/
abbrev gX (X : Cx) (s : Shared) (H : Hp) (cenv : Env) (fp : List Addr) : Cx := { X with A := X.A.in1.in1.deeper cenv, s_0 := s, H_0 := H, env := cenv, outer := X.stack, stack := cenv :: X.stack, ex := fp, fn := fun _ => false, pn := [], xe := fun _ _ => False }
structure GSc (scope : Scope) : Prop where
  co : scope.isCoroutine = false
  cell : ∀ y ∈ scope.names, y.2 ≠ .cell
  dot : scope.names.lookup (".0" : Str) = some NameKind.local
section
variable {X : Cx} {pins : List (Addr × Obj)} {σ : L2.St} {H : Hp} {s : Shared}
theorem gen_start {scope : Scope} {own : List (Str × Nat)} {fp : List Addr} (I : Inv X pins σ H s) (ok : BlkOk X.N X.env.scope scope own) (gsc : GSc scope) (hN : X.N.Nodup) (hfp : ∀ b ∈ fp, FpOk X pins H b ∧ b < s.heap.objs.size)
    {it code : Value} {h' : Heap} {go : Obj} {gens' : Array GenState} {tk : Nat} (hn : h'.Ns s.heap.objs.size (fun y => if y = ".0" then some it else none)) (sb : Heap.SameBut s.heap.objs.size (s.heap.push { cls := .type "frame", data := .dict #[] }) h')
    (hgo : go.isFreed = false) (hgd : ∀ v, go.data ≠ .cell v) (hb : AllBare gens') :
    Inv (gX X s H (genEnv scope (cloFrom X.env.cells scope.names []) s.heap.objs.size code builtinsNs X.env) fp) [(h'.objs.size, go)] (L2.wipe σ (own.map (·.2))) H { s with heap := h'.push go, gens := gens', toks := tk } := by
  have hfree : ∀ y ∈ scope.names, y.2 = .free → ∃ c, X.env.cells.lookup y.1 = some c := fun y hy e => by
    rcases ok.free y hy e with k | k
    · exact I.ok.has _ (.inl k)
    · exact I.ok.has _ (.inr k)
  generalize hcenv : genEnv scope (cloFrom X.env.cells scope.names []) s.heap.objs.size code builtinsNs X.env = cenv
  have kp' : ∀ b o, s.heap.get? b = some o → h'.get? b = some o := fun b o e => by
    have h1 := Heap.get?_push_of_some { cls := .type "frame", data := .dict #[] } e
    exact (sb.2 b (Nat.ne_of_lt (Heap.lt_size e))).trans h1
  have kp : ∀ b o, s.heap.get? b = some o → (h'.push go).get? b = some o := fun b o e => Heap.get?_push_of_some _ (kp' b o e)
  have hL : cenv.locals = s.heap.objs.size := by rw [← hcenv]; rfl
  have hcl : cenv.cells = cloFrom X.env.cells scope.names [] := by rw [← hcenv]; rfl
  have hsc : cenv.scope = scope := by rw [← hcenv]; rfl
  have cm : ∀ {y c}, (y, c) ∈ cloFrom X.env.cells scope.names [] → X.env.cells.lookup y = some c ∧ c < s.heap.objs.size := fun {y c} hm => by
    rcases cloFrom_mem hm with hm | ⟨h1, rfl⟩
    · cases hm
    · obtain ⟨c, hc⟩ := hfree _ h1 rfl
      rw [hc]
      obtain ⟨w, z⟩ := I.cell _ _ hc
      exact ⟨rfl, z.lt⟩
  have mem : ∀ {y c}, cenv.cells.lookup y = some c → X.env.cells.lookup y = some c ∧ c < s.heap.objs.size := fun {y c} e => by
    rw [hcl] at e
    exact cm (PySem.mem_of_lookup e)
  have look : ∀ {y}, scope.names.lookup y = some .free → ∃ c, cenv.cells.lookup y = some c ∧ X.env.cells.lookup y = some c := fun {y} hl => by
    have hy : (y, NameKind.free) ∈ scope.names := PySem.mem_of_lookup hl
    obtain ⟨c', e'⟩ := mem_lookup (cloFrom_has (cells := X.env.cells) (acc := []) hy)
    rw [← hcl] at e'
    exact ⟨c', e', (mem e').1⟩
  have hsz : s.heap.objs.size < h'.objs.size := by
    obtain ⟨o, es, ep, ho, r⟩ := hn
    exact Heap.lt_size ho
  have okG : (gX X s H cenv fp).Ok := by
    refine ⟨I.ok.mod, by show cenv.scope.kind = _; rw [hsc]; exact ok.kind, by show cenv.globals = _; rw [← hcenv]; exact I.ok.glob, by show cenv.builtins = _; rw [← hcenv]; rfl, by show s.heap.objs.size ≤ cenv.locals; rw [hL]; exact Nat.le_refl _,
      fun y z c e1 e2 => I.ok.inj y z c (mem e1).1 (mem e2).1, fun y hy => ?_, fun y c z e => (by cases z), I.ok.hd, ?_, .inr ⟨rfl, by show cenv.frame = some cenv.locals; rw [← hcenv]; rfl⟩, fun b hb => ⟨?_, fun y c e z => ?_⟩, I.bs, Nat.le_trans I.ok.bsz I.sz, fun b o e hb => ?_, fun b hb z => ?_, I.stack, I.stkFree⟩
    · show ∃ c, cenv.cells.lookup y = some c
      rcases hy with hy | hy
      · have hy : cenv.scope.names.lookup y = some .cell := hy
        rw [hsc] at hy
        exact (gsc.cell _ (PySem.mem_of_lookup hy) rfl).elim
      · have hy : cenv.scope.names.lookup y = some .free := hy
        rw [hsc] at hy
        obtain ⟨c, h1, _⟩ := look hy
        exact ⟨c, h1⟩
    · show (X.A.in1.in1.deeper cenv).frames = some (cenv :: X.stack)
      show X.A.frames.map (cenv :: ·) = _
      rw [I.ok.frames]
      rfl
    · show b ≠ cenv.locals
      rw [hL]; exact Nat.ne_of_lt (hfp b hb).2
    · exact (hfp b hb).1.2.2.2.2.1 y c (mem e).1 z
    · rcases (hfp b hb).1.2.2.2.1 with z | z
      · exact I.ok.noex b o e z
      · exact absurd (Nat.lt_of_lt_of_le (Heap.lt_size e) (Nat.le_trans I.ok.bsz z)) (Nat.lt_irrefl _)
    · rcases List.mem_cons.mp (I.stkSub b z) with z | z
      · exact (hfp b hb).1.2.1 z
      · exact (hfp b hb).1.2.2.1 z
  refine ⟨okG, rfl, hb, Un.kept kp, ⟨(fun y => if y = (".0" : Str) then some it else none), ?_, fun i y av e1 e2 e3 => ?_⟩, fun y c e => ?_, ?_, fun y c e => ?_, fun p hp => ?_, I.hok.kept kp, by rw [wipe_length]; exact I.len⟩
  · show Heap.Ns _ cenv.locals _
    rw [hL]
    exact Heap.Ns.keeps hn fun b o e => Heap.get?_push_of_some _ e
  · obtain ⟨e2, hne⟩ := wipe_some e2
    have hfr : scope.names.lookup y = some .free := by
      have key : ∀ k, cenv.scope.names.lookup y = some k → k = .local ∨ k = .cell ∨ k = .free → scope.names.lookup y = some .free := fun k hk hk' => by
        rw [hsc] at hk
        have no : ¬ (k = .local ∨ k = .cell) := fun hh => by
          rcases ok.own _ (PySem.mem_of_lookup hk) hh with e' | e'
          · obtain ⟨p, hp, hpy⟩ := List.mem_map.mp e'
            have e3 := ok.ix p hp
            have : p.1 = y := hpy
            rw [this] at e3
            exact hne (List.mem_map.mpr ⟨p, hp, nodup_ix hN e3 e1⟩)
          · exact e' (List.mem_of_getElem? e1)
        rcases hk' with rfl | rfl | rfl
        · exact absurd (.inl rfl) no
        · exact absurd (.inr rfl) no
        · exact hk
      have e3 : Vis cenv.scope y := e3
      rcases e3 with e3 | e3 | e3
      · exact key _ e3 (.inl rfl)
      · exact key _ e3 (.inr (.inl rfl))
      · exact key _ e3 (.inr (.inr rfl))
    obtain ⟨m, hn, hl⟩ := I.loc
    have hvis : Vis X.env.scope y := (ok.free _ (PySem.mem_of_lookup hfr) rfl).elim (fun k => .inr (.inl k)) (fun k => .inr (.inr k))
    obtain ⟨w, r, q⟩ := hl i y av e1 e2 hvis
    refine ⟨w, r, .inr ⟨.inr (show cenv.scope.names.lookup y = _ from by rw [hsc]; exact hfr), ?_⟩⟩
    obtain ⟨c, h1, h2⟩ := look hfr
    rcases q with ⟨k, _⟩ | ⟨_, c', e', z⟩
    · have k : X.env.scope.names.lookup y = some .local := k
      rcases ok.free _ (PySem.mem_of_lookup hfr) rfl with k' | k' <;> rw [show X.env.scope.names.lookup y = _ from k'] at k <;> cases k
    · rw [h2] at e'; cases e'
      exact ⟨c, h1, z.keeps kp⟩
  · have e : cenv.cells.lookup y = some c := e
    obtain ⟨w, z⟩ := I.cell y c (mem e).1
    exact ⟨w, z.keeps kp⟩
  · show H cenv.locals = none
    rw [hL]; exact I.hok.fresh (Nat.le_refl _)
  · have e : cenv.cells.lookup y = some c := e
    exact I.freeC y c (mem e).1
  · have hp : p = (h'.objs.size, go) := by simpa using hp
    subst hp
    refine ⟨Heap.get?_push_size _ hgo, I.hok.fresh (Nat.le_of_lt hsz), ?_, fun z => ?_, hgd⟩
    · show h'.objs.size ≠ cenv.locals
      rw [hL]; exact Nat.ne_of_gt hsz
    · have z : h'.objs.size ∈ frs X.stack := z
      rcases List.mem_cons.mp (I.stkSub _ z) with z | z
      · exact absurd (I.lt) (by rw [← z]; exact Nat.not_lt.mpr (Nat.le_of_lt hsz))
      · exact I.nofs (Nat.le_of_lt hsz) z
end
end RV

namespace RV
open PySem PySem.Spec PyProof.Rows L2
theorem inv_btw {X : Cx} {pins : List (Addr × Obj)} {σ : L2.St} {H : Hp} {s s' : Shared} {g : Nat} (I : Inv X pins σ H s) (b : Btw g s s') : Inv X pins σ H s' :=
  ⟨I.ok, by rw [b.os]; exact I.os, b.bare I.bare, by rw [b.heap]; exact I.base, by rw [b.heap]; exact I.loc, by rw [b.heap]; exact I.cell, I.free, I.freeC, by rw [b.heap]; exact I.pin, by rw [b.heap]; exact I.hok, I.len⟩
/-- the turns of a generator under all, any: W by the turn and a measure -/
def GqW (al : Bool) (J : It) (g : TG) (tt : TT) (te : TE) (vs : List Nat) (σ : L2.St) (Q : VK) (H2 : Hp) : Prop := ∃ W : Nat → Nat → Hp → Prop, (∃ m, W 0 m H2) ∧ ∀ i m H, W i m H →
  (J.stop i H ∧ Q (.bl al) H) ∨ (J.go i H ∧ 0 < m ∧ ∀ x H', J.yld i H x H' → g x (L2.wipe σ vs) H' fun σ2 H2 => L2.wipe σ2 vs = L2.wipe σ vs ∧ tt σ2 H2 fun b H3 =>
    if b = true then te σ2 H3 fun y H4 => ∃ bb, y = .bl bb ∧ (bb = al → ∃ m', m' < m ∧ W (i + 1) m' H4) ∧ (bb ≠ al → Q (.bl (!al)) H4) else ∃ m', m' < m ∧ W (i + 1) m' H3)
section
variable {X : Cx} {pins : List (Addr × Obj)} {σ : L2.St} {H : Hp} {s : Shared}
theorem gq_core {al : Bool} {Q : VK} {elt tg iter : Expr} {ifs : List Expr} {scope : Scope} {own : List (Str × Nat)} {pos : Pos} {g : TG} {tt : TT} {te : TE} {J : It} {fp : List Addr} {it : Addr} {tn : Nat → Heap → Prop} {k : Nat}
    (hc : X.calm = true) (hr : Room k X.A) (hN : X.N.Nodup) (I : Inv X pins σ H s) (T : Turn X.prog X.w X.K tg J fp it tn) (st : tn 0 s.heap) (f : ∀ b ∈ fp, FpOk X pins H b) (ok : BlkOk X.N X.env.scope scope own) (gsc : GSc scope)
    {code : Value} {h' : Heap} {tk t1 t2 : Nat} {n1 n2 : Str} (hn : h'.Ns s.heap.objs.size (fun y => if y = ".0" then some (.ref it) else none)) (sb : Heap.SameBut s.heap.objs.size (s.heap.push { cls := .type "frame", data := .dict #[] }) h')
    (hg : ∀ (s : Shared) (H : Hp) (C : Addr) (code : Value) (fp : List Addr), PG (gX X s H (genEnv scope (cloFrom X.env.cells scope.names []) C code builtinsNs X.env) fp) tg g)
    (ht : ∀ (s : Shared) (H : Hp) (C : Addr) (code : Value) (fp : List Addr), PTs (gX X s H (genEnv scope (cloFrom X.env.cells scope.names []) C code builtinsNs X.env) fp) ifs tt)
    (he : ∀ (s : Shared) (H : Hp) (C : Addr) (code : Value) (fp : List Addr), PE (gX X s H (genEnv scope (cloFrom X.env.cells scope.names []) C code builtinsNs X.env) fp) elt te)
    (q : GqW al J g tt te (own.map (·.2)) σ Q H) :
    wpAny (model X.prog X.w) X.A (call (.builtin (nameOf al)) [.ref h'.objs.size]) (fun v s' => ∃ x H', Inv X pins σ H' s' ∧ RelV x v ∧ Q x H') X.xe
      { s with gens := s.gens.push (.fresh (.compStart (.GeneratorExp elt [⟨tg, iter, ifs, 0⟩] scope pos) 0 (.ref it) .none (genEnv scope (cloFrom X.env.cells scope.names []) s.heap.objs.size code builtinsNs X.env))), toks := tk, heap := h'.push { cls := .type "generator", data := .fields #[.int s.gens.size 0, .str n1 t1, .str n2 t2] } } := by
  obtain ⟨W, ⟨m0, w0⟩, turn⟩ := q
  have sz : ∀ b ∈ fp, b < s.heap.objs.size := fun b hb => by
    obtain ⟨o, e, _⟩ := T.obj _ _ st b hb
    exact Heap.lt_size e
  have f3 : ∀ b ∈ fp, FpOk X pins H b ∧ b < s.heap.objs.size := fun b hb => ⟨f b hb, sz b hb⟩
  have pg := hg s H s.heap.objs.size code fp
  have pt := ht s H s.heap.objs.size code fp
  have pe := he s H s.heap.objs.size code fp
  generalize hgo : ({ cls := .type "generator", data := .fields #[.int s.gens.size 0, .str n1 t1, .str n2 t2] } : Obj) = go
  have gf : go.isFreed = false := by rw [← hgo]; rfl
  have gd : ∀ v, go.data ≠ .cell v := fun v => by rw [← hgo]; intro z; cases z
  generalize hgs : (GenState.fresh (.compStart (.GeneratorExp elt [⟨tg, iter, ifs, 0⟩] scope pos) 0 (.ref it) .none (genEnv scope (cloFrom X.env.cells scope.names []) s.heap.objs.size code builtinsNs X.env))) = gs
  have gb : gs.bare = true := by rw [← hgs]; rfl
  have I5 := gen_start (it := .ref it) (code := code) (go := go) (gens' := s.gens.push gs) (tk := tk) I ok gsc hN f3 hn sb gf gd (I.bare.push gb)
  have hLt : s.heap.objs.size < h'.objs.size := by
    obtain ⟨o, es, ep, ho, r⟩ := hn
    exact Heap.lt_size ho
  have kp : ∀ b o, s.heap.get? b = some o → (h'.push go).get? b = some o := fun b o e => by
    have h1 := Heap.get?_push_of_some { cls := .type "frame", data := .dict #[] } e
    exact Heap.get?_push_of_some _ ((sb.2 b (Nat.ne_of_lt (Heap.lt_size e))).trans h1)
  generalize hce : genEnv scope (cloFrom X.env.cells scope.names []) s.heap.objs.size code builtinsNs X.env = ce at I5 pg pt pe hgs
  have hco : ce.scope.isCoroutine = false := by rw [← hce]; exact gsc.co
  generalize ha : h'.objs.size = a at I5 ⊢
  have st5 : tn 0 (h'.push go) := T.keep _ _ _ st fun b _ o e => kp b o e
  have nfp : ∀ b ∈ fp, H b = none := fun b hb => (f b hb).1
  have fne : ∀ b ∈ fp, a ≠ b := fun b hb z => by
    have := sz b hb
    rw [← z, ← ha] at this
    exact absurd (Nat.lt_trans this hLt) (Nat.lt_irrefl _)
  have stat : ∀ {σ' : L2.St} {H' : Hp} {s' : Shared}, Inv (gX X s H ce fp) [(a, go)] σ' H' s' → (∀ b ∈ fp, H' b = none) → ∀ b ∈ fp, FpOk (gX X s H ce fp) [(a, go)] H' b := fun {σ' H' s'} I' hn b hb =>
    ⟨hn b hb, (I'.ok.exf b hb).1, I'.ok.exfs b hb, .inl hb, fun x c e => (I'.ok.exf b hb).2 x c e, fun p hp => by
      have hp : p = (a, go) := by simpa using hp
      subst hp; exact fne b hb⟩
  have back : ∀ {p5 : List (Addr × Obj)} {σ5 : L2.St} {H5 : Hp} {s2 s1 : Shared}, Inv (gX X s H ce fp) p5 σ5 H5 s2 → Aft s2 s1 → Inv X pins σ H5 s1 := fun {p5 σ5 H5 s2 s1} I' af =>
    I.call' (ch := fp) (af.os.trans I'.os) (I'.base.trans (Un.kept af.heap)) (I'.hok.kept af.heap) (af.bare I'.bare) fun b hb => ⟨(f b hb).2.2.2.1, (f b hb).2.1, (f b hb).2.2.2.2.1, (f b hb).2.2.2.2.2⟩
  have isG : ∀ {p5 : List (Addr × Obj)} {σ5 : L2.St} {H5 : Hp} {s2 : Shared}, Inv (gX X s H ce fp) ((a, go) :: p5) σ5 H5 s2 → s2.heap.IsGen a s.gens.size := fun {p5 σ5 H5 s2} I' => by
    have z := (I'.pin (a, go) (by simp)).1
    rw [← hgo] at z
    exact ⟨_, _, _, z, rfl, rfl, rfl⟩
  refine call_gq (g := s.gens.size) (N := m0) (Rd := fun m s' => ∃ i H5, Inv (gX X s H ce fp) [(a, go)] (L2.wipe σ (own.map (·.2))) H5 s' ∧ tn i s'.heap ∧ (∀ b ∈ fp, H5 b = none) ∧ W i m H5)
    (Dn := fun s' => ∃ H5 p5 σ5, Inv (gX X s H ce fp) p5 σ5 H5 s' ∧ Q (.bl al) H5) (Fn := fun s' => ∃ H5 p5 σ5, Inv (gX X s H ce fp) p5 σ5 H5 s' ∧ Q (.bl (!al)) H5)
    hr.hd (by have := hr.dp; show X.A.depth < _; omega) (fun m s' ⟨i, H5, I', _⟩ => ⟨isG I', I'.nolimit⟩) (fun m s1 s2 ⟨i, H5, I', h2, h3, h4⟩ b => ⟨i, H5, inv_btw I' b, by rw [b.heap]; exact h2, h3, h4⟩)
    (fun s2 s1 ⟨H5, p5, σ5, I', q⟩ af => ⟨.bl al, H5, back I' af, rfl, q⟩) (fun s2 s1 ⟨H5, p5, σ5, I', q⟩ af => ⟨.bl (!al), H5, back I' af, rfl, q⟩) ?_
  have tg' : TurnG X.prog X.w (X.A.in1.in1.deeper ce) elt tg ifs (.ref it) ce al (fun m s' => ∃ i H5, Inv (gX X s H ce fp) [(a, go)] (L2.wipe σ (own.map (·.2))) H5 s' ∧ tn i s'.heap ∧ (∀ b ∈ fp, H5 b = none) ∧ W i m H5)
    (fun s' => ∃ H5 p5 σ5, Inv (gX X s H ce fp) p5 σ5 H5 s' ∧ Q (.bl al) H5) (fun s' => ∃ H5 p5 σ5, Inv (gX X s H ce fp) p5 σ5 H5 s' ∧ Q (.bl (!al)) H5) := by
    rintro m s5 ⟨i, H5, I5, st5, n5, w5⟩
    rcases turn i m H5 w5 with ⟨stop, qq⟩ | ⟨go', hm, step⟩
    · have td := T.done (gX X s H ce fp) rfl rfl rfl hc i _ s5 _ H5 (fun _ _ => False) I5 (stat I5 n5) st5 stop
      refine thnF td fun r s6 ⟨hr, I6⟩ => ?_
      subst hr
      exact ⟨H5, _, _, I6, qq⟩
    · have ti := T.item (gX X s H ce fp) rfl rfl rfl hc i _ s5 _ H5 (fun _ _ => False) I5 (stat I5 n5) st5 go'
      refine thnF ti fun r s6 ⟨u, hr, h6⟩ => ?_
      subst hr
      refine ⟨hm, ?_⟩
      refine thnF h6 fun _ s7 ⟨x, H7, I7, r7, y7, st7, n7⟩ => ?_
      have I7' := I7.pinned (stat I7 n7) (T.obj _ _ st7)
      refine thnF (pg.run _ s7 _ H7 x u _ I7' r7 (step x H7 y7)) fun _ s8 ⟨σ8, H8, I8, hw8, q8⟩ => ?_
      refine thnF (pt.run _ s8 σ8 H8 _ I8 q8) fun b s9 ⟨H9, I9, q9⟩ => ?_
      have fin : ∀ {s' : Shared} {H' : Hp} {m' : Nat}, Inv (gX X s H ce fp) ([(a, go)] ++ pinsAt fp s7.heap) σ8 H' s' → W (i + 1) m' H' → ∃ i H', Inv (gX X s H ce fp) [(a, go)] (L2.wipe σ (own.map (·.2))) H' s' ∧ tn i s'.heap ∧ (∀ b ∈ fp, H' b = none) ∧ W i m' H' := fun {s' H' m'} I' w' => by
        have pin' : ∀ b ∈ fp, ∀ o, s7.heap.get? b = some o → s'.heap.get? b = some o ∧ H' b = none := fun b hb o e =>
          let z := I'.pin (b, o) (List.mem_append_right _ (List.mem_append_right _ (mem_pinsAt hb e)))
          ⟨z.1, z.2.1⟩
        have hl : (L2.wipe σ (own.map (·.2))).length = σ8.length := by rw [← hw8, wipe_length]
        refine ⟨i + 1, H', (I'.unpinned (pins := [(a, go)])).weak hl (fun j v e => ?_), T.keep _ _ _ st7 fun b hb o e => (pin' b hb o e).1, fun b hb => ?_, w'⟩
        · rw [← hw8] at e
          exact (wipe_some e).1
        · obtain ⟨o, e, _⟩ := T.obj _ _ st7 b hb
          exact (pin' b hb o e).2
      cases b with
      | false =>
        simp only [Bool.false_eq_true, if_false] at q9 ⊢
        obtain ⟨m', hm', w'⟩ := q9
        exact ⟨m', hm', fin I9 w'⟩
      | true =>
        simp only [if_true] at q9 ⊢
        refine thnF (pe.run _ s9 σ8 H9 _ I9 q9) fun z s10 ⟨yv, H10, I10, r10, bb, hbb, h1, h2⟩ => ?_
        subst hbb
        have r10 : z = .bool bb := r10
        refine ⟨bb, r10, fun e => ?_, fun e => ⟨H10, _, _, I10, h2 e⟩⟩
        obtain ⟨m', hm', w'⟩ := h1 e
        exact ⟨m', hm', fin I10 w'⟩
  refine ⟨by rw [Array.size_push]; exact Nat.lt_succ_self _, m0, gs, Nat.le_refl _, ⟨0, H, I5, st5, nfp, w0⟩, by simp, fun s'' hal => ?_⟩
  rw [← hgs]
  refine ⟨rfl, ?_⟩
  refine seg_gqS hco tg' (fun m s1 s2 ⟨i, H5, I', h2, h3, h4⟩ b => ⟨i, H5, inv_btw I' b, by rw [b.heap]; exact h2, h3, h4⟩) (fun m s' Q' ⟨i, H5, I', h2, _⟩ q => T.self _ i s' Q' _ h2 q) (Nat.le_refl _) ?_ (hal.size (by rw [Array.size_push]; exact Nat.lt_succ_self _))
  exact ⟨0, H, inv_btw I5 hal, by rw [hal.heap]; exact st5, nfp, w0⟩
end
end RV

namespace RV
open PySem PySem.Spec PyProof.Rows L2
def tGq (al : Bool) (P : Addr) (wi : TI) (g : TG) (tt : TT) (te : TE) (vs : List Nat) : TE := fun σ H Q => wi σ H fun J H1 => TabG H1 P ∧ ∀ H2, SameT H1 H2 → GqW al J g tt te vs σ Q H2
section
variable {X : Cx}
theorem gen_gq {pins : List (Addr × Obj)} {σ : L2.St} {H : Hp} {s : Shared} {c P : Addr} {al : Bool} {Q : VK} {elt tg iter : Expr} {ifs : List Expr} {scope : Scope} {own : List (Str × Nat)} {gpos : Pos} {wi : TI} {g : TG} {tt : TT} {te : TE} {k : Nat} {Q' : Value → Shared → Prop}
    (hc : X.calm = true) (hr : Room k X.A) (hN : X.N.Nodup) (TB : GxR.TabB X.base X.mg c P) (hcode : X.env.code = .ref c) (ok : BlkOk X.N X.env.scope scope own) (gsc : GSc scope) (hi : PI X tg iter wi)
    (hg : ∀ (s : Shared) (H : Hp) (C : Addr) (code : Value) (fp : List Addr), PG (gX X s H (genEnv scope (cloFrom X.env.cells scope.names []) C code builtinsNs X.env) fp) tg g)
    (ht : ∀ (s : Shared) (H : Hp) (C : Addr) (code : Value) (fp : List Addr), PTs (gX X s H (genEnv scope (cloFrom X.env.cells scope.names []) C code builtinsNs X.env) fp) ifs tt)
    (he : ∀ (s : Shared) (H : Hp) (C : Addr) (code : Value) (fp : List Addr), PE (gX X s H (genEnv scope (cloFrom X.env.cells scope.names []) C code builtinsNs X.env) fp) elt te)
    (hs : ∀ v, genFold iter X.env v = pure v) (I : Inv X pins σ H s) (h : tGq al P wi g tt te (own.map (·.2)) σ H Q)
    (hQ : ∀ a s5, wpAny (model X.prog X.w) X.A (call (.builtin (nameOf al)) [.ref a]) (fun v s' => ∃ x H', Inv X pins σ H' s' ∧ RelV x v ∧ Q x H') X.xe s5 → Q' (.ref a) s5) :
    wpAny (model X.prog X.w) X.A (eval (.GeneratorExp elt [⟨tg, iter, ifs, 0⟩] scope gpos) X.env) Q' X.xe s := by
  have hfree : ∀ y ∈ scope.names, y.2 = .free → ∃ c, X.env.cells.lookup y.1 = some c := fun y hy e => by
    rcases ok.free y hy e with k | k
    · exact I.ok.has _ (.inl k)
    · exact I.ok.has _ (.inr k)
  refine wpAny_GeneratorExp_make gsc.co (closure_ok hfree) gsc.cell gsc.dot ok.kind (by have := hr.dp; omega) ?_ hs
  refine thn (hi.run pins s σ H _ I h) fun xv s1 hx => thn hx fun itv s2 h2 => ?_
  obtain ⟨it, fp, tn, J, H1, e, I1, T, st1, f1, ⟨ps, hP, htr⟩, q⟩ := h2
  subst e
  have hPs : s2.heap.get? P = some { cls := .none, data := .fields ps } := I1.hok P _ hP
  have cd : PySem.W.CodeHd s2.heap c P := TB.code.keeps fun b u e => I1.bk b u e
  have cont : ∀ (code : Value) (h3 : Heap) (tk : Nat) (ps' : Array Value), Heap.ExtBut P s2.heap h3 → h3.get? P = some { cls := .none, data := .fields ps' } → (∃ more, ps' = ps ++ more) → TriplesOk ps'.toList →
      wpAny (model X.prog X.w) X.A (builtinsFor X.env.globals X.env.builtins) (fun bi s₄ =>
        ∀ h', h'.Ns s₄.heap.objs.size (fun y => if y = ".0" then some (.ref it) else none) → Heap.SameBut s₄.heap.objs.size (s₄.heap.push { cls := .type "frame", data := .dict #[] }) h' →
          Q' (.ref h'.objs.size) { s₄ with
            gens := s₄.gens.push (.fresh (.compStart (.GeneratorExp elt [⟨tg, iter, ifs, 0⟩] scope gpos) 0 (.ref it) .none (genEnv scope (cloFrom X.env.cells scope.names []) s₄.heap.objs.size code bi X.env))),
            toks := s₄.toks + 1 + 1 + 1,
            heap := h'.push { cls := .type "generator", data := .fields #[.int s₄.gens.size 0, .str "<genexpr>" (s₄.toks + 1), .str (X.env.qual ++ "<genexpr>") (s₄.toks + 1 + 1)] } }) X.xe { s2 with heap := h3, toks := tk } := by
    intro code h3 tk ps' hx hP3 hmore ht3
    obtain ⟨bm, ob, e1, e2, e3, e4, e5, e6, e7, e8⟩ := TB.bm
    have keep3 : ∀ b u, b ≠ P → s2.heap.get? b = some u → h3.get? b = some u := fun b u hb e => hx b u hb e
    refine wpAny_builtinsFor (m := X.mg) (by rw [I1.ok.glob]; exact (I1.mod.glob.keeps I1.bk).extBut hx TB.gP) e1 e2 (keep3 _ _ e4 (I1.bk _ _ e5)) e6 e7 e8 ?_
    intro h' hn sb
    obtain ⟨more, em⟩ := hmore
    have I3 := GxR.inv_tab (more := more) (h' := h3) (g' := s2.gens) (d' := s2.drawn) (t' := tk) I1 hP keep3 (by rw [← em]; exact hP3) I1.bare
    have nfp : ∀ b ∈ fp, b ≠ P := fun b hb z => by
      have := (f1 b hb).1
      rw [z, hP] at this; cases this
    have st3 : tn 0 h3 := T.keep _ _ _ st1 fun b hb o e => keep3 b o (nfp b hb) e
    have f3 : ∀ b ∈ fp, FpOk X pins (upd H1 P (.tbl (ps ++ more))) b := fun b hb => ⟨by rw [upd_ne (nfp b hb)]; exact (f1 b hb).1, (f1 b hb).2⟩
    have sT : SameT H1 (upd H1 P (.tbl (ps ++ more))) := by
      refine ⟨fun b u e n => ?_, fun b qs e => ?_⟩
      · rw [upd_ne (fun z => by rw [z, hP] at e; exact n ps (Option.some.inj e).symm)]; exact e
      · by_cases z : b = P
        · subst z
          exact ⟨_, upd_same, fun _ => by rw [← em]; exact ht3⟩
        · exact ⟨qs, by rw [upd_ne z]; exact e, id⟩
    exact hQ _ _ (gq_core (s := { s2 with heap := h3, toks := tk }) hc hr hN I3 T st3 f3 ok gsc hn sb hg ht he (q _ sT))
  refine ⟨I1.nolimit, ?_⟩
  cases hf : codeAmong gpos ps.toList with
  | none =>
    refine wpAny_genexprCodeX hcode (cd.code hPs htr) (cd.tab hPs) hf fun c' h' tk hx hge hlt hco' _ htab' _ => ?_
    obtain ⟨o1, vs, f1, tf, fl, tg, inF, tx, tt, op, _, _, _, _, _, _, _, _, _, htr', _⟩ := hco'
    exact cont _ h' tk _ hx htab'.2 ⟨_, rfl⟩ htr'
  | some cv =>
    refine wpAny_genexprCode_hit hcode (cd.code hPs htr) hf ?_
    exact cont cv s2.heap s2.toks ps (Heap.ExtBut.refl _ _) hPs ⟨#[], by simp⟩ htr
theorem boot_of (al : Bool) : bootBuiltins (nameOf al) = some (.builtin (nameOf al)) := by cases al <;> decide +kernel
theorem pe_gq {c P : Addr} {al : Bool} {elt tg iter : Expr} {ifs : List Expr} {scope : Scope} {own : List (Str × Nat)} {p pos gpos : Pos} {wi : TI} {g : TG} {tt : TT} {te : TE} {k : Nat}
    (hc : X.calm = true) (hr : Room k X.A) (hN : X.N.Nodup) (hgl : Gl X (nameOf al)) (hm : X.mg (nameOf al) = none) (TB : GxR.TabB X.base X.mg c P) (hcode : X.env.code = .ref c) (ok : BlkOk X.N X.env.scope scope own) (gsc : GSc scope) (hi : PI X tg iter wi)
    (hg : ∀ (s : Shared) (H : Hp) (C : Addr) (code : Value) (fp : List Addr), PG (gX X s H (genEnv scope (cloFrom X.env.cells scope.names []) C code builtinsNs X.env) fp) tg g)
    (ht : ∀ (s : Shared) (H : Hp) (C : Addr) (code : Value) (fp : List Addr), PTs (gX X s H (genEnv scope (cloFrom X.env.cells scope.names []) C code builtinsNs X.env) fp) ifs tt)
    (he : ∀ (s : Shared) (H : Hp) (C : Addr) (code : Value) (fp : List Addr), PE (gX X s H (genEnv scope (cloFrom X.env.cells scope.names []) C code builtinsNs X.env) fp) elt te)
    (hs : ∀ v, genFold iter X.env v = pure v)
    (he' : starEach [.GeneratorExp elt [⟨tg, iter, ifs, 0⟩] scope gpos] X.env = (false, eval (.GeneratorExp elt [⟨tg, iter, ifs, 0⟩] scope gpos) X.env) :: starEach [] X.env := by rfl) :
    PE X (.Call (.Name (nameOf al) p) [.GeneratorExp elt [⟨tg, iter, ifs, 0⟩] scope gpos] [] pos) (tGq al P wi g tt te (own.map (·.2))) := by
  refine ⟨fun pins s σ H Q I h => ?_⟩
  refine wpAny_Call_Name_kw (ld_blt I hgl hm (boot_of al) ?_ (hn := by cases al <;> decide) (hd := by cases al <;> decide))
  refine PyProof.Rows.callWith_builtin1 ?_ he' (by rfl)
  rw [he']
  show wpAny _ _ (spliced ((false, eval (.GeneratorExp elt [⟨tg, iter, ifs, 0⟩] scope gpos) X.env) :: backTo pos (starEach [] X.env))) _ _ s
  refine Calls.spliced_cons (gen_gq hc hr hN TB hcode ok gsc hi hg ht he hs I h fun a s5 hw => ?_)
  refine Calls.spliced_nil ?_
  exact hw
end
end RV

namespace RV
open PySem PySem.Spec PyProof.Rows L2
variable [Tb]
section
variable {X : Cx} {K : PySem.W.Frag} {H H' : Hp} {O O' : OZ}
def gqStep (ft : PyData → En → Option En) (fi : En → Option (Bool × En)) (fe : En → Rs) (own : List Nat) : PyData → En → Option (Option Bool × En) := fun d e2 =>
  (ft d e2).bind fun e3 => (fi e3).bind fun b => if b.1 = true then (fe b.2).bind fun r => (boolOf r.1).bind fun q => some (some q, wip own r.2.2) else some (none, wip own b.2)
def gqF (al : Bool) (fi0 : En → Option (List PyData × List Nat × En)) (step : PyData → En → Option (Option Bool × En)) (own : List Nat) : En → Rs := fun e => (fi0 e).bind fun x => (fzO own x.2.2).bind fun e1 =>
      (gqL al step x.1 (wip own e1)).bind fun y => some (.bool y.1, false, unls x.2.1 (rsto e1 own y.2))
theorem gq_in {t : TN} {al : Bool} {P : Addr} {own : List Nat} {fi0 : En → Option (List PyData × List Nat × En)} {fi : En → Option (Bool × En)} {fe : En → Rs} (hT : Tb.T P)
    (hsl : ∀ j ∈ tsl t, j ∈ own) (lki : ∀ e b e', fi e = some (b, e') → LkE e e') (lke : ∀ e d fr e', fe e = some (d, fr, e') → LkE e e')
    (σ : L2.St) (H : Hp) (Q : VK) (h : tE K (gqF al fi0 (gqStep (fun d e => asN t d false e) fi fe own) own) σ H Q) : tGq al P (tI (isTup t) K fi0) (gT K t) (tT K fi) (tE K fe) own σ H Q := by
  obtain ⟨O, env, d, fr, env', rp, e1, q⟩ := h
  obtain ⟨⟨ds, lks, env1⟩, x1, e1⟩ := bindS e1
  obtain ⟨e1', x2, e1⟩ := bindS e1
  obtain ⟨⟨res, e3⟩, x3, e1⟩ := bindS e1
  simp only at x2 x3 e1
  cases e1
  refine ⟨O, env, ds, lks, env1, rp, x1, fun J H1 O1 rp1 itok g1 => ⟨rp1.tb P hT, fun H2 sT => ?_⟩⟩
  have rp2 := rp1.sameT sT
  have g12 : G O1 H1 O1 H2 := G.sameT sT
  obtain ⟨Oa, rpa, ga, lka, noa, _⟩ := Rep.fzO rp2 x2
  have rpb := rpa.wip own
  have fin : ∀ {H3 : Hp} {O3 : OZ} {env3 : En} {b : Bool}, Rep K H3 O3 (L2.wipe σ own) env3 → G Oa H2 O3 H3 → some (b, env3) = some (res, e3) → Q (.bl b) H3 := fun {H3 O3 env3 b} rp3 g3 e => by
    cases e
    have rpr : Rep K H3 O3 σ (rsto e1' own e3) := Rep.rsto rpa rp3 g3.to noa
    exact q (.bl _) H3 O3 rpr.unls (.bl _) (g1.trans (g12.trans (ga.trans g3)))
  refine ⟨fun i m H3 => ∃ O3 env3, m = ds.length - i ∧ i ≤ ds.length ∧ Rep K H3 O3 (L2.wipe σ own) env3 ∧ G Oa H2 O3 H3 ∧ M O1 H1 O3 H3 ∧ LkS env1 σ env3 (L2.wipe σ own) ∧
    gqL al (gqStep (fun d e => asN t d false e) fi fe own) (ds.drop i) env3 = some (res, e3), ⟨ds.length, Oa, wip own e1', by simp, Nat.zero_le _, rpb, .refl, (g12.trans ga).to, ?_, by simpa using x3⟩, ?_⟩
  · intro j dl hj
    obtain ⟨k1, _⟩ := lka j dl hj
    have nj : j ∉ own := fun z => (noa j z dl).1 k1
    exact ⟨by rw [wip_get, if_neg fun z => nj z.1]; exact k1, by rw [wipe_get, if_neg fun z => nj z.1]⟩
  · rintro i m H3 ⟨O3, env3, rfl, hi, rp3, g3, m3, lk3, hl3⟩
    by_cases hlt : i < ds.length
    · have hd : ds[i]? = some ds[i] := List.getElem?_eq_getElem hlt
      obtain ⟨jgo, jy⟩ := itok.go i H3 O3 env3 _ _ rp3 m3 lk3 hd
      refine .inr ⟨jgo, by omega, fun x H4 y => ?_⟩
      obtain ⟨s4, ri⟩ := jy x H4 y
      rw [List.drop_eq_getElem_cons hlt] at hl3
      obtain ⟨⟨o, env4⟩, s1, hl4⟩ := bindS (show ((gqStep (fun d e => asN t d false e) fi fe own) ds[i] env3).bind (fun x => match x.1 with
        | none => gqL al _ (ds.drop (i + 1)) x.2
        | some b => if b = al then gqL al _ (ds.drop (i + 1)) x.2 else some (b, x.2)) = _ from hl3)
      obtain ⟨en4, t1, s1⟩ := bindS s1
      obtain ⟨⟨b, en5⟩, t2, s1⟩ := bindS s1
      have rp4 := rp3.same s4
      refine asN_g t rp4 ri t1 fun σ2 rp5 lk5 n5 => ?_
      have hw : L2.wipe σ2 own = L2.wipe σ own := wipe_eq (by rw [← rp5.len, asN_len t t1, rp3.len, L2.wipe_length]) fun j hj => n5 j fun z => hj (hsl j z)
      refine ⟨hw, O3, en4, b, en5, rp5, t2, fun H5 O5 rp6 g5 => ?_⟩
      have lk6 : LkS env1 σ en5 σ2 := (lk3.trans lk5).trans (lki _ _ _ t2).s
      have finS : ∀ {e7 : En} {H7 : Hp} {O7 : OZ}, Rep K H7 O7 σ2 e7 → LkS env1 σ e7 σ2 → Rep K H7 O7 (L2.wipe σ own) (wip own e7) ∧ LkS env1 σ (wip own e7) (L2.wipe σ own) := fun {e7 H7 O7} r l => by
        refine ⟨by rw [← hw]; exact r.wip own, fun j dl hj => ?_⟩
        obtain ⟨k1, k2⟩ := l j dl hj
        have nj : j ∉ own := fun z => (noa j z dl).1 (lka j dl hj).1
        exact ⟨by rw [wip_get, if_neg fun z => nj z.1]; exact k1, by rw [wipe_get, if_neg fun z => nj z.1]⟩
      have gg : G O3 H3 O5 H5 := (G.same s4).trans g5
      cases b with
      | true =>
        simp only [if_true] at s1 ⊢
        obtain ⟨⟨r, frr, en6⟩, t3, s1⟩ := bindS s1
        obtain ⟨q6, t4, s1⟩ := bindS s1
        cases s1
        simp only at hl4 t4
        refine ⟨O5, en5, r, frr, en6, rp6, t3, fun y6 H6 O6 rp7 res6 g6 => ?_⟩
        have hr : r = .bool q6 := by
          unfold boolOf at t4
          split at t4
          · cases t4; rfl
          · cases t4
        subst hr
        have hy : y6 = .bl q6 := by
          obtain ⟨O7, rp8, rd8, g7⟩ := res6.shared rp7
          cases rd8; rfl
        obtain ⟨r8, l8⟩ := finS rp7 (lk6.trans (lke _ _ _ _ t3).s)
        have gall : G Oa H2 O6 H6 := (g3.trans gg).trans g6
        refine ⟨q6, hy, fun e => ?_, fun e => ?_⟩
        · rw [if_pos e] at hl4
          exact ⟨ds.length - (i + 1), by omega, O6, _, rfl, hlt, r8, gall, (m3.trans gg.to).trans g6.to, l8, hl4⟩
        · rw [if_neg e] at hl4
          have hb : (!al) = q6 := by cases al <;> cases q6 <;> simp_all
          rw [hb]
          exact fin r8 gall hl4
      | false =>
        simp only [Bool.false_eq_true, if_false] at s1 ⊢
        cases s1
        simp only at hl4
        obtain ⟨r8, l8⟩ := finS rp6 lk6
        exact ⟨ds.length - (i + 1), by omega, O5, _, rfl, hlt, r8, g3.trans gg, m3.trans gg.to, l8, hl4⟩
    · have hie : ds.length ≤ i := by omega
      refine .inl ⟨itok.stop i H3 O3 env3 _ rp3 m3 lk3 hie hi, ?_⟩
      rw [List.drop_eq_nil_of_le hie] at hl3
      exact fin rp3 g3 hl3
end
end RV

namespace RV
open PySem PySem.Spec PyProof.Rows L2
/-! ### from the text to the small language -/
structure SC where
  N : List Str
  names : List (Str × NameKind)
  own : Option (List (Str × NameKind))
  fs : List (Str × Nat)
  gen : Bool
def posOf (x : Str) : List Str → Option Nat
  | [] => none
  | y :: r => if x = y then some 0 else (posOf x r).map (· + 1)
def posOf2 (x : Str) : List (Str × Nat) → Option (Nat × Nat)
  | [] => none
  | y :: r => if x = y.1 then some (0, y.2) else (posOf2 x r).map fun p => (p.1 + 1, p.2)
def visC (c : SC) (x : Str) : Bool := match c.names.lookup x with
  | some .local => true
  | some .cell => true
  | some .free => true
  | _ => false
def slotC (c : SC) (x : Str) : Option Nat := if visC c x = true ∧ (x == ("__debug__" : Str)) = false ∧ (x == ("__classdict__" : Str)) = false then posOf x c.N else none
def stC (c : SC) (x : Str) : Option Nat := match c.names.lookup x with
  | some .local => posOf x c.N
  | some .cell => match c.own with
    | none => posOf x c.N
    | some l => if (l.lookup x == some .cell) = true then posOf x c.N else none
  | _ => none
def glC (c : SC) (x : Str) : Bool := decide (c.names.lookup x = some .globalImplicit)
def relN (l names : List (Str × NameKind)) : List (Str × NameKind) := l.map fun p => if (p.2 == .free && names.lookup p.1 == some .cell) = true then (p.1, .cell) else (p.1, p.2)
def conC : Const → Option PyData
  | .none => some .none
  | .bool b => some (.bool b)
  | .int i => some (.int i)
  | .str x => some (.str x)
  | _ => none
def opC : Operator → Option Op2
  | .Add => some .add
  | .Sub => some .sub
  | .Mult => some .mul
  | .FloorDiv => some .fdiv
  | .Mod => some .mod
  | .Pow => some .pow
  | _ => none
def cmC : CmpOp → Option Cm
  | .Eq => some .eq
  | .NotEq => some .ne
  | .Lt => some .lt
  | .LtE => some .le
  | .Gt => some .gt
  | .GtE => some .ge
  | .In => some .inn
  | .NotIn => some .notin
  | _ => none
def isNoneE : Expr → Bool
  | .Constant .none _ _ => true
  | _ => false
def mapC (f : Expr → Option CE) : List Expr → Option (List CE)
  | [] => some []
  | e :: r => if plainE e = true then (f e).bind fun a => (mapC f r).bind fun b => some (a :: b) else none
def optC (f : Expr → Option CE) : Option Expr → Option (Option CE)
  | none => some none
  | some e => (f e).bind fun a => some (some a)
def cmpC (f : Expr → Option CE) (a : Expr) (ops : List CmpOp) (bs : List Expr) : Option CE := match ops, bs with
  | [.Is], [b] => if isNoneE b = true then (f a).bind fun a => some (.fn .isNone [a]) else none
  | [.IsNot], [b] => if isNoneE b = true then (f a).bind fun a => some (.fn .notNone [a]) else none
  | [o], [b] => (cmC o).bind fun o' => if behindInMarks o b = false then (f a).bind fun a => (f b).bind fun b => some (.cmp o' a b) else none
  | [o, o2], [b, c] => (cmC o).bind fun o' => (cmC o2).bind fun o2' => if lastMarks [o, o2] [b, c] = false then (f a).bind fun a => (f b).bind fun b => (f c).bind fun c => some (.chain o' o2' a b c) else none
  | [o, o2, o3], [b, c, d] => (cmC o).bind fun o' => (cmC o2).bind fun o2' => (cmC o3).bind fun o3' => if lastMarks [o, o2, o3] [b, c, d] = false then (f a).bind fun a => (f b).bind fun b => (f c).bind fun c => (f d).bind fun d => some (.chain3 o' o2' o3' a b c d) else none
  | _, _ => none
def subC (f : Expr → Option CE) (a b : Expr) : Option CE := match b with
  | .Slice lo hi none _ => (f a).bind fun a => (optC f lo).bind fun lo => (optC f hi).bind fun hi => some (.slc a lo hi)
  | .Slice none none (some (.UnaryOp .USub (.Constant (.int 1) _ _) _)) _ => (f a).bind fun a => some (.rev a)
  | b => if plainE b = true then (f a).bind fun a => (f b).bind fun b => some (.idx a b) else none
def bltB : List (Str × String × Fn) := [("len", "len", .len), ("abs", "abs", .abs), ("sum", "sum", .sum), ("max", "max", .max), ("min", "min", .min), ("all", "all", .all), ("any", "any", .any), ("sorted", "sorted", .sorted)]
def bltT : List (Str × String × Fn) := [("int", "int", .int), ("list", "list", .list), ("tuple", "tuple", .tuple)]
def isiT : List (Str × String × Fn) := [("int", "int", .isInt), ("bool", "bool", .isBool), ("str", "str", .isStr), ("tuple", "tuple", .isTup)]
def find3 (x : Str) : List (Str × String × Fn) → Option (String × Fn)
  | [] => none
  | y :: r => if x = y.1 then some y.2 else find3 x r
def callC (c : SC) (f : Expr → Option CE) (x : Str) (args : List Expr) : Option CE :=
  if glC c x = true ∧ (x == ("__debug__" : Str)) = false then
    match posOf2 x c.fs with
    | some (i, np) => if args.length = np then (mapC f args).bind fun as => some (.call i as) else none
    | none => match x == ("isinstance" : Str), args with
      | true, [a, .Name y _] => if glC c y = true ∧ plainE a = true ∧ posOf2 y c.fs = none then (find3 y isiT).bind fun q => (f a).bind fun a => some (.fn q.2 [a]) else none
      | true, _ => none
      | false, _ => if args ≠ [] then match find3 x bltB with
        | some q => (mapC f args).bind fun as => some (.fn q.2 as)
        | none => (find3 x bltT).bind fun q => (mapC f args).bind fun as => some (.fn q.2 as)
        else none
  else none
def mapT (f : Expr → Option TN) : List Expr → Option (List TN)
  | [] => some []
  | e :: r => if plainE e = true then (f e).bind fun a => (mapT f r).bind fun b => some (a :: b) else none
def tgC (c : SC) : Nat → Expr → Option TN
  | 0, _ => none
  | n + 1, e => match e with
    | .Name x _ => (stC c x).map .nm
    | .Tuple es _ _ => (mapT (tgC c n) es).map .tup
    | _ => none
def isTupE : Expr → Bool
  | .Tuple _ _ _ => true
  | _ => false
def notSet : Expr → Bool
  | .Set _ _ _ => false
  | _ => true
def notComp : Expr → Bool
  | .ListComp _ _ _ _ => false
  | .SetComp _ _ _ _ => false
  | .DictComp _ _ _ _ _ => false
  | _ => true
def notCall : Expr → Bool
  | .Call _ _ _ _ => false
  | _ => true
def ownC (c : SC) (scope : Scope) : List (Str × Nat) := scope.names.filterMap fun p => match p.2 with
  | .local => (posOf p.1 c.N).map fun i => (p.1, i)
  | .cell => (posOf p.1 c.N).map fun i => (p.1, i)
  | _ => none
def SC.blk (c : SC) (scope : Scope) : SC := { c with names := relN scope.names c.names, own := some scope.names }
def SC.sc (c : SC) : Scope := { kind := .function, names := c.names, isGenerator := false, isCoroutine := false }
def ifsC (g : Expr → Option CT) : List Expr → Option (Option CT)
  | [] => some none
  | [b] => (g b).bind fun t => some (some t)
  | _ => none
def lcC (f : SC → Expr → Option CE) (g : SC → Expr → Option CT) (h : SC → Bool → Expr → Option CI) (c : SC) (elt tg iter : Expr) (ifs : List Expr) (scope : Scope) : Option CE :=
  if blkC c.N c.sc scope (ownC c scope) = true ∧ notSet iter = true then
    (tgC (c.blk scope) 3 tg).bind fun t => (h c (isTupE tg) iter).bind fun it => (ifsC (g (c.blk scope)) ifs).bind fun i => (f (c.blk scope) elt).bind fun e =>
      if (tsl t).all (fun j => decide (j ∈ (ownC c scope).map (·.2))) = true then some (.lc e t it i ((ownC c scope).map (·.2))) else none
  else none
/-- a generator expression under all, any -/
def SC.gn (c : SC) (scope : Scope) : SC := { c with names := scope.names, own := some scope.names, gen := true }
def gscC (scope : Scope) : Bool := decide (scope.isCoroutine = false) && decide (scope.names.lookup (".0" : Str) = some NameKind.local) && scope.names.all fun y => decide (y.2 ≠ .cell)
def notList : Expr → Bool
  | .List _ _ => false
  | _ => true
def gqC (f : SC → Expr → Option CE) (g : SC → Expr → Option CT) (h : SC → Bool → Expr → Option CI) (c : SC) (al : Bool) (elt tg iter : Expr) (ifs : List Expr) (scope : Scope) : Option CE :=
  if c.gen = false ∧ glC c (Str.ofString (nameOf al)) = true ∧ blkC c.N c.sc scope (ownC c scope) = true ∧ gscC scope = true ∧ notSet iter = true ∧ notList iter = true then
    (tgC (c.gn scope) 3 tg).bind fun t => (h c (isTupE tg) iter).bind fun it => (ifsC (g (c.gn scope)) ifs).bind fun i => (f (c.gn scope) elt).bind fun e =>
      if (tsl t).all (fun j => decide (j ∈ (ownC c scope).map (·.2))) = true then some (.gq al e t it i ((ownC c scope).map (·.2))) else none
  else none
/-- all(.. for ..), any(.. for ..) -/
def gqArg (x : Str) : List Expr → Option (Bool × Expr × Expr × Expr × List Expr × Scope)
  | [.GeneratorExp elt [⟨tg, iter, ifs, 0⟩] scope _] => if x = "all" then some (true, elt, tg, iter, ifs, scope) else if x = "any" then some (false, elt, tg, iter, ifs, scope) else none
  | _ => none
def methC (c : SC) (f : Expr → Option CE) (o : Expr) (m : Str) (args : List Expr) : Option CE :=
  if m = "pop" then match o, args with
    | .Name x _, [] => (slotC c x).map .pop
    | .Name x _, [b] => if plainE b = true then (slotC c x).bind fun i => (f b).bind fun b => some (.popAt i b) else none
    | _, _ => none
  else if m = "index" then match args with
    | [b] => if plainE b = true ∧ notCall o = true then (f o).bind fun a => (f b).bind fun b => some (.idxm a b) else none
    | _ => none
  else if m = "join" then match args with
    | [b] => match o with
      | .Constant (.str z) _ _ => if plainE b = true then (f b).bind fun b => some (.join z b) else none
      | _ => none
    | _ => none
  else none
def iterC (c : SC) (f : Expr → Option CE) (tup : Bool) (e : Expr) : Option CI := match e with
  | .Call (.Name x _) args [] _ => if x = "range" then (if glC c x = true ∧ posOf2 x c.fs = none then match args with
      | [a] => if plainE a = true then (f a).bind fun a => some (.rng1 a) else none
      | [a, b] => if plainE a = true ∧ plainE b = true then (f a).bind fun a => (f b).bind fun b => some (.rng2 a b) else none
      | _ => none else none)
    else if x = "enumerate" then (if glC c x = true ∧ tup = true then match args with
      | [a] => if plainE a = true then (f a).bind fun a => some (.enm a) else none
      | _ => none else none)
    else if x = "zip" then (if glC c x = true ∧ tup = true then match args with
      | [a, b] => if plainE a = true ∧ plainE b = true then (f a).bind fun a => (f b).bind fun b => some (.zip a b) else none
      | _ => none else none)
    else (f e).bind fun a => some (.seq a)
  | _ => (f e).bind fun a => some (.seq a)
/-- len(set(a)) -/
def setArg (x : Str) : List Expr → Option Expr
  | [.Call (.Name y _) [a] [] _] => if x = "len" ∧ y = "set" then some a else none
  | _ => none
mutual
def cE : Nat → SC → Expr → Option CE
  | 0, _, _ => none
  | n + 1, c, e => match e with
    | .Constant k _ _ => (conC k).map .con
    | .Name x _ => (slotC c x).map .var
    | .BinOp a o b _ => (opC o).bind fun o => (cE n c a).bind fun a => (cE n c b).bind fun b => some (.bin o a b)
    | .UnaryOp .USub a _ => (cE n c a).bind fun a => some (.neg a)
    | .UnaryOp .Not a _ => (cE n c a).bind fun a => some (.nott a)
    | .BoolOp _ [a] _ => cE n c a
    | .BoolOp .And (a :: b :: r) p => (cE n c a).bind fun a => (cE n c (.BoolOp .And (b :: r) p)).bind fun b => some (.andd a b)
    | .BoolOp .Or (a :: b :: r) p => (cE n c a).bind fun a => (cE n c (.BoolOp .Or (b :: r) p)).bind fun b => some (.orr a b)
    | .Compare a ops bs _ => cmpC (cE n c) a ops bs
    | .IfExp t a b _ => (cT n c t).bind fun t => (cE n c a).bind fun a => (cE n c b).bind fun b => some (.ite t a b)
    | .Tuple es _ _ => (mapC (cE n c) es).bind fun es => some (.tup es)
    | .List es _ => (mapC (cE n c) es).bind fun es => some (.lst es)
    | .Subscript a b _ => subC (cE n c) a b
    | .Call (.Name x _) args [] _ => match gqArg x args with
      | some (al, elt, tg, iter, ifs, scope) => gqC (cE n) (cT n) (cI n) c al elt tg iter ifs scope
      | none => match setArg x args with
      | some a => if glC c "len" = true ∧ glC c "set" = true ∧ plainE a = true then (cE n c a).bind fun a => some (.lenset a) else none
      | none => callC c (cE n c) x args
    | .Call (.Attribute o m apos) args [] pos => if (apos.endLine == pos.line) = true then methC c (cE n c) o m args else none
    | .ListComp elt [⟨tg, iter, ifs, 0⟩] scope _ => lcC (cE n) (cT n) (cI n) c elt tg iter ifs scope
    | _ => none
def cT : Nat → SC → Expr → Option CT
  | 0, _, _ => none
  | n + 1, c, e => match e with
    | .UnaryOp .Not a _ => (cT n c a).bind fun a => some (.nott a)
    | .BoolOp _ [a] _ => cT n c a
    | .BoolOp .And (a :: b :: r) p => (cT n c a).bind fun a => (cT n c (.BoolOp .And (b :: r) p)).bind fun b => some (.andd a b)
    | .BoolOp .Or (a :: b :: r) p => (cT n c a).bind fun a => (cT n c (.BoolOp .Or (b :: r) p)).bind fun b => some (.orr a b)
    | .BoolOp _ [] _ => none
    | .IfExp _ _ _ _ => none
    | .Compare a ops bs _ => (cmpC (cE n c) a ops bs).bind fun r => some (.val r)
    | e => (cE n c e).bind fun r => some (.val r)
def cI : Nat → SC → Bool → Expr → Option CI
  | 0, _, _, _ => none
  | n + 1, c, b, e => iterC c (cE n c) b e
end
/-! statements -/
def foldAll (vs : List Expr) : Bool := vs.all (foldedForSure 8)
/-- the tuple's items are not given from the right -/
def noSwap (c : SC) (ts vs : List Expr) : Bool := foldAll vs || ts.any fun t => match t with
  | .Name x _ => !(c.names.lookup x == some .local)
  | _ => true
def asgC (n : Nat) (c : SC) (tg e : Expr) (line : Nat) : Option CS := match tg, e with
  | .Tuple [.Name x px, .Name y py] kt pt, .Tuple [a, b] k2 pt2 =>
    if noSwap c [.Name x px, .Name y py] [a, b] = true then (tgC c 3 tg).bind fun t => (cE n c e).bind fun e => some (.asg t e)
    else if plainE a = true ∧ plainE b = true ∧ x ≠ y ∧ c.names.lookup x = some .local ∧ c.names.lookup y = some .local ∧ px.line = py.line ∧ foldAll [a, b] = false ∧ ([a, b].all (constantsAlone 8)) = false then
      (posOf x c.N).bind fun i => (posOf y c.N).bind fun j => (mapC (cE n c) [a, b]).bind fun es => some (.asg (.tup [.nm i, .nm j]) (.tup es))
    else none
  | .Tuple ts kt pt, .Tuple vs k2 pt2 => if noSwap c ts vs = true then (tgC c 3 (.Tuple ts kt pt)).bind fun t => (cE n c (.Tuple vs k2 pt2)).bind fun e => some (.asg t e) else none
  | .Subscript (.Name x _) b _, e => if plainE b = true ∧ notComp e = true then (slotC c x).bind fun i => (cE n c b).bind fun b => (cE n c e).bind fun e => some (.sto i b e) else none
  | .Name y py, .ListComp elt [⟨tg, iter, ifs, 0⟩] scope pos =>
    if c.names.lookup y = some .local ∧ (py.line == pos.line) = true then
      (if (scope.names.any fun (n, k) => n == y && (k == .local || k == .cell)) = false then (posOf y c.N).bind fun i => (lcC (cE n) (cT n) (cI n) c elt tg iter ifs scope).bind fun r => some (.asg (.nm i) r) else none)
    else (tgC c 3 (.Name y py)).bind fun t => (cE (n + 1) c (.ListComp elt [⟨tg, iter, ifs, 0⟩] scope pos)).bind fun e => some (.asg t e)
  | tg, e => if notComp e = true ∧ (isTupE e && isTupE tg) = false then (tgC c 3 tg).bind fun t => (cE n c e).bind fun e => some (.asg t e) else none
def mapS (f : Stmt → Option CS) : List Stmt → Option (List CS)
  | [] => some []
  | s :: r => (f s).bind fun a => (mapS f r).bind fun b => some (a :: b)
def exprC (n : Nat) (c : SC) (e : Expr) : Option CS := match e with
  | .Call (.Attribute (.Name x _) m apos) [b] [] pos => if m = "append" then
      (if (apos.endLine == pos.line) = true ∧ plainE b = true then (slotC c x).bind fun i => (cE n c b).bind fun b => some (.app i b) else none)
    else (cE n c e).bind fun r => some (.ex r)
  | _ => if notComp e = true then (cE n c e).bind fun r => some (.ex r) else none
def cS : Nat → SC → Stmt → Option CS
  | 0, _, _ => none
  | n + 1, c, s => match s with
    | .Expr e pos => exprC n c e
    | .Assign [tg] e pos => asgC n c tg e pos.line
    | .AugAssign (.Name x _) o e _ => (opC o).bind fun o => (stC c x).bind fun i => (cE n c e).bind fun e => some (.aug i o e)
    | .AugAssign (.Subscript (.Name x _) b _) o e _ => if plainE b = true then (opC o).bind fun o => (slotC c x).bind fun i => (cE n c b).bind fun b => (cE n c e).bind fun e => some (.augs i b o e) else none
    | .Return none _ => some .retn
    | .Return (some e) _ => (cE n c e).bind fun r => some (.ret r)
    | .If t a b _ => (cT n c t).bind fun t => (mapS (cS n c) a).bind fun a => (mapS (cS n c) b).bind fun b => some (.ife t a b)
    | .While t a [] _ => (cT n c t).bind fun t => (mapS (cS n c) a).bind fun a => some (.whl t a)
    | .For tg it a [] _ => if notSet it = true then (tgC c 3 tg).bind fun t => (cI n c (isTupE tg) it).bind fun i => (mapS (cS n c) a).bind fun a => some (.forr t i a) else none
    | _ => none
/-- a def -/
def argsC (a : Arguments) : List Str := a.args.map (·.arg)
def scopeC (N ps : List Str) (sc : Scope) : Bool := decide (sc.kind = .function) && decide (sc.isCoroutine = false) && decide (sc.isGenerator = false) && decide N.Nodup && decide (N.take ps.length = ps) &&
  ps.all (fun x => decide (sc.names.lookup x = some .local ∨ sc.names.lookup x = some .cell)) && sc.names.all fun y => decide (y.2 ≠ .free)
def cD (n : Nat) (fs : List (Str × Nat)) (N : List Str) (st : Stmt) : Option CD :=
  if scopeC N (argsC (defArgs st)) (defScope st) = true then (mapS (cS n { N := N, names := (defScope st).names, own := none, fs := fs, gen := false }) (defBody st)).bind fun b => some ⟨(argsC (defArgs st)).length, N.length, b⟩ else none
end RV

namespace RV
open PySem PySem.Spec PyProof.Rows L2
variable [Tb]
/-! ### what the compiler makes is so -/
def blNames : List Str := ["len", "abs", "sum", "max", "min", "all", "any", "sorted", "int", "list", "tuple", "bool", "str", "isinstance", "range", "enumerate", "zip", "set"]
structure Stat (Φ : Fs) (k : Nat) (X : Cx) (c : SC) : Prop where
  N : X.N = c.N
  nd : c.N.Nodup
  names : X.env.scope.names = c.names
  kind : X.env.scope.kind = .function
  calm : X.calm = true
  room : Room k X.A
  xe : X.xe = fun _ _ => False
  fn : ∀ x, X.fn x = (match c.own with | none => true | some l => l.lookup x == some .cell)
  fns : ∀ (i : Nat) (x : Str) (np : Nat), c.fs[i]? = some (x, np) → ∃ (fad : Addr) (fd : FuncData) (ps : List Str), X.mg x = some (.ref fad) ∧ PySem.W.keepIn X.K (.ref fad) = true ∧ Binds X.K fd ps [] ∧ FnOk X.prog X.w X.K X.mg X.base CX0 k fad fd ps (spF X.K np (Φ i))
  bl : ∀ x ∈ blNames, X.mg x = none
  room1 : c.gen = false → Room (k + 1) X.A
  code : c.gen = false → ∃ cd P, X.env.code = .ref cd ∧ GxR.TabB X.base X.mg cd P ∧ Tb.T P
variable {Φ : Fs} {k : Nat} {X : Cx} {c : SC}
theorem posOf_ok {x : Str} : ∀ {N : List Str} {i : Nat}, posOf x N = some i → N[i]? = some x
  | y :: r, i, h => by
    unfold posOf at h
    split at h
    · rename_i e; cases h; rw [e]; rfl
    · obtain ⟨j, hj, rfl⟩ := Option.map_eq_some_iff.mp h
      simpa using posOf_ok hj
theorem posOf2_ok {x : Str} : ∀ {N : List (Str × Nat)} {i np : Nat}, posOf2 x N = some (i, np) → N[i]? = some (x, np)
  | y :: r, i, np, h => by
    unfold posOf2 at h
    split at h
    · rename_i e; cases h; rw [e]; rfl
    · obtain ⟨⟨j, m⟩, hj, e⟩ := Option.map_eq_some_iff.mp h
      cases e
      simpa using posOf2_ok hj
theorem find3_ok {x : Str} {q : String × Fn} : ∀ {l : List (Str × String × Fn)}, find3 x l = some q → (x, q) ∈ l
  | y :: r, h => by
    unfold find3 at h
    split at h
    · rename_i e; cases h; rw [e]; exact List.mem_cons_self
    · exact List.mem_cons_of_mem _ (find3_ok h)
theorem Stat.hu (S : Stat Φ k X c) : X.A.units + 200 < cLine := by have := S.room.un; omega
theorem Stat.gl (S : Stat Φ k X c) {x : Str} (h : glC c x = true) : Gl X x := by
  have h := of_decide_eq_true h
  show X.env.scope.names.lookup x = _
  rw [S.names]; exact h
theorem Stat.lk (S : Stat Φ k X c) (x : Str) : X.env.scope.names.lookup x = c.names.lookup x := by rw [S.names]
theorem slot_ok (S : Stat Φ k X c) {x : Str} {i : Nat} {pos : Pos} (h : slotC c x = some i) : PE X (.Name x pos) (tVar i) := by
  unfold slotC at h
  split at h
  · rename_i q
    refine pe_var (by rw [S.N]; exact posOf_ok h) ?_ q.2.1 q.2.2
    have v := q.1
    unfold visC at v
    unfold Vis
    rw [S.lk]
    split at v
    · exact .inl ‹_›
    · exact .inr (.inl ‹_›)
    · exact .inr (.inr ‹_›)
    · cases v
  · cases h
theorem stC_ok (S : Stat Φ k X c) {x : Str} {i : Nat} (h : stC c x = some i) : X.N[i]? = some x ∧ L2.Loc X.env.scope x ∧ (X.fn x = true ∨ X.env.scope.names.lookup x = some .local) := by
  unfold stC at h
  unfold L2.Loc
  rw [S.lk, S.N, S.fn]
  split at h
  · exact ⟨posOf_ok h, .inl ‹_›, .inr ‹_›⟩
  · rename_i e1
    cases hw : c.own with
    | none =>
      rw [hw] at h
      exact ⟨posOf_ok h, .inr e1, .inl rfl⟩
    | some l =>
      rw [hw] at h
      simp only at h
      split at h
      · exact ⟨posOf_ok h, .inr e1, .inl ‹_›⟩
      · cases h
  · cases h
def Snd (Φ : Fs) (X : Cx) (e : Expr) (r : CE) : Prop := PE X e (tE X.K (evE Φ r)) ∧ PE X e (tH X.K fun en => hdl r (evE Φ r en) en) ∧ ∀ i, r = .var i → PE X e (tVar i)
theorem Snd.v {e : Expr} {i : Nat} (h : PE X e (tVar i)) : Snd Φ X e (.var i) := ⟨g_varE h, g_varH h, fun j z => by cases z; exact h⟩
theorem Snd.mk {e : Expr} {r : CE} (h : PE X e (tE X.K (evE Φ r))) (n : ∀ i, r ≠ .var i) : Snd Φ X e r := by
  refine ⟨h, ?_, fun i z => (n i z).elim⟩
  have := g_val h
  have e : (fun en => hdl r (evE Φ r en) en) = fun en => (evE Φ r en).bind fun x => some (.val x.1, x.2.2) := funext fun en => hdl_val n _ _
  rw [e]; exact this
theorem evT_val {r : CE} (n : ∀ i, r ≠ .var i) : evT Φ (.val r) = bT (evE Φ r) := by
  rw [← vT_val]
  funext en
  show (hdl r (evE Φ r en) en).bind _ = _
  rw [hdl_val n]
  rfl
/-- all that f makes is so -/
def OkE (Φ : Fs) (k : Nat) (f : SC → Expr → Option CE) : Prop := ∀ (c : SC) (e : Expr) (r : CE), f c e = some r → ∀ X, Stat Φ k X c → Snd Φ X e r
def OkT (Φ : Fs) (k : Nat) (f : SC → Expr → Option CT) : Prop := ∀ (c : SC) (e : Expr) (r : CT), f c e = some r → ∀ X, Stat Φ k X c → PT X e (tT X.K (evT Φ r))
def OkI (Φ : Fs) (k : Nat) (f : SC → Bool → Expr → Option CI) : Prop := ∀ (c : SC) (b : Bool) (e : Expr) (r : CI), f c b e = some r → ∀ X, Stat Φ k X c → ∀ tg w, (b = true → isTupE tg = true ∧ w = true) → PI X tg e (tI w X.K (evI Φ r))
section
variable {f : SC → Expr → Option CE} {g : SC → Expr → Option CT} {h : SC → Bool → Expr → Option CI}
theorem mapC_ok (hf : OkE Φ k f) (S : Stat Φ k X c) : ∀ {es : List Expr} {rs : List CE}, mapC (f c) es = some rs → PA X es (tEs X.K (evEs Φ rs)) ∧ PA X es (tHs X.K (evHs Φ rs)) ∧ es.all plainE = true ∧ rs.length = es.length
  | [], rs, q => by cases q; exact ⟨a_nil, h_nil, rfl, rfl⟩
  | e :: r, rs, q => by
    unfold mapC at q
    split at q
    · rename_i hp
      obtain ⟨a, h1, q⟩ := bindS q
      obtain ⟨b, h2, q⟩ := bindS q
      cases q
      obtain ⟨i1, i2, i3, i4⟩ := mapC_ok hf S h2
      have s := hf c e a h1 X S
      exact ⟨a_cons s.1 i1 hp, h_cons s.2.1 i2 hp, by rw [List.all_cons, hp, i3]; rfl, by simp [i4]⟩
    · cases q
theorem optC_ok (hf : OkE Φ k f) (S : Stat Φ k X c) {o : Option Expr} {r : Option CE} (q : optC (f c) o = some r) : PO X o (tOI X.K (evO Φ r)) := by
  cases o with
  | none => cases q; exact o_none
  | some e =>
    obtain ⟨a, h1, q⟩ := bindS q
    cases q
    exact o_some (hf c e a h1 X S).2.1
theorem cm_of {o : CmpOp} {o' : Cm} (q : cmC o = some o') : o = cmOf o' := by cases o <;> cases q <;> rfl
theorem op_of {o : Operator} {o' : Op2} (q : opC o = some o') : o = opOf o' := by cases o <;> cases q <;> rfl
theorem isNoneE_ok {b : Expr} (q : isNoneE b = true) : ∃ j p, b = .Constant .none j p := by
  unfold isNoneE at q
  split at q
  · exact ⟨_, _, rfl⟩
  · cases q
theorem evE_chain {o o2 : Cm} {a b c : CE} : evE Φ (.chain o o2 a b c) = chF (fun e => hdl a (evE Φ a e) e) (fun e => hdl b (evE Φ b e) e) (fun e => hdl c (evE Φ c e) e) o o2 := by
  funext e
  simp only [evE]
  rfl
theorem evE_chain3 {o o2 o3 : Cm} {a b c d : CE} : evE Φ (.chain3 o o2 o3 a b c d) = ch3F (fun e => hdl a (evE Φ a e) e) (fun e => hdl b (evE Φ b e) e) (fun e => hdl c (evE Φ c e) e) (fun e => hdl d (evE Φ d e) e) o o2 o3 := by
  funext e
  simp only [evE]
  rfl
theorem cmpC_ok (hf : OkE Φ k f) (S : Stat Φ k X c) {a : Expr} {ops : List CmpOp} {bs : List Expr} {pos : Pos} {r : CE} (q : cmpC (f c) a ops bs = some r) :
    PE X (.Compare a ops bs pos) (tE X.K (evE Φ r)) ∧ PT X (.Compare a ops bs pos) (tT X.K (evT Φ (.val r))) ∧ ∀ i, r ≠ .var i := by
  unfold cmpC at q
  split at q
  · split at q
    · obtain ⟨j, p, rfl⟩ := isNoneE_ok ‹_›
      obtain ⟨a', h1, q⟩ := bindS q
      cases q
      have s := hf c _ _ h1 X S
      refine ⟨g_isNone (j := j) (pos' := p) (pos := pos) s.2.1, ?_, fun i z => by cases z⟩
      rw [evT_val fun i z => by cases z]
      exact t_isNone s.2.1
    · cases q
  · split at q
    · obtain ⟨j, p, rfl⟩ := isNoneE_ok ‹_›
      obtain ⟨a', h1, q⟩ := bindS q
      cases q
      have s := hf c _ _ h1 X S
      refine ⟨g_notNone (j := j) (pos' := p) (pos := pos) s.2.1, ?_, fun i z => by cases z⟩
      rw [evT_val fun i z => by cases z]
      exact t_notNone s.2.1
    · cases q
  · obtain ⟨o', h0, q⟩ := bindS q
    split at q
    · rename_i hm
      obtain ⟨a', h1, q⟩ := bindS q
      obtain ⟨b', h2, q⟩ := bindS q
      cases q
      cases cm_of h0
      have s1 := hf c _ _ h1 X S
      have s2 := hf c _ _ h2 X S
      exact ⟨g_cmp S.hu s1.2.1 s2.2.1 hm, by rw [evT_val fun i z => by cases z]; exact t_cmp S.hu s1.2.1 s2.2.1 hm, fun i z => by cases z⟩
    · cases q
  · obtain ⟨o', h0, q⟩ := bindS q
    obtain ⟨o2', h0', q⟩ := bindS q
    split at q
    · rename_i hm
      obtain ⟨a', h1, q⟩ := bindS q
      obtain ⟨b', h2, q⟩ := bindS q
      obtain ⟨c', h3, q⟩ := bindS q
      cases q
      cases cm_of h0
      cases cm_of h0'
      have s1 := hf c _ _ h1 X S
      have s2 := hf c _ _ h2 X S
      have s3 := hf c _ _ h3 X S
      exact ⟨by rw [evE_chain]; exact g_chain S.hu s1.2.1 s2.2.1 s3.2.1 hm, by rw [evT_val (fun i z => by cases z), evE_chain]; exact t_chain S.hu s1.2.1 s2.2.1 s3.2.1 hm, fun i z => by cases z⟩
    · cases q
  · obtain ⟨o', h0, q⟩ := bindS q
    obtain ⟨o2', h0', q⟩ := bindS q
    obtain ⟨o3', h0'', q⟩ := bindS q
    split at q
    · rename_i hm
      obtain ⟨a', h1, q⟩ := bindS q
      obtain ⟨b', h2, q⟩ := bindS q
      obtain ⟨c', h3, q⟩ := bindS q
      obtain ⟨d', h4, q⟩ := bindS q
      cases q
      cases cm_of h0
      cases cm_of h0'
      cases cm_of h0''
      have s1 := hf c _ _ h1 X S
      have s2 := hf c _ _ h2 X S
      have s3 := hf c _ _ h3 X S
      have s4 := hf c _ _ h4 X S
      exact ⟨by rw [evE_chain3]; exact g_chain3 S.hu s1.2.1 s2.2.1 s3.2.1 s4.2.1 hm, by rw [evT_val (fun i z => by cases z), evE_chain3]; exact t_chain3 S.hu s1.2.1 s2.2.1 s3.2.1 s4.2.1 hm, fun i z => by cases z⟩
    · cases q
  · cases q
theorem subC_ok (hf : OkE Φ k f) (S : Stat Φ k X c) {a b : Expr} {pos : Pos} {r : CE} (q : subC (f c) a b = some r) : PE X (.Subscript a b pos) (tE X.K (evE Φ r)) ∧ ∀ i, r ≠ .var i := by
  unfold subC at q
  split at q
  · obtain ⟨a', h1, q⟩ := bindS q
    obtain ⟨lo, h2, q⟩ := bindS q
    obtain ⟨hi, h3, q⟩ := bindS q
    cases q
    exact ⟨g_slc (hf c _ _ h1 X S).2.1 (optC_ok hf S h2) (optC_ok hf S h3), fun i z => by cases z⟩
  · obtain ⟨a', h1, q⟩ := bindS q
    cases q
    exact ⟨g_rev (hf c _ _ h1 X S).2.1, fun i z => by cases z⟩
  · split at q
    · rename_i hp
      obtain ⟨a', h1, q⟩ := bindS q
      obtain ⟨b', h2, q⟩ := bindS q
      cases q
      exact ⟨g_idx (hf c _ _ h1 X S).2.1 (hf c _ _ h2 X S).2.1 hp, fun i z => by cases z⟩
    · cases q
theorem evHs_len : ∀ {rs : List CE} {env : En} {hs : List Hd} {env' : En}, evHs Φ rs env = some (hs, env') → hs.length = rs.length
  | [], env, hs, env', h => by simp only [evHs] at h; cases h; rfl
  | r :: rs, env, hs, env', h => by
    simp only [evHs] at h
    obtain ⟨x, h1, h⟩ := bindS h
    obtain ⟨y, h2, h⟩ := bindS h
    cases h
    simp [evHs_len h2]
theorem Stat.mg (S : Stat Φ k X c) {x : Str} (h : x ∈ blNames) : X.mg x = none := S.bl x h
def bltBok : Bool := bltB.all fun q => decide (q.1 ∈ blNames) && decide (bootBuiltins q.1 = some (.builtin q.2.1)) && decide (q.1 ≠ "__name__")
def bltTok : Bool := bltT.all fun q => decide (q.1 ∈ blNames) && decide (bootBuiltins q.1 = some (.type q.2.1)) && decide (q.1 ≠ "__name__")
def isiTok : Bool := isiT.all fun q => decide (q.1 ∈ blNames) && decide (bootBuiltins q.1 = some (.type q.2.1)) && decide (q.1 ≠ "__name__") && decide (q.2.1 ∈ clsNames) && decide ((q.1 == ("__debug__" : Str)) = false)
theorem bltBok_t : bltBok = true := by decide +kernel
theorem bltTok_t : bltTok = true := by decide +kernel
theorem isiTok_t : isiTok = true := by decide +kernel
theorem bltB_call (S : Stat Φ k X c) {q : Str × String × Fn} (h : q ∈ bltB) : CallR X (.builtin q.2.1) (rFn X.K q.2.2) := by
  simp only [bltB, List.mem_cons, List.not_mem_nil, or_false] at h
  rcases h with rfl | rfl | rfl | rfl | rfl | rfl | rfl | rfl
  · exact fn_len
  · exact fn_abs
  · exact fn_sum S.calm
  · exact fn_max S.calm
  · exact fn_min S.calm
  · exact fn_all S.calm
  · exact fn_any S.calm
  · exact fn_sorted S.hu
theorem bltT_call (S : Stat Φ k X c) {q : Str × String × Fn} (h : q ∈ bltT) : CallR X (.type q.2.1) (rFn X.K q.2.2) := by
  simp only [bltT, List.mem_cons, List.not_mem_nil, or_false] at h
  rcases h with rfl | rfl | rfl
  · exact fn_int
  · exact fn_list
  · exact fn_tuple
theorem isi_fn {q : Str × String × Fn} (h : q ∈ isiT) : fnD q.2.2 = fIs q.2.1 := by
  simp only [isiT, List.mem_cons, List.not_mem_nil, or_false] at h
  rcases h with rfl | rfl | rfl | rfl <;> rfl
theorem callC_ok (hf : OkE Φ k f) (S : Stat Φ k X c) {x : Str} {args : List Expr} {p pos : Pos} {r : CE} (q : callC c (f c) x args = some r) : PE X (.Call (.Name x p) args [] pos) (tE X.K (evE Φ r)) ∧ ∀ i, r ≠ .var i := by
  unfold callC at q
  split at q
  rotate_left
  · cases q
  rename_i hg
  have hgl := S.gl hg.1
  split at q
  · rename_i i np hi
    split at q
    · rename_i hl
      obtain ⟨as, h1, q⟩ := bindS q
      cases q
      obtain ⟨fad, fd, ps, m1, m2, m3, m4⟩ := S.fns i x np (posOf2_ok hi)
      obtain ⟨a1, a2, a3, a4⟩ := mapC_ok hf S h1
      refine ⟨?_, fun i z => by cases z⟩
      cases args with
      | nil =>
        cases h1
        cases hl
        exact g_call0 m4 S.room hgl m1 m2 m3 hg.2
      | cons e es => exact g_call m4 S.room hgl m1 m2 m3 (fun env hs env' h => by rw [evHs_len h, a4, hl]) a2 a3 hg.2
    · cases q
  · split at q
    · rename_i hx
      split at q
      · rename_i hc
        obtain ⟨t, h0, q⟩ := bindS q
        obtain ⟨a', h1, q⟩ := bindS q
        cases q
        have hm := find3_ok h0
        have ok := List.all_eq_true.mp isiTok_t _ hm
        simp only [Bool.and_eq_true, decide_eq_true_eq] at ok
        have ex : x = "isinstance" := by simpa using hx
        subst ex
        refine ⟨g_isi (isi_fn hm) ok.1.2 hgl (S.mg (by decide +kernel)) (S.gl hc.1) (S.mg ok.1.1.1.1) ok.1.1.1.2 ok.1.1.2 ok.2 (hf c _ _ h1 X S).2.1 hc.2.1, fun i z => by cases z⟩
      · cases q
    · cases q
    · split at q
      rotate_left
      · cases q
      rename_i az b0 az2 h2 hne
      cases az with
      | nil => exact (hne rfl).elim
      | cons e es =>
        split at q
        · rename_i t ht
          obtain ⟨as, h1, q⟩ := bindS q
          cases q
          obtain ⟨a1, a2, a3, a4⟩ := mapC_ok hf S h1
          have hm := find3_ok ht
          have ok := List.all_eq_true.mp bltBok_t _ hm
          simp only [Bool.and_eq_true, decide_eq_true_eq] at ok
          exact ⟨g_fnB (bltB_call S hm) hgl (S.mg ok.1.1) ok.1.2 ok.2 hg.2 a2 a3, fun i z => by cases z⟩
        · obtain ⟨t, ht, q⟩ := bindS q
          obtain ⟨as, h1, q⟩ := bindS q
          cases q
          obtain ⟨a1, a2, a3, a4⟩ := mapC_ok hf S h1
          have hm := find3_ok ht
          have ok := List.all_eq_true.mp bltTok_t _ hm
          simp only [Bool.and_eq_true, decide_eq_true_eq] at ok
          exact ⟨g_fnT (bltT_call S hm) hgl (S.mg ok.1.1) ok.1.2 ok.2 hg.2 a2 a3, fun i z => by cases z⟩
theorem evI_ok {r : CI} : True := trivial
theorem isTupE_ok {e : Expr} (h : isTupE e = true) : ∃ es k p, e = .Tuple es k p := by
  cases e <;> first | exact ⟨_, _, _, rfl⟩ | cases h
theorem iterC_ok (hf : OkE Φ k f) (S : Stat Φ k X c) {e tg : Expr} {w b : Bool} {r : CI} (q : iterC c (f c) b e = some r) (hb : b = true → isTupE tg = true ∧ w = true) : PI X tg e (tI w X.K (evI Φ r)) := by
  have seq : ∀ {e : Expr} {r : CI}, ((f c e).bind fun a => some (.seq a)) = some r → PI X tg e (tI w X.K (evI Φ r)) := fun {e r} q => by
    obtain ⟨a', h1, q⟩ := bindS q
    cases q
    exact i_seq (hf c _ _ h1 X S).2.1
  unfold iterC at q
  split at q
  · split at q
    · rename_i hx
      split at q
      rotate_left
      · cases q
      rename_i hg
      subst hx
      have hgl := S.gl hg.1
      have hm := S.mg (x := "range") (by decide +kernel)
      split at q
      · split at q
        · rename_i hp
          obtain ⟨a', h1, q⟩ := bindS q
          cases q
          exact i_rng1 hgl hm (hf c _ _ h1 X S).2.1 hp
        · cases q
      · split at q
        · rename_i hp
          obtain ⟨a', h1, q⟩ := bindS q
          obtain ⟨b', h2, q⟩ := bindS q
          cases q
          exact i_rng2 hgl hm (hf c _ _ h1 X S).2.1 (hf c _ _ h2 X S).2.1 hp.1 hp.2
        · cases q
      · cases q
    · split at q
      · rename_i hx
        split at q
        rotate_left
        · cases q
        rename_i hg
        subst hx
        have hgl := S.gl hg.1
        have hm := S.mg (x := "enumerate") (by decide +kernel)
        obtain ⟨ht, rfl⟩ := hb hg.2
        obtain ⟨es, kk, pp, rfl⟩ := isTupE_ok ht
        split at q
        · split at q
          · rename_i hp
            obtain ⟨a', h1, q⟩ := bindS q
            cases q
            exact i_enm hgl hm (hf c _ _ h1 X S).2.1 hp
          · cases q
        · cases q
      · split at q
        · rename_i hx
          split at q
          rotate_left
          · cases q
          rename_i hg
          subst hx
          have hgl := S.gl hg.1
          have hm := S.mg (x := "zip") (by decide +kernel)
          obtain ⟨ht, rfl⟩ := hb hg.2
          obtain ⟨es, kk, pp, rfl⟩ := isTupE_ok ht
          split at q
          · split at q
            · rename_i hp
              obtain ⟨a', h1, q⟩ := bindS q
              obtain ⟨b', h2, q⟩ := bindS q
              cases q
              exact i_zip hgl hm (hf c _ _ h1 X S).2.1 (hf c _ _ h2 X S).2.1 hp.1 hp.2
            · cases q
          · cases q
        · exact seq q
  · exact seq q
theorem tgC_tup {n : Nat} {e : Expr} {t : TN} (q : tgC c n e = some t) : isTupE e = isTup t := by
  cases n with
  | zero => cases q
  | succ n =>
    unfold tgC at q
    split at q
    · obtain ⟨i, h1, rfl⟩ := Option.map_eq_some_iff.mp q; rfl
    · obtain ⟨i, h1, rfl⟩ := Option.map_eq_some_iff.mp q; rfl
    · cases q
theorem mapT_ok {F : Expr → Option TN} (hF : ∀ e t, F e = some t → PG X e (gT X.K t)) : ∀ {es : List Expr} {ts : List TN}, mapT F es = some ts → PGs X es (gTs X.K ts) ∧ (assignEach es X.env).length = ts.length ∧ (assignEach es X.env).findIdx? (·.1) = none
  | [], ts, q => by cases q; exact ⟨pgs_nil, rfl, rfl⟩
  | e :: r, ts, q => by
    unfold mapT at q
    split at q
    · rename_i hp
      obtain ⟨a, h1, q⟩ := bindS q
      obtain ⟨b, h2, q⟩ := bindS q
      cases q
      obtain ⟨i1, i2, i3⟩ := mapT_ok hF h2
      have ha : assignEach (e :: r) X.env = (false, assign e X.env) :: assignEach r X.env := by cases e <;> first | rfl | cases hp
      refine ⟨pgs_cons (hF e a h1) i1 (by rw [ha]; rfl), by rw [ha]; simp [i2], by rw [ha, List.findIdx?_cons]; simp [i3]⟩
    · cases q
theorem tgC_ok (S : Stat Φ k X c) : ∀ (n : Nat) (e : Expr) (t : TN), tgC c n e = some t → PG X e (gT X.K t)
  | 0, _, _, q => by cases q
  | n + 1, e, t, q => by
    unfold tgC at q
    split at q
    · obtain ⟨i, h1, rfl⟩ := Option.map_eq_some_iff.mp q
      obtain ⟨a1, a2, a3⟩ := stC_ok S h1
      exact pg_name (by rw [S.N]; exact S.nd) a1 a2 a3
    · obtain ⟨ts, h1, rfl⟩ := Option.map_eq_some_iff.mp q
      obtain ⟨a1, a2, a3⟩ := mapT_ok (tgC_ok S n) h1
      exact pg_tup S.calm a1 a2 a3
    · cases q
theorem notSet_ok {e : Expr} (h : notSet e = true) (env : Env) (x : Value) : foldedSetIterable e env x = pure x := by
  cases e <;> first | rfl | cases h
theorem relN_ok (S : Stat Φ k X c) (scope : Scope) (cl : List (Str × Addr)) (C : Addr) : (compEnvC scope cl C X.env).scope.names = relN scope.names c.names := by
  show (scope.names.map _) = scope.names.map _
  refine List.map_congr_left fun p _ => ?_
  obtain ⟨n, kd⟩ := p
  have hk : (X.env.scope.kind == ScopeKind.function) = true := by rw [S.kind]; rfl
  have hn : X.env.kindOf n = c.names.lookup n := S.lk n
  simp only [hk, hn, Bool.and_true]
theorem Stat.blk (S : Stat Φ k X c) {scope : Scope} (ok : BlkOk X.N X.env.scope scope (ownC c scope)) (s : Shared) (H : Hp) (C : Addr) (cl : List (Str × Addr)) (fp : List Addr) : Stat Φ k (X.blk s H scope (compEnvC scope cl C X.env) fp) (c.blk scope) where
  N := S.N
  nd := S.nd
  names := relN_ok S scope cl C
  kind := ok.kind
  calm := S.calm
  room := S.room
  xe := rfl
  fn := fun x => rfl
  fns := S.fns
  bl := S.bl
  room1 := S.room1
  code := S.code
theorem blk_ok (S : Stat Φ k X c) {scope : Scope} (h : blkC c.N c.sc scope (ownC c scope) = true) : BlkOk X.N X.env.scope scope (ownC c scope) := by
  have ok := blkOk_by h
  rw [S.N]
  exact ⟨ok.kind, ok.uniq, ok.ix, fun y hy e => by rw [S.lk]; exact ok.free y hy e, ok.own⟩
theorem lcC_ok (hf : OkE Φ k f) (hg : OkT Φ k g) (hh : OkI Φ k h) (S : Stat Φ k X c) {elt tg iter : Expr} {ifs : List Expr} {scope : Scope} {r : CE} (q : lcC f g h c elt tg iter ifs scope = some r) :
    ∃ (wi : TI) (gg : TG) (tt : TT) (te : TE), PI X tg iter wi ∧ BlkOk X.N X.env.scope scope (ownC c scope) ∧
      (∀ (s : Shared) (H : Hp) (C : Addr) (cl : List (Str × Addr)) (fp : List Addr), PG (X.blk s H scope (compEnvC scope cl C X.env) fp) tg gg) ∧ (∀ (s : Shared) (H : Hp) (C : Addr) (cl : List (Str × Addr)) (fp : List Addr), PTs (X.blk s H scope (compEnvC scope cl C X.env) fp) ifs tt) ∧
      (∀ (s : Shared) (H : Hp) (C : Addr) (cl : List (Str × Addr)) (fp : List Addr), PE (X.blk s H scope (compEnvC scope cl C X.env) fp) elt te) ∧ (∀ x, foldedSetIterable iter X.env x = pure x) ∧ (∀ i, r ≠ .var i) ∧
      ∀ σ H Q, tE X.K (evE Φ r) σ H Q → tLc wi gg tt te ((ownC c scope).map (·.2)) σ H Q := by
  unfold lcC at q
  split at q
  rotate_left
  · cases q
  rename_i hc
  obtain ⟨t, h1, q⟩ := bindS q
  obtain ⟨it, h2, q⟩ := bindS q
  obtain ⟨i, h3, q⟩ := bindS q
  obtain ⟨e, h4, q⟩ := bindS q
  split at q
  rotate_left
  · cases q
  rename_i hsl
  cases q
  have ok := blk_ok S hc.1
  have hsl' : ∀ j ∈ tsl t, j ∈ (ownC c scope).map (·.2) := fun j hj => of_decide_eq_true (List.all_eq_true.mp hsl j hj)
  refine ⟨tI (isTup t) X.K (evI Φ it), gT X.K t, tT X.K (evTo Φ i), tE X.K (evE Φ e), hh c _ iter it h2 X S tg _ (fun hb => ⟨hb, by rw [← tgC_tup h1]; exact hb⟩), ok, fun s H C cl fp => tgC_ok (S.blk ok s H C cl fp) 3 tg t h1, fun s H C cl fp => ?_, fun s H C cl fp => (hf _ elt e h4 _ (S.blk ok s H C cl fp)).1, notSet_ok hc.2 X.env, (fun i z => by cases z), ?_⟩
  · unfold ifsC at h3
    split at h3
    · cases h3
      refine ⟨fun pins s' σ H' Q I hw => pts_nil.run pins s' σ H' Q I ?_⟩
      obtain ⟨O, env, b, env', rp, x1, qq⟩ := hw
      cases x1
      exact qq H' O rp .refl
    · obtain ⟨t', h5, h3⟩ := bindS h3
      cases h3
      exact pts_one (hg _ _ t' h5 _ (S.blk ok s H C cl fp))
    · cases h3
  · intro σ H Q hq
    exact lc_in hsl' (evTo_lk i) (evE_lk e) σ H Q hq
theorem gscC_ok {scope : Scope} (h : gscC scope = true) : GSc scope := by
  unfold gscC at h
  simp only [Bool.and_eq_true, decide_eq_true_eq, List.all_eq_true] at h
  exact ⟨h.1.1, h.2, h.1.2⟩
theorem Stat.gn (S : Stat Φ k X c) (hg : c.gen = false) {scope : Scope} (ok : BlkOk X.N X.env.scope scope (ownC c scope)) (gsc : GSc scope) (s : Shared) (H : Hp) (C : Addr) (code : Value) (fp : List Addr) :
    Stat Φ k (gX X s H (genEnv scope (cloFrom X.env.cells scope.names []) C code builtinsNs X.env) fp) (c.gn scope) where
  N := S.N
  nd := S.nd
  names := rfl
  kind := ok.kind
  calm := S.calm
  room := by
    have r := S.room1 hg
    refine ⟨r.hd, ?_, ?_⟩
    · have := r.dp; show X.A.depth + 1 + 3 * k + 5 < _; omega
    · have := r.un; show X.A.units + 1 + 1 + 3 + 16 * k + 200 < _; omega
  xe := rfl
  fn := fun x => by
    show false = (scope.names.lookup x == some .cell)
    cases h : scope.names.lookup x with
    | none => rfl
    | some kd =>
      have n := gsc.cell _ (PySem.mem_of_lookup h)
      cases kd <;> first | rfl | exact (n rfl).elim
  fns := S.fns
  bl := S.bl
  room1 := fun z => by cases z
  code := fun z => by cases z
theorem genFold_ok {e : Expr} (h1 : notSet e = true) (h2 : notList e = true) (env : Env) (x : Value) : genFold e env x = pure x := by
  cases e <;> first | rfl | (cases h1; done) | (cases h2; done)
theorem evE_gq {al : Bool} {elt : CE} {t : TN} {it : CI} {ifs : Option CT} {own : List Nat} : evE Φ (.gq al elt t it ifs own) = gqF al (evI Φ it) (gqStep (fun d e => asN t d false e) (evTo Φ ifs) (evE Φ elt) own) own := by
  funext e
  simp only [evE]
  rfl
theorem gqC_ok (hf : OkE Φ k f) (hg : OkT Φ k g) (hh : OkI Φ k h) (S : Stat Φ k X c) {al : Bool} {elt tg iter : Expr} {ifs : List Expr} {scope : Scope} {r : CE} {p pos gpos : Pos} (q : gqC f g h c al elt tg iter ifs scope = some r) :
    PE X (.Call (.Name (nameOf al) p) [.GeneratorExp elt [⟨tg, iter, ifs, 0⟩] scope gpos] [] pos) (tE X.K (evE Φ r)) ∧ ∀ i, r ≠ .var i := by
  unfold gqC at q
  split at q
  rotate_left
  · cases q
  rename_i hc
  obtain ⟨c1, c2, c3, c4, c5, c6⟩ := hc
  obtain ⟨t, h1, q⟩ := bindS q
  obtain ⟨it, h2, q⟩ := bindS q
  obtain ⟨i, h3, q⟩ := bindS q
  obtain ⟨e, h4, q⟩ := bindS q
  split at q
  rotate_left
  · cases q
  rename_i hsl
  cases q
  have ok := blk_ok S c3
  have gsc := gscC_ok c4
  have hsl' : ∀ j ∈ tsl t, j ∈ (ownC c scope).map (·.2) := fun j hj => of_decide_eq_true (List.all_eq_true.mp hsl j hj)
  obtain ⟨cd, P, k1, k2, k3⟩ := S.code c1
  refine ⟨?_, fun i z => by cases z⟩
  refine peimp (pe_gq (wi := tI (isTup t) X.K (evI Φ it)) (te := tE X.K (evE Φ e)) (tt := tT X.K (evTo Φ i)) (g := gT X.K t) S.calm S.room (by rw [S.N]; exact S.nd) (S.gl c2) (S.mg (by cases al <;> decide +kernel)) k2 k1 ok gsc (hh c _ iter it h2 X S tg _ (fun hb => ⟨hb, by rw [← tgC_tup h1]; exact hb⟩))
    (fun s H C code fp => tgC_ok (S.gn c1 ok gsc s H C code fp) 3 tg t h1) (fun s H C code fp => ?_) (fun s H C code fp => (hf _ elt e h4 _ (S.gn c1 ok gsc s H C code fp)).1) (genFold_ok c5 c6 X.env)) ?_
  · unfold ifsC at h3
    split at h3
    · cases h3
      refine ⟨fun pins s' σ H' Q I hw => pts_nil.run pins s' σ H' Q I ?_⟩
      obtain ⟨O, env, b, env', rp, x1, qq⟩ := hw
      cases x1
      exact qq H' O rp .refl
    · obtain ⟨t', h5, h3⟩ := bindS h3
      cases h3
      exact pts_one (hg _ _ t' h5 _ (S.gn c1 ok gsc s H C code fp))
    · cases h3
  · intro σ H Q hq
    rw [evE_gq] at hq
    exact gq_in k3 hsl' (evTo_lk i) (evE_lk e) σ H Q hq
theorem gqArg_ok {x : Str} {args : List Expr} {al : Bool} {elt tg iter : Expr} {ifs : List Expr} {scope : Scope} (h : gqArg x args = some (al, elt, tg, iter, ifs, scope)) : ∃ gpos, x = Str.ofString (nameOf al) ∧ args = [.GeneratorExp elt [⟨tg, iter, ifs, 0⟩] scope gpos] := by
  unfold gqArg at h
  split at h
  · split at h
    · rename_i e
      cases h
      exact ⟨_, e, rfl⟩
    · split at h
      · rename_i e
        cases h
        exact ⟨_, e, rfl⟩
      · cases h
  · cases h
theorem notCall_base {o : Expr} (h : notCall o = true) (m : Str) (env : Env) (w : Sem Value) : attributeBase o m env w = w := by
  cases o <;> first | rfl | cases h
theorem methC_ok (hf : OkE Φ k f) (S : Stat Φ k X c) {o : Expr} {m : Str} {args : List Expr} {apos pos : Pos} {r : CE} (hl : (apos.endLine == pos.line) = true) (q : methC c (f c) o m args = some r) : PE X (.Call (.Attribute o m apos) args [] pos) (tE X.K (evE Φ r)) ∧ ∀ i, r ≠ .var i := by
  unfold methC at q
  split at q
  · rename_i hm
    subst hm
    split at q
    · obtain ⟨i, h1, rfl⟩ := Option.map_eq_some_iff.mp q
      exact ⟨g_pop (slot_ok S h1) rfl hl, fun i z => by cases z⟩
    · split at q
      · rename_i hp
        obtain ⟨i, h1, q⟩ := bindS q
        obtain ⟨b', h2, q⟩ := bindS q
        cases q
        exact ⟨g_popAt (slot_ok S h1) (hf c _ _ h2 X S).2.1 hp rfl hl, fun i z => by cases z⟩
      · cases q
    · cases q
  · split at q
    · rename_i hm
      subst hm
      split at q
      · split at q
        · rename_i hp
          obtain ⟨a', h1, q⟩ := bindS q
          obtain ⟨b', h2, q⟩ := bindS q
          cases q
          exact ⟨g_index S.hu (hf c _ _ h1 X S).2.1 (hf c _ _ h2 X S).2.1 hp.1 (notCall_base hp.2 _ _ _) hl, fun i z => by cases z⟩
        · cases q
      · cases q
    · split at q
      · rename_i hm
        subst hm
        split at q
        · split at q
          · split at q
            · rename_i hp
              obtain ⟨b', h2, q⟩ := bindS q
              cases q
              exact ⟨g_join (hf c _ _ h2 X S).2.1 hp hl, fun i z => by cases z⟩
            · cases q
          · cases q
        · cases q
      · cases q
end
theorem con_ok {x : Const} {d : PyData} {j : Nat} {p : Pos} (q : conC x = some d) : ∃ v, PE X (.Constant x j p) (tC v) ∧ ∀ K H O, RD K H O v d := by
  cases x <;> cases q
  · exact ⟨_, pe_non, fun _ _ _ => .non⟩
  · exact ⟨_, pe_bl, fun _ _ _ => .bl _⟩
  · exact ⟨_, pe_int, fun _ _ _ => .int _⟩
  · exact ⟨_, pe_str, fun _ _ _ => .str _⟩
/-- a test whose truth is that of its value -/
def plainTest : Expr → Bool
  | .UnaryOp .Not _ _ => false
  | .BoolOp _ _ _ => false
  | .IfExp _ _ _ _ => false
  | .Compare _ _ _ _ => false
  | _ => true
theorem plainTest_ok {e : Expr} (h : plainTest e = true) (env : Env) (whole : Sem Value) : isTrue e env whole = (do let v ← whole; standAt e.pos; holding [v] (truthy v)) := by
  cases e <;> first | rfl | cases h | skip
  rename_i op a pos
  cases op <;> first | rfl | cases h
theorem setArg_ok {x : Str} {args : List Expr} {a : Expr} (h : setArg x args = some a) : ∃ p q, x = "len" ∧ args = [.Call (.Name "set" p) [a] [] q] := by
  unfold setArg at h
  split at h
  · split at h
    · rename_i hc; cases h; obtain ⟨rfl, rfl⟩ := hc; exact ⟨_, _, rfl, rfl⟩
    · cases h
  · cases h
theorem c_ok : ∀ n : Nat, OkE Φ k (cE n) ∧ (OkT Φ k (cT n) ∧ ∀ (c : SC) (op : BoolOp) (es : List Expr) (p : Pos) (r : CT), cT n c (.BoolOp op es p) = some r → ∀ X, Stat Φ k X c → PW X (.BoolOp op es p) (tT X.K (evT Φ r))) ∧ OkI Φ k (cI n)
  | 0 => by
    refine ⟨fun c e r q => ?_, ⟨fun c e r q => ?_, fun c op es p r q => ?_⟩, fun c b e r q => ?_⟩
    · simp only [cE] at q; cases q
    · simp only [cT] at q; cases q
    · simp only [cT] at q; cases q
    · simp only [cI] at q; cases q
  | n + 1 => by
    obtain ⟨iE, ⟨iT, iW⟩, iI⟩ := c_ok n
    have mk : ∀ {X : Cx} {e : Expr} {r : CE}, (PE X e (tE X.K (evE Φ r)) ∧ ∀ i, r ≠ .var i) → Snd Φ X e r := fun h => Snd.mk h.1 h.2
    have W : ∀ (c : SC) (op : BoolOp) (es : List Expr) (p : Pos) (r : CT), cT (n + 1) c (.BoolOp op es p) = some r → ∀ X, Stat Φ k X c → PW X (.BoolOp op es p) (tT X.K (evT Φ r)) := by
      intro c op es p r q X S
      match op, es, q with
      | .And, [], q => simp only [cT] at q; cases q
      | .Or, [], q => simp only [cT] at q; cases q
      | .And, [a], q => simp only [cT] at q; exact w_and1 (iT c a r q X S)
      | .Or, [a], q => simp only [cT] at q; exact w_or1 (iT c a r q X S)
      | .And, a :: b :: rest, q =>
        simp only [cT] at q
        obtain ⟨a', h1, q⟩ := bindS q
        obtain ⟨b', h2, q⟩ := bindS q
        cases q
        exact w_and (iT c a a' h1 X S) (iW c .And (b :: rest) p b' h2 X S)
      | .Or, a :: b :: rest, q =>
        simp only [cT] at q
        obtain ⟨a', h1, q⟩ := bindS q
        obtain ⟨b', h2, q⟩ := bindS q
        cases q
        exact w_or (iT c a a' h1 X S) (iW c .Or (b :: rest) p b' h2 X S)
    refine ⟨fun c e r q X S => ?_, ⟨fun c e r q X S => ?_, W⟩, fun c b e r q X S tg w hb => ?_⟩
    · unfold cE at q
      split at q
      · obtain ⟨d, h1, rfl⟩ := Option.map_eq_some_iff.mp q
        obtain ⟨v, h2, h3⟩ := con_ok h1
        exact .mk (g_con h2 h3) fun i z => by cases z
      · obtain ⟨i, h1, rfl⟩ := Option.map_eq_some_iff.mp q
        exact .v (slot_ok S h1)
      · obtain ⟨o, h0, q⟩ := bindS q
        obtain ⟨a', h1, q⟩ := bindS q
        obtain ⟨b', h2, q⟩ := bindS q
        cases q
        cases op_of h0
        exact .mk (g_bin (iE c _ _ h1 X S).2.1 (iE c _ _ h2 X S).2.1) fun i z => by cases z
      · obtain ⟨a', h1, q⟩ := bindS q
        cases q
        exact .mk (g_neg (iE c _ _ h1 X S).2.1) fun i z => by cases z
      · obtain ⟨a', h1, q⟩ := bindS q
        cases q
        exact .mk (g_nott (iE c _ _ h1 X S).2.1) fun i z => by cases z
      · have s := iE c _ _ q X S
        exact ⟨pe_one s.1, pe_one s.2.1, fun i z => pe_one (s.2.2 i z)⟩
      · obtain ⟨a', h1, q⟩ := bindS q
        obtain ⟨b', h2, q⟩ := bindS q
        cases q
        exact .mk (g_and (iE c _ _ h1 X S).1 (iE c _ _ h2 X S).1) fun i z => by cases z
      · obtain ⟨a', h1, q⟩ := bindS q
        obtain ⟨b', h2, q⟩ := bindS q
        cases q
        exact .mk (g_or (iE c _ _ h1 X S).1 (iE c _ _ h2 X S).1) fun i z => by cases z
      · obtain ⟨a1, a2, a3⟩ := cmpC_ok iE S q
        exact .mk a1 a3
      · obtain ⟨t', h0, q⟩ := bindS q
        obtain ⟨a', h1, q⟩ := bindS q
        obtain ⟨b', h2, q⟩ := bindS q
        cases q
        exact .mk (g_ite (iT c _ _ h0 X S) (iE c _ _ h1 X S).1 (iE c _ _ h2 X S).1) fun i z => by cases z
      · obtain ⟨es', h1, q⟩ := bindS q
        cases q
        exact .mk (g_tup (mapC_ok iE S h1).1) fun i z => by cases z
      · obtain ⟨es', h1, q⟩ := bindS q
        cases q
        exact .mk (g_lst (mapC_ok iE S h1).1) fun i z => by cases z
      · exact mk (subC_ok iE S q)
      · split at q
        · rename_i al elt tg iter ifs scope hs
          obtain ⟨gpos, rfl, rfl⟩ := gqArg_ok hs
          exact mk (gqC_ok iE iT iI S q)
        · split at q
          · rename_i a hs
            split at q
            · rename_i hc
              obtain ⟨a', h1, q⟩ := bindS q
              cases q
              obtain ⟨p2, q2, rfl, rfl⟩ := setArg_ok hs
              exact .mk (g_lenset S.calm (S.gl hc.1) (S.mg (by decide +kernel)) (S.gl hc.2.1) (S.mg (by decide +kernel)) (iE c _ _ h1 X S).2.1 hc.2.2) fun i z => by cases z
            · cases q
          · exact mk (callC_ok iE S q)
      · split at q
        · exact mk (methC_ok iE S ‹_› q)
        · cases q
      · obtain ⟨wi, gg, tt, te, a1, a2, a3, a4, a5, a6, a7, a8⟩ := lcC_ok iE iT iI S q
        exact .mk (peimp (pe_lc S.calm (by rw [S.N]; exact S.nd) a1 a2 a3 a4 a5 a6) a8) a7
      · cases q
    · by_cases hp : plainTest e = true
      · have q' : ((cE n c e).bind fun r => some (CT.val r)) = some r := by
          unfold cT at q
          split at q <;> first | exact q | cases hp
        obtain ⟨r', h1, q'⟩ := bindS q'
        cases q'
        exact t_val (iE c _ _ h1 X S).2.1 (plainTest_ok hp X.env)
      · cases e with
        | BoolOp op es p => exact (W c op es p r q X S).pt
        | UnaryOp op a p =>
          cases op with
          | Not =>
            simp only [cT] at q
            obtain ⟨a', h1, q⟩ := bindS q
            cases q
            exact t_not (iT c _ _ h1 X S)
          | _ => exact (hp rfl).elim
        | IfExp _ _ _ _ => simp only [cT] at q; cases q
        | Compare a ops bs p =>
          simp only [cT] at q
          obtain ⟨r', h1, q⟩ := bindS q
          cases q
          exact (cmpC_ok iE S h1).2.1
        | _ => exact (hp rfl).elim
    · unfold cI at q
      exact iterC_ok iE S q hb
end RV

namespace RV
open PySem PySem.Spec PyProof.Rows L2
variable [Tb]
/-! ### statements of the text -/
variable {Φ : Fs} {k : Nat} {X : Cx} {c : SC}
theorem filt_lt {α β : Type} (f : α → Option β) : ∀ {l : List α}, (∃ a ∈ l, f a = none) → (l.filterMap f).length ≠ l.length
  | [], ⟨a, h, _⟩ => by cases h
  | x :: r, ⟨a, h, e⟩ => by
    cases hx : f x with
    | none =>
      rw [List.filterMap_cons_none hx, List.length_cons]
      have := List.length_filterMap_le f r
      omega
    | some b =>
      rw [List.filterMap_cons_some hx, List.length_cons, List.length_cons]
      rcases List.mem_cons.mp h with rfl | h
      · rw [hx] at e; cases e
      · have := filt_lt f ⟨a, h, e⟩
        omega
theorem noSwap_ok (S : Stat Φ k X c) {ts vs : List Expr} {kt k2 : Nat} {pt pt2 : Pos} (h : noSwap c ts vs = true) : swappedStores [.Tuple ts kt pt] (.Tuple vs k2 pt2) X.env = pure none := by
  unfold swappedStores
  show (if _ then _ else _) = _
  split
  · rfl
  show (if _ then _ else _) = _
  split
  · rfl
  show (if _ then _ else _) = _
  split
  · rfl
  rename_i hn
  rcases Bool.or_eq_true_iff.mp h with h | h
  · show (if _ then _ else _) = _
    rw [if_pos (show vs.all (foldedForSure 8) = true from h)]
  · exfalso
    apply hn
    rw [Bool.or_eq_true]
    left
    rw [bne_iff_ne]
    refine filt_lt _ ?_
    obtain ⟨t, ht, hk⟩ := List.any_eq_true.mp h
    refine ⟨t, ht, ?_⟩
    split at hk
    · rename_i x p
      have e : X.env.kindOf x = c.names.lookup x := S.lk x
      simp only [e]
      simp only [Bool.not_eq_true'] at hk
      rw [hk]
      rfl
    · rename_i n
      cases t <;> first | rfl | exact (n _ _ rfl).elim
theorem swap2_ok (S : Stat Φ k X c) {x y : Str} {px py pt pt2 : Pos} {a b : Expr} {kt k2 : Nat} (ha : plainE a = true) (hb : plainE b = true) (hxy : x ≠ y) (hx : c.names.lookup x = some .local) (hy : c.names.lookup y = some .local) (hp : px.line = py.line) (h1 : foldAll [a, b] = false) (h2 : [a, b].all (constantsAlone 8) = false) :
    swappedStores [.Tuple [.Name x px, .Name y py] kt pt] (.Tuple [a, b] k2 pt2) X.env = pure (some [x, y]) := by
  have kx : X.env.kindOf x = some .local := by show X.env.scope.names.lookup x = _; rw [S.names]; exact hx
  have ky : X.env.kindOf y = some .local := by show X.env.scope.names.lookup y = _; rw [S.names]; exact hy
  have hbk : X.env.blockKind = .function := by unfold Env.blockKind; rw [S.kind]; rfl
  have sa : ∀ e : Expr, plainE e = true → (match e with | .Starred .. => true | _ => false) = false := fun e h => by cases e <;> first | rfl | cases h
  have h1' : ([a, b].all (foldedForSure 8)) = false := h1
  have hd : ([x, y] : List Str).eraseDups = [x, y] := by
    have : (y == x) = false := beq_eq_false_iff_ne.mpr (Ne.symm hxy)
    simp [List.eraseDups_cons, this]
  have hl : (px.line == px.line) = true := beq_self_eq_true _
  have hl2 : (py.line == px.line) = true := by rw [hp]; exact beq_self_eq_true _
  have hst : ([a, b].any fun | .Starred .. => true | _ => false) = false := by
    simp only [List.any_cons, List.any_nil, Bool.or_false, Bool.or_eq_false_iff]
    exact ⟨sa a ha, sa b hb⟩
  unfold swappedStores
  show (if _ then _ else _) = _
  rw [if_neg (by rw [hbk]; exact Bool.false_ne_true)]
  show (if _ then _ else _) = _
  rw [if_neg (by rw [Bool.not_eq_true]; exact hst)]
  show (if _ then _ else _) = _
  simp only [List.filterMap_cons, List.filterMap_nil, kx, ky, List.head?_cons, Option.map_some, Option.getD_some, Expr.pos, hl, hl2, beq_self_eq_true, Bool.and_self, if_true]
  rw [hd]
  rw [if_neg (by simp)]
  show (if _ then _ else _) = _
  rw [h1', if_neg Bool.false_ne_true]
  show (if _ then _ else _) = _
  rw [h2, if_neg Bool.false_ne_true]
theorem notComp_sw {e : Expr} (h : notComp e = true) (t : Option Expr) (l : Nat) (env : Env) : swapsWith e t l env = pure false := by
  cases e <;> first | rfl | cases h
theorem notTup_sw {tg e : Expr} (h : isTupE e = false) (env : Env) : swappedStores [tg] e env = pure none := by
  cases tg <;> first | rfl | (cases e <;> first | rfl | cases h)
theorem notTup_tg {c : SC} {n : Nat} {tg e : Expr} {t : TN} (h : (isTupE e && isTupE tg) = false) (q : tgC c n tg = some t) (env : Env) : swappedStores [tg] e env = pure none := by
  cases he : isTupE e with
  | false => exact notTup_sw he env
  | true =>
    rw [he, Bool.true_and] at h
    cases n with
    | zero => cases q
    | succ n =>
      unfold tgC at q
      split at q
      · rfl
      · cases h
      · cases q
theorem tg_each {n : Nat} {tg : Expr} {t : TN} (h : tgC c n tg = some t) (env : Env) : (assignEach [tg] env).map (·.2) = [assign tg env] := by
  cases n with
  | zero => cases h
  | succ n =>
    unfold tgC at h
    split at h
    · rfl
    · rfl
    · cases h
/-- a comprehension given to a cell, or to a name on another line -/
theorem lc_sw (S : Stat Φ k X c) {y : Str} {py pos : Pos} {elt : Expr} {gs : List Comprehension} {scope : Scope} {l : Nat} (h : ¬ (c.names.lookup y = some .local ∧ (py.line == pos.line) = true)) : swapsWith (.ListComp elt gs scope pos) (some (.Name y py)) l X.env = pure false := by
  have ky : X.env.kindOf y = c.names.lookup y := S.lk y
  have hbk : X.env.blockKind = .function := by unfold Env.blockKind; rw [S.kind]; rfl
  show (pure (X.env.blockKind == .function && X.env.kindOf y == some .local && py.line == pos.line && !(scope.names.any fun (n, k) => n == y && (k == .local || k == .cell))) : Sem Bool) = pure false
  rw [ky]
  congr 1
  by_cases h1 : c.names.lookup y = some .local
  · have h2 : (py.line == pos.line) = false := by
      cases hh : py.line == pos.line with
      | false => rfl
      | true => exact (h ⟨h1, hh⟩).elim
    rw [h2, Bool.and_false, Bool.false_and]
  · have : (c.names.lookup y == some .local) = false := beq_eq_false_iff_ne.mpr h1
    rw [this, Bool.and_false, Bool.false_and, Bool.false_and]
theorem sub_plain {o i : Expr} {pos : Pos} {env : Env} (h : plainE i = true) (v : Value) : assign (.Subscript o i pos) env v = (do
      let ov ← holding [v] (eval o env)
      let iv ← holding [v, ov] (eval i env)
      standAt pos
      holding [v, ov, iv] (setItem ov iv v)
      release [v, ov, iv] []) := by cases i <;> first | rfl | cases h
theorem sole (t e : Expr) (l : Nat) (env : Env) : swapsWithSole [t] e l env = swapsWith e (some t) l env := rfl
theorem asgC_ok {n : Nat} (S : Stat Φ k X c) {tg e : Expr} {pos : Pos} {r : CS} {wf : Nat} (q : asgC n c tg e pos.line = some r) : PS X (.Assign [tg] e pos) (tS X.K (evS Φ wf r)) := by
  obtain ⟨iE, ⟨iT, _⟩, iI⟩ := c_ok (Φ := Φ) (k := k) n
  have hN : X.N.Nodup := by rw [S.N]; exact S.nd
  have plain : ∀ {tg e : Expr} {t : TN} {m : Nat} {e' : CE}, tgC c 3 tg = some t → cE m c e = some e' → swapsWithSole [tg] e pos.line X.env = pure false → swappedStores [tg] e X.env = pure none → PS X (.Assign [tg] e pos) (tS X.K (evS Φ wf (.asg t e'))) := fun {tg e t m e'} h1 h2 h3 h4 =>
    s_asg ((c_ok m).1 c e e' h2 X S).1 (evE_lk e') (tgC_ok S 3 tg t h1) h3 h4 (tg_each h1 X.env)
  unfold asgC at q
  split at q
  · split at q
    · rename_i hs
      obtain ⟨t, h1, q⟩ := bindS q
      obtain ⟨e', h2, q⟩ := bindS q
      cases q
      exact plain h1 h2 rfl (noSwap_ok S hs)
    · split at q
      · rename_i x px y py kt pt a b k2 pt2 hs hc
        obtain ⟨i, h1, q⟩ := bindS q
        obtain ⟨j, h2, q⟩ := bindS q
        obtain ⟨es, h3, q⟩ := bindS q
        cases q
        obtain ⟨c1, c2, c3, c4, c5, c6, c7, c8⟩ := hc
        have p1 := posOf_ok h1
        have p2 := posOf_ok h2
        have hij : i ≠ j := fun z => by
          rw [z, p2] at p1
          exact c3 (Option.some.inj p1).symm
        refine s_par (evEs_lk es) (ps_par S.calm hN (by rw [S.N]; exact p1) (by rw [S.N]; exact p2) hij (by rw [S.lk]; exact c4) (by rw [S.lk]; exact c5) (mapC_ok iE S h3).1 (swap2_ok S c1 c2 c3 c4 c5 c6 c7 c8) rfl)
      · cases q
  · split at q
    · rename_i hs
      obtain ⟨t, h1, q⟩ := bindS q
      obtain ⟨e', h2, q⟩ := bindS q
      cases q
      exact plain h1 h2 rfl (noSwap_ok S hs)
    · cases q
  · split at q
    · rename_i hp
      obtain ⟨i, h1, q⟩ := bindS q
      obtain ⟨b', h2, q⟩ := bindS q
      obtain ⟨e', h3, q⟩ := bindS q
      cases q
      have gv : ∀ p, PE X (.Name _ p) (tVar i) := fun p => slot_ok S h1
      have sb := iE c _ _ h2 X S
      refine s_sto (iE c _ _ h3 X S).1 (evE_lk e') (gv _) sb.2.1 (fun _ _ _ h => hdl_lk (evE_lk b' _) h) (pg_sub (gv _) sb.2.1 set_list (sub_plain hp.1)) ((sole _ _ _ _).trans (notComp_sw hp.2 _ _ _)) rfl
    · cases q
  · split at q
    · rename_i hc
      split at q
      · rename_i ha
        obtain ⟨i, h1, q⟩ := bindS q
        obtain ⟨r', h2, q⟩ := bindS q
        cases q
        obtain ⟨wi, gg, tt, te, a1, a2, a3, a4, a5, a6, a7, a8⟩ := lcC_ok iE iT iI S h2
        refine s_set (psimp (ps_setLc S.calm hN (by rw [S.N]; exact posOf_ok h1) (by rw [S.lk]; exact hc.1) (sw_true S.kind (by rw [S.lk]; exact hc.1) hc.2 ha) a1 a2 a3 a4 a5 a6) fun D σ H hq => a8 σ H _ hq) (evE_lk r')
      · cases q
    · rename_i hc
      obtain ⟨t, h1, q⟩ := bindS q
      obtain ⟨e', h2, q⟩ := bindS q
      cases q
      exact plain h1 h2 ((sole _ _ _ _).trans (lc_sw S hc)) rfl
  · split at q
    · rename_i hp
      obtain ⟨t, h1, q⟩ := bindS q
      obtain ⟨e', h2, q⟩ := bindS q
      cases q
      exact plain h1 h2 ((sole _ _ _ _).trans (notComp_sw hp.1 _ _ _)) (notTup_tg hp.2 h1 _)
    · cases q
theorem exprC_ok {n : Nat} (S : Stat Φ k X c) {e : Expr} {pos : Pos} {r : CS} {wf : Nat} (q : exprC n c e = some r) : PS X (.Expr e pos) (tS X.K (evS Φ wf r)) := by
  obtain ⟨iE, _, _⟩ := c_ok (Φ := Φ) (k := k) n
  unfold exprC at q
  split at q
  · split at q
    · rename_i hm
      subst hm
      split at q
      · rename_i hc
        obtain ⟨i, h1, q⟩ := bindS q
        obtain ⟨b', h2, q⟩ := bindS q
        cases q
        exact s_app (slot_ok S h1) (iE c _ _ h2 X S).1 (evE_lk b') hc.2 rfl hc.1
      · cases q
    · obtain ⟨r', h1, q⟩ := bindS q
      cases q
      exact s_expr (iE c _ _ h1 X S).1 (evE_lk r') rfl
  · split at q
    · rename_i hp
      obtain ⟨r', h1, q⟩ := bindS q
      cases q
      exact s_expr (iE c _ _ h1 X S).1 (evE_lk r') (notComp_sw hp _ _ _)
    · cases q
theorem mapS_ok {wf : Nat} {F : Stmt → Option CS} (hF : ∀ s r, F s = some r → PS X s (tS X.K (evS Φ wf r))) : ∀ {ss : List Stmt} {rs : List CS}, mapS F ss = some rs → PSs X ss (tS X.K (evSs Φ wf rs))
  | [], rs, q => by cases q; exact s_nil
  | s :: r, rs, q => by
    unfold mapS at q
    obtain ⟨a, h1, q⟩ := bindS q
    obtain ⟨b, h2, q⟩ := bindS q
    cases q
    exact s_cons (hF s a h1) (mapS_ok hF h2)
theorem ret_ok {e : Expr} {r : CE} {pos : Pos} {wf : Nat} (h : Snd Φ X e r) : PS X (.Return (some e) pos) (tS X.K (evS Φ wf (.ret r))) := by
  by_cases n : ∃ i, r = .var i
  · obtain ⟨i, rfl⟩ := n
    refine psimp (s_retv (h.2.2 i rfl)) fun D σ H ⟨O, env, out, rp, e1, q⟩ => ⟨O, env, out, rp, ?_, q⟩
    simp only [evS] at e1
    exact e1
  · refine psimp (s_ret h.1) fun D σ H ⟨O, env, out, rp, e1, q⟩ => ⟨O, env, out, rp, ?_, q⟩
    cases r with
    | var i => exact (n ⟨i, rfl⟩).elim
    | _ => exact e1
theorem aug_plain {i : Expr} (h : plainE i = true) (ov iv new : Value) : augStore i ov iv new = (do holding [new, ov, iv] (setItem ov iv new); release [new, ov, iv] []; pure .next) := by
  cases i <;> first | rfl | cases h
theorem cS_ok {wf : Nat} (S : Stat Φ k X c) : ∀ (n : Nat) (s : Stmt) (r : CS), cS n c s = some r → PS X s (tS X.K (evS Φ wf r))
  | 0, _, _, q => by simp only [cS] at q; cases q
  | n + 1, s, r, q => by
    obtain ⟨iE, ⟨iT, _⟩, iI⟩ := c_ok (Φ := Φ) (k := k) n
    have iS := cS_ok (wf := wf) S n
    have hN : X.N.Nodup := by rw [S.N]; exact S.nd
    have hp : PassesOwn (model X.prog X.w) X.A X.env X.xe := by rw [S.xe]; exact PassesOwn.never
    unfold cS at q
    split at q
    · exact exprC_ok S q
    · exact asgC_ok S q
    · obtain ⟨o, h0, q⟩ := bindS q
      obtain ⟨i, h1, q⟩ := bindS q
      obtain ⟨e', h2, q⟩ := bindS q
      cases q
      cases op_of h0
      obtain ⟨a1, a2, a3⟩ := stC_ok S h1
      have s := iE c _ _ h2 X S
      exact s_aug s.2.1 (fun _ _ _ h => hdl_lk (evE_lk e' _) h) (ps_aug hN a1 a2 s.2.1 (iop_bin o) a3)
    · split at q
      · rename_i hpl
        obtain ⟨o, h0, q⟩ := bindS q
        obtain ⟨i, h1, q⟩ := bindS q
        obtain ⟨b', h2, q⟩ := bindS q
        obtain ⟨e', h3, q⟩ := bindS q
        cases q
        cases op_of h0
        have s := iE c _ _ h2 X S
        have s3 := iE c _ _ h3 X S
        exact s_augs (fun _ _ _ h => hdl_lk (evE_lk e' _) h) (fun _ _ _ h => hdl_lk (evE_lk b' _) h) (ps_augS (slot_ok S h1) s.2.1 get_list s3.2.1 (iop_bin o) set_list (aug_plain hpl))
      · cases q
    · cases q
      exact s_retn
    · obtain ⟨r', h1, q⟩ := bindS q
      cases q
      exact ret_ok (iE c _ _ h1 X S)
    · obtain ⟨t, h0, q⟩ := bindS q
      obtain ⟨a, h1, q⟩ := bindS q
      obtain ⟨b, h2, q⟩ := bindS q
      cases q
      exact s_if (iT c _ _ h0 X S) (evT_lk t) (mapS_ok iS h1) (mapS_ok iS h2)
    · obtain ⟨t, h0, q⟩ := bindS q
      obtain ⟨a, h1, q⟩ := bindS q
      cases q
      exact s_while hp (iT c _ _ h0 X S) (evT_lk t) (mapS_ok iS h1)
    · split at q
      · rename_i hs
        obtain ⟨t, h0, q⟩ := bindS q
        obtain ⟨i, h1, q⟩ := bindS q
        obtain ⟨a, h2, q⟩ := bindS q
        cases q
        exact s_for hp S.calm (iI c _ _ _ h1 X S _ _ fun hb => ⟨hb, by rw [← tgC_tup h0]; exact hb⟩) (evI_lk i) (tgC_ok S 3 _ t h0) (mapS_ok iS h2) (notSet_ok hs X.env)
      · cases q
    · cases q
end RV

namespace RV
open PySem PySem.Spec PyProof.Rows L2
variable [Tb]
/-! ### arguments -/
theorem zip_lookup : ∀ {l : List Str} {us : List Value} {x : Str}, us.length = l.length → x ∈ l → ((l.zip us).lookup x).isNone = false
  | y :: l, u :: us, x, h, hx => by
    rw [List.zip_cons_cons, List.lookup_cons]
    cases e : x == y with
    | true => rfl
    | false =>
      have : x ∈ l := (List.mem_cons.mp hx).resolve_left fun z => by subst z; simp at e
      exact zip_lookup (by simpa using h) this
theorem filter_none {l : List Str} {us : List Value} (h : us.length = l.length) : (l.filter fun n => ((l.zip us).lookup n).isNone) = [] := by
  rw [List.filter_eq_nil_iff]
  intro x hx
  rw [zip_lookup h hx]
  exact Bool.false_ne_true
theorem filterMap_zip : ∀ {l : List Str} {us : List Value}, us.length = l.length → l.Nodup → (l.filterMap fun n => ((l.zip us).lookup n).map (n, ·)) = l.zip us
  | [], _, _, _ => rfl
  | y :: l, u :: us, h, hn => by
    have hn' := List.nodup_cons.mp hn
    rw [List.zip_cons_cons, List.filterMap_cons]
    simp only [List.lookup_cons, beq_self_eq_true, Option.map_some]
    congr 1
    have ih := filterMap_zip (l := l) (us := us) (by simpa using h) hn'.2
    have key : ∀ m : List Str, (∀ x ∈ m, x ∈ l) → (m.filterMap fun n => (match n == y with | true => some u | false => (l.zip us).lookup n).map (n, ·)) = m.filterMap fun n => ((l.zip us).lookup n).map (n, ·) := fun m => by
      induction m with
      | nil => intro _; rfl
      | cons x m im =>
        intro hm
        have e : (x == y) = false := beq_eq_false_iff_ne.mpr fun z => hn'.1 (z ▸ hm x List.mem_cons_self)
        rw [List.filterMap_cons, List.filterMap_cons, e, im fun z hz => hm z (List.mem_cons_of_mem _ hz)]
    exact (key l fun x hx => hx).trans ih
theorem bind_plain {fd : FuncData} {as : List Arg} {us : List Value} (hp : fd.params = { posonlyargs := [], args := as, vararg := none, kwonlyargs := [], kw_defaults := [], kwarg := none, defaults := [] }) (hd : fd.defaults = .none) (hn : (as.map (·.arg)).Nodup) (hl : us.length = as.length) :
    bindArgs fd ⟨us, []⟩ = pure ((as.map (·.arg)).zip us) := by
  unfold bindArgs
  rw [hp, hd]
  have hl' : us.length = (as.map (·.arg)).length := by rw [hl, List.length_map]
  show (if _ then _ else _) = _
  rw [if_neg (by simp; omega)]
  have ed : ∀ n, (Option.getD (none : Option (Array Value)) #[]).toList.drop n = [] := fun n => List.drop_nil
  show (if _ then _ else _) = _
  simp only [ed, List.map_nil, List.nil_append, List.length_nil, Nat.sub_zero, List.take_length, List.zip_nil_right, filter_none hl', List.append_nil]
  rw [if_neg (show ¬ (!([] : List Str).isEmpty) = true from Bool.false_ne_true)]
  show (pure ((as.map (·.arg)).filterMap fun n => (((as.map (·.arg)).zip us).lookup n).map (n, ·)) : Sem _) = _
  rw [filterMap_zip hl' hn]
/-! ### a def, a program -/
def argsOk (a : Arguments) : Bool := a.posonlyargs.isEmpty && a.vararg.isNone && a.kwonlyargs.isEmpty && a.kw_defaults.isEmpty && a.kwarg.isNone && a.defaults.isEmpty
theorem argsOk_ok {a : Arguments} (h : argsOk a = true) : a = { posonlyargs := [], args := a.args, vararg := none, kwonlyargs := [], kw_defaults := [], kwarg := none, defaults := [] } := by
  obtain ⟨p, as, v, ko, kd, kw, d⟩ := a
  simp only [argsOk, Bool.and_eq_true, List.isEmpty_iff, Option.isNone_iff_eq_none] at h
  obtain ⟨⟨⟨⟨⟨rfl, rfl⟩, rfl⟩, rfl⟩, rfl⟩, rfl⟩ := h
  rfl
theorem scopeC_ok {N ps : List Str} {sc : Scope} (h : scopeC N ps sc = true) : FnScope N ps sc := by
  unfold scopeC at h
  simp only [Bool.and_eq_true, decide_eq_true_eq, List.all_eq_true] at h
  obtain ⟨⟨⟨⟨⟨⟨h1, h2⟩, h3⟩, h4⟩, h5⟩, h6⟩, h7⟩ := h
  exact ⟨h1, h2, h3, h4, h5, h6, h7⟩
section
variable {P : Program} {w : World} {K : PySem.W.Frag} {mg : Str → Option Value} {base : Heap} {Φ : Fs} {k : Nat}
abbrev FnD (K : PySem.W.Frag) (x : Str) (st : Stmt) (f : Addr) (fd : FuncData) : Prop := FunD K x x (defArgs st) (defBody st) (defScope st) [] [] f fd
theorem FnD.bnd {x : Str} {st : Stmt} {f : Addr} {fd : FuncData} (F : FnD K x st f fd) (ha : argsOk (defArgs st) = true) (hn : (argsC (defArgs st)).Nodup) : Binds K fd (argsC (defArgs st)) [] :=
  F.bindsN fun kV doc pm an cdv ct us hl => bind_plain (argsOk_ok ha) rfl hn (by rw [hl]; exact List.length_map _)
theorem sh_get {ds : List PyData} {n i : Nat} {s : Sl} (h : (ds.map Sl.sh ++ List.replicate n Sl.un)[i]? = some s) : (∃ d, ds[i]? = some d ∧ s = .sh d) ∨ s = .un := by
  rw [List.getElem?_append] at h
  split at h
  · rw [List.getElem?_map] at h
    obtain ⟨d, h1, h2⟩ := Option.map_eq_some_iff.mp h
    exact .inl ⟨d, h1, h2.symm⟩
  · exact .inr (List.eq_of_mem_replicate (List.mem_of_getElem? h))
theorem fn_okC {CX : CXT} {x qual : Str} {params : Arguments} {body : List Stmt} {scope : Scope} {dvs : List V} {kws : List (Str × V)} {f : Addr} {fd : FuncData} {N ps : List Str} {k : Nat} {sp : Sp} (F : FunD K x qual params body scope dvs kws f fd) (S : FnScope N ps scope) (len : ∀ vs H Q E, sp vs H Q E → vs.length = ps.length)
    (hbody : ∀ (A : Around) (outer : List Env) (s : Shared) (H : Hp) (vs : List V) (Q : VK) (E : XK), Room k (A.deeper (envOfC qual scope s.heap.objs.size f fd.code)) → sp vs H Q E →
      ∃ t, PSs (cxOf CX P w K mg base N qual scope f fd.code A outer s H E) body t ∧ t { nx := fun _ H' => Q .non H', rt := Q } (start N vs) H) : FnOk P w K mg base CX (k + 1) f fd ps sp := by
  obtain ⟨oc, od, dV, kV, doc, pm, an, cdv, ct, osl, rfl, lk, hcd, _, _⟩ := F.ex
  exact fn_of lk hcd S len fun A outer s H vs Q E hr hsp => hbody A outer s H vs Q E hr hsp
theorem rep_start {H : Hp} {Z : Addr → Prop} {N : List Str} {vs : List V} {ds : List PyData} (hz : ∀ b, Z b → H b ≠ none) (r : RDs K H ⟨fun _ => False, Z⟩ vs ds) (ht : ∀ P, Tb.T P → TabG H P) (hl : ds.length ≤ N.length) : Rep K H ⟨fun _ => False, Z⟩ (L2.start N vs) (ds.map .sh ++ List.replicate (N.length - ds.length) .un) where
  len := by
    unfold L2.start
    simp only [List.length_append, List.length_map, List.length_replicate, r.length]
  sh := fun i d h => by
    rcases sh_get h with ⟨d', h1, h2⟩ | h2
    · cases h2
      obtain ⟨v, e1, e2⟩ := r.get h1
      refine ⟨v, ?_, e2⟩
      unfold L2.start
      rw [List.getElem?_append_left (by rw [List.length_map]; exact (List.getElem?_eq_some_iff.mp e1).1), List.getElem?_map, e1]
      rfl
    · cases h2
  ow := fun i dl h => by
    rcases h with h | h <;> rcases sh_get h with ⟨d', h1, h2⟩ | h2 <;> cases h2
  inj := fun i j a ⟨dl, h⟩ => by
    exfalso
    rcases h with h | h <;> rcases sh_get h with ⟨d', h1, h2⟩ | h2 <;> cases h2
  zt := fun b hb => ⟨hz b hb, fun z => z⟩
  tb := ht
theorem def_ok {x : Str} {st : Stmt} {f : Addr} {fd : FuncData} {n wf : Nat} {fs : List (Str × Nat)} {N : List Str} {p : CD} (F : FnD K x st f fd) (hc : cD n fs N st = some p)
    (fns : ∀ (i : Nat) (x : Str) (np : Nat), fs[i]? = some (x, np) → ∃ (fad : Addr) (fd : FuncData) (ps : List Str), mg x = some (.ref fad) ∧ PySem.W.keepIn K (.ref fad) = true ∧ Binds K fd ps [] ∧ FnOk P w K mg base CX0 k fad fd ps (spF K np (Φ i)))
    (bl : ∀ x ∈ blNames, mg x = none) (hcd : ∃ cd T, fd.code = .ref cd ∧ GxR.TabB base mg cd T ∧ Tb.T T) : FnOk P w K mg base CX0 (k + 2) f fd (argsC (defArgs st)) (spF K (argsC (defArgs st)).length (evD Φ wf p)) := by
  unfold cD at hc
  split at hc
  rotate_left
  · cases hc
  rename_i hs
  obtain ⟨b, hb, hc⟩ := bindS hc
  cases hc
  have S := scopeC_ok hs
  have hpl : (argsC (defArgs st)).length ≤ N.length := by have := congrArg List.length S.pre; rw [List.length_take] at this; omega
  refine fn_okC F S (fun vs H Q E h => h.1) fun A outer s H vs Q E hr h => ⟨tS K (evSs Φ wf b), PSs.nox ?_, ?_⟩
  · refine mapS_ok (X := (cxOf CX0 P w K mg base N x (defScope st) f fd.code A outer s H E).nox) (fun st r q => cS_ok (Φ := Φ) (k := k) ⟨rfl, S.nd, rfl, S.kind, rfl, hr.mono (Nat.le_succ _), rfl, fun _ => rfl, fns, bl, fun _ => hr, fun _ => hcd⟩ n st r q) hb
  · obtain ⟨hl, Z, ds, d, fr, hz, rds, htb, hd, hq⟩ := h
    have hdl : ds.length = (argsC (defArgs st)).length := by rw [← rds.length]; exact hl
    unfold evD at hd
    rw [if_pos hdl] at hd
    obtain ⟨out, h1, h2⟩ := bindS hd
    have rp := rep_start (N := N) hz rds htb (by omega)
    rw [hdl] at rp
    refine ⟨_, _, out, rp, h1, ?_⟩
    have same : ∀ {H' O'}, G ⟨fun _ => False, Z⟩ H O' H' → SameT H H' := fun g => ⟨fun b u e n => g.keep b u e fun m => m.elim (fun m => m.1.elim) fun ⟨ps, z⟩ => n ps z, g.tb⟩
    cases out with
    | nx e =>
      cases h2
      exact fun σ' H' O' _ _ g => hq .non H' (same g) .non
    | rt d' fr' =>
      cases h2
      intro v H' O' r g
      refine hq v H' (same g) ?_
      have hzz : O'.z = Z := g.zz
      cases fr with
      | false =>
        have r : RD K H' O' v d := r
        have : RD K H' ⟨fun _ => False, O'.z⟩ v d := r.mono (G.less fun _ h => h.elim).to
        rw [hzz] at this
        exact this
      | true =>
        obtain ⟨p, xs, dl, e1, e2, ⟨e3, e4⟩, e5, e6⟩ := r
        have np : H p = none := (g.sub p e3).elim False.elim id
        refine ⟨p, xs, dl, e1, e2, np, e5, ?_⟩
        have : RDs K H' ⟨fun b => b = p, O'.z⟩ xs dl := e6.mono (G.less fun b (h : b = p) => by rw [h]; exact e3).to
        rw [hzz] at this
        exact this
abbrev DEF := Str × List Str × Stmt
def fsOf (ds : List DEF) : List (Str × Nat) := ds.map fun d => (d.1, (argsC (defArgs d.2.2)).length)
def progC (n : Nat) (fs : List (Str × Nat)) : List DEF → Option (List CD)
  | [] => some []
  | d :: r => if argsOk (defArgs d.2.2) = true ∧ (argsC (defArgs d.2.2)).Nodup then (cD n fs d.2.1 d.2.2).bind fun a => (progC n fs r).bind fun b => some (a :: b) else none
theorem progC_get {n : Nat} {fs : List (Str × Nat)} : ∀ {ds : List DEF} {prog : List CD} {i : Nat} {d : DEF}, progC n fs ds = some prog → ds[i]? = some d → argsOk (defArgs d.2.2) = true ∧ (argsC (defArgs d.2.2)).Nodup ∧ ∃ p, prog[i]? = some p ∧ cD n fs d.2.1 d.2.2 = some p
  | e :: r, prog, i, d, h, hi => by
    unfold progC at h
    split at h
    rotate_left
    · cases h
    rename_i hc
    obtain ⟨a, h1, h⟩ := bindS h
    obtain ⟨b, h2, h⟩ := bindS h
    cases h
    cases i with
    | zero => cases hi; exact ⟨hc.1, hc.2, a, rfl, h1⟩
    | succ i => exact progC_get (i := i) h2 (by simpa using hi)
theorem prog_ok {ds : List DEF} {prog : List CD} {n wf : Nat} (hc : progC n (fsOf ds) ds = some prog) (hF : ∀ d ∈ ds, ∃ (f : Addr) (fd : FuncData), mg d.1 = some (.ref f) ∧ FnD K d.1 d.2.2 f fd) (bl : ∀ x ∈ blNames, mg x = none) (hcd : ∀ d ∈ ds, ∀ (f : Addr) (fd : FuncData), mg d.1 = some (.ref f) → FnD K d.1 d.2.2 f fd → ∃ cd T, fd.code = .ref cd ∧ GxR.TabB base mg cd T ∧ Tb.T T) :
    ∀ (k i : Nat) (d : DEF) (f : Addr) (fd : FuncData), ds[i]? = some d → mg d.1 = some (.ref f) → FnD K d.1 d.2.2 f fd → FnOk P w K mg base CX0 (2 * k) f fd (argsC (defArgs d.2.2)) (spF K (argsC (defArgs d.2.2)).length (run prog wf k i))
  | 0, i, d, f, fd, hi, hm, F => ⟨fun vs H Q E h => h.1, fun A outer s H args us vs Q E _ _ _ _ h => by
      obtain ⟨_, Z, ds, d, fr, _, _, _, z, _⟩ := h
      cases z⟩
  | k + 1, i, d, f, fd, hi, hm, F => by
    obtain ⟨_, _, p, h1, h2⟩ := progC_get hc hi
    have e : run prog wf (k + 1) i = evD (run prog wf k) wf p := by
      funext args
      show (prog[i]?).bind _ = _
      rw [h1]
      rfl
    rw [e]
    refine def_ok F h2 (fun j x np hj => ?_) bl (hcd _ (List.mem_of_getElem? hi) f fd hm F)
    unfold fsOf at hj
    rw [List.getElem?_map] at hj
    obtain ⟨d', hd', e'⟩ := Option.map_eq_some_iff.mp hj
    cases e'
    obtain ⟨f', fd', m1, F'⟩ := hF d' (List.mem_of_getElem? hd')
    obtain ⟨a1, a2, _⟩ := progC_get hc hd'
    exact ⟨f', fd', _, m1, F'.kp, F'.bnd a1 a2, prog_ok hc hF bl hcd k j d' f' fd' hd' m1 F'⟩
end
end RV

namespace RV
open PySem PySem.Spec PyProof.Rows L2
/-! ### the evaluator is monotone: unset slots may hold anything, deeper calls answer the same -/
inductive LeS : Sl → Sl → Prop
  | refl (s : Sl) : LeS s s
  | un {t : Sl} (h : isLk t = false) : LeS .un t
def Le : En → En → Prop
  | [], [] => True
  | s :: e, t :: e' => LeS s t ∧ Le e e'
  | _, _ => False
theorem Le.refl : ∀ e : En, Le e e
  | [] => trivial
  | s :: e => ⟨.refl s, Le.refl e⟩
theorem LeS.lk {s t : Sl} (h : LeS s t) : isLk s = isLk t := by
  cases h with
  | refl => rfl
  | un h => rw [h]; rfl
theorem LeS.trans {s t u : Sl} (h : LeS s t) (k : LeS t u) : LeS s u := by
  cases h with
  | refl => exact k
  | un h => exact .un (by rw [← k.lk]; exact h)
theorem Le.trans : ∀ {a b c : En}, Le a b → Le b c → Le a c
  | [], [], [], _, _ => trivial
  | _ :: _, _ :: _, _ :: _, ⟨h, h'⟩, ⟨k, k'⟩ => ⟨h.trans k, h'.trans k'⟩
  | [], _ :: _, _, h, _ => h.elim
  | _ :: _, [], _, h, _ => h.elim
  | [], [], _ :: _, _, k => k.elim
  | _ :: _, _ :: _, [], _, k => k.elim
theorem Le.get : ∀ {e e' : En} (h : Le e e') (i : Nat), (e[i]? = none ∧ e'[i]? = none) ∨ ∃ s t, e[i]? = some s ∧ e'[i]? = some t ∧ LeS s t
  | [], [], _, i => .inl ⟨rfl, rfl⟩
  | s :: e, t :: e', ⟨h, _⟩, 0 => .inr ⟨s, t, rfl, rfl, h⟩
  | s :: e, t :: e', ⟨_, h⟩, i + 1 => by simpa using Le.get h i
  | [], _ :: _, h, _ => h.elim
  | _ :: _, [], h, _ => h.elim
theorem Le.set {s t : Sl} (k : LeS s t) : ∀ {e e' : En} (h : Le e e') (i : Nat), Le (e.set i s) (e'.set i t)
  | [], [], _, i => trivial
  | a :: e, b :: e', ⟨h, h'⟩, 0 => ⟨k, h'⟩
  | a :: e, b :: e', ⟨h, h'⟩, i + 1 => ⟨h, Le.set k h' i⟩
  | [], _ :: _, h, _ => h.elim
  | _ :: _, [], h, _ => h.elim
/-- a slot is forgotten -/
theorem Le.forget : ∀ {e e' : En} (h : Le e e') (i : Nat), (∀ s, e'[i]? = some s → isLk s = false) → Le (e.set i .un) e'
  | [], [], _, i, _ => trivial
  | a :: e, b :: e', ⟨h, h'⟩, 0, n => ⟨.un (n b rfl), h'⟩
  | a :: e, b :: e', ⟨h, h'⟩, i + 1, n => ⟨h, Le.forget h' i fun s q => n s (by simpa using q)⟩
  | [], _ :: _, h, _, _ => h.elim
  | _ :: _, [], h, _, _ => h.elim
def OL {α β : Type} (R : α → β → Prop) (x : Option α) (y : Option β) : Prop := ∀ a, x = some a → ∃ b, y = some b ∧ R a b
theorem OL.bind {α β γ δ : Type} {R : α → β → Prop} {S : γ → δ → Prop} {x : Option α} {y : Option β} {f : α → Option γ} {g : β → Option δ} (h : OL R x y) (k : ∀ a b, R a b → OL S (f a) (g b)) : OL S (x.bind f) (y.bind g) := by
  intro c hc
  obtain ⟨a, h1, h2⟩ := Option.bind_eq_some_iff.mp hc
  obtain ⟨b, h3, h4⟩ := h a h1
  obtain ⟨d, h5, h6⟩ := k a b h4 c h2
  exact ⟨d, by rw [h3]; exact h5, h6⟩
theorem OL.bindE {α γ δ : Type} {S : γ → δ → Prop} {x : Option α} {f : α → Option γ} {g : α → Option δ} (k : ∀ a, OL S (f a) (g a)) : OL S (x.bind f) (x.bind g) := by
  intro c hc
  obtain ⟨a, h1, h2⟩ := Option.bind_eq_some_iff.mp hc
  obtain ⟨d, h5, h6⟩ := k a c h2
  exact ⟨d, by rw [h1]; exact h5, h6⟩
theorem OL.some {α β : Type} {R : α → β → Prop} {a : α} {b : β} (h : R a b) : OL R (some a) (some b) := fun c q => by cases q; exact ⟨b, rfl, h⟩
theorem OL.none {α β : Type} {R : α → β → Prop} {y : Option β} : OL R (none : Option α) y := fun c q => by cases q
theorem OL.ite {α β : Type} {R : α → β → Prop} {x x' : Option α} {y y' : Option β} {p : Prop} [Decidable p] (h : p → OL R x y) (k : ¬ p → OL R x' y') : OL R (if p then x else x') (if p then y else y') := by
  split
  · exact h ‹_›
  · exact k ‹_›
def RsR (x y : PyData × Bool × En) : Prop := x.1 = y.1 ∧ x.2.1 = y.2.1 ∧ Le x.2.2 y.2.2
def PR {α : Type} (x y : α × En) : Prop := x.1 = y.1 ∧ Le x.2 y.2
def IR (x y : List PyData × List Nat × En) : Prop := x.1 = y.1 ∧ x.2.1 = y.2.1 ∧ Le x.2.2 y.2.2
def OutR : Out → Out → Prop
  | .nx e, .nx e' => Le e e'
  | .rt d f, .rt d' f' => d = d' ∧ f = f'
  | _, _ => False
variable {e e' : En}
theorem fetch_le (h : Le e e') (hd : Hd) : OL Eq (fetch e hd) (fetch e' hd) := by
  cases hd with
  | val d => exact .some rfl
  | slot i =>
    simp only [RV.fetch]
    rcases h.get i with ⟨h1, h2⟩ | ⟨s, t, h1, h2, h3⟩
    · rw [h1]; exact .none
    · rw [h1, h2]
      cases h3 with
      | refl => cases s <;> first | exact .some rfl | exact .none
      | un => exact .none
theorem fetchs_le (h : Le e e') : ∀ hs : List Hd, OL Eq (fetchs e hs) (fetchs e' hs)
  | [] => .some rfl
  | hd :: r => by
    refine OL.bind (fetch_le h hd) fun a b z => ?_
    cases z
    refine OL.bind (fetchs_le h r) fun a b z => ?_
    cases z
    exact .some rfl
theorem stN_le (h : Le e e') (i : Nat) (d : PyData) (fr : Bool) : OL Le (stN i d fr e) (stN i d fr e') := by
  unfold stN
  rcases h.get i with ⟨h1, h2⟩ | ⟨s, t, h1, h2, h3⟩
  · rw [h1]; exact .none
  · rw [h1, h2]
    cases h3 with
    | refl => cases s <;> first | exact .none | exact .some (h.set (.refl _) i)
    | un hk => cases t <;> first | exact .some (h.set (.refl _) i) | cases hk
mutual
theorem asN_le : ∀ (t : TN) {e e' : En} (h : Le e e') (d : PyData) (fr : Bool), OL Le (asN t d fr e) (asN t d fr e')
  | .nm i, e, e', h, d, fr => by simp only [asN]; exact stN_le h i d fr
  | .tup ts, e, e', h, d, fr => by
    cases d <;> simp only [asN] <;> first | exact .none | exact asNs_le ts h _
theorem asNs_le : ∀ (ts : List TN) {e e' : En} (h : Le e e') (ds : List PyData), OL Le (asNs ts ds e) (asNs ts ds e')
  | [], e, e', h, [] => by simp only [asNs]; exact .some h
  | [], e, e', h, _ :: _ => by simp only [asNs]; exact .none
  | _ :: _, e, e', h, [] => by simp only [asNs]; exact .none
  | t :: ts, e, e', h, d :: ds => by
    simp only [asNs]
    exact OL.bind (asN_le t h d false) fun a b k => asNs_le ts k ds
end
theorem LeS.frz {s t : Sl} (h : LeS s t) : LeS (frz s) (frz t) := by
  cases h with
  | refl => exact .refl _
  | un h => refine .un ?_; cases t <;> first | rfl | cases h
theorem Le.map : ∀ {e e' : En} (h : Le e e'), Le (e.map frz) (e'.map frz)
  | [], [], _ => trivial
  | _ :: _, _ :: _, ⟨h, h'⟩ => ⟨h.frz, Le.map h'⟩
  | [], _ :: _, h => h.elim
  | _ :: _, [], h => h.elim
theorem Le.any : ∀ {e e' : En} (h : Le e e'), e.any isLk = e'.any isLk
  | [], [], _ => rfl
  | _ :: _, _ :: _, ⟨h, h'⟩ => by rw [List.any_cons, List.any_cons, h.lk, Le.any h']
  | [], _ :: _, h => h.elim
  | _ :: _, [], h => h.elim
theorem frzAll_le (h : Le e e') : OL Le (frzAll e) (frzAll e') := by
  unfold frzAll
  rw [h.any]
  exact .ite (fun _ => .none) fun _ => .some h.map
theorem aft_le (h : Le e e') (d : PyData) (fr : Bool) : OL RsR (aft d fr e) (aft d fr e') := by
  unfold aft
  refine .ite (fun _ => .some ⟨rfl, rfl, h⟩) fun _ => OL.bind (frzAll_le h) fun a b k => .some ⟨rfl, rfl, k⟩
theorem hdl_le (h : Le e e') (c : CE) {r r' : Rs} (k : OL RsR r r') : OL PR (hdl c r e) (hdl c r' e') := by
  by_cases n : ∃ i, c = .var i
  · obtain ⟨i, rfl⟩ := n
    simp only [hdl]
    rcases h.get i with ⟨h1, h2⟩ | ⟨s, t, h1, h2, h3⟩
    · rw [h1]; exact .none
    · rw [h1, h2]
      cases h3 with
      | refl => cases s <;> first | exact .none | exact .some ⟨rfl, h⟩
      | un => exact .none
  · have hv : ∀ (r : Rs) (en : En), hdl c r en = r.bind fun x => some (.val x.1, x.2.2) := fun r en => by cases c <;> first | rfl | exact (n ⟨_, rfl⟩).elim
    rw [hv, hv]
    exact OL.bind k fun a b z => .some ⟨by rw [z.1], z.2.2⟩
/-- a handle's slot, once read, is the same on both sides -/
theorem lock_le (h : Le e e') (hd : Hd) {d : PyData} (f : fetch e hd = some d) : (lock hd e).1 = (lock hd e').1 ∧ Le (lock hd e).2 (lock hd e').2 := by
  cases hd with
  | val d => exact ⟨rfl, h⟩
  | slot i =>
    simp only [RV.fetch] at f
    simp only [lock]
    rcases h.get i with ⟨h1, h2⟩ | ⟨s, t, h1, h2, h3⟩
    · rw [h1] at f; cases f
    · rw [h1] at f
      rw [h1, h2]
      cases h3 with
      | refl => cases s <;> first | exact ⟨rfl, h⟩ | exact ⟨rfl, h.set (.refl _) i⟩
      | un => cases f
theorem fetch_lock0 {h h' : Hd} {e : En} : fetch (lock h e).2 h' = fetch e h' := by
  unfold lock
  split
  · rename_i i
    split
    · rename_i ds hs
      cases h' with
      | val d => rfl
      | slot j =>
        simp only [RV.fetch]
        by_cases hij : i = j
        · subst hij
          rw [List.getElem?_set_self (List.getElem?_eq_some_iff.mp hs).1, hs]
        · rw [List.getElem?_set_ne hij]
    · rfl
  · rfl
theorem unl_le (h : Le e e') (i : Nat) : Le (unl i e) (unl i e') := by
  unfold unl
  rcases h.get i with ⟨h1, h2⟩ | ⟨s, t, h1, h2, h3⟩
  · rw [h1, h2]; exact h
  · rw [h1, h2]
    cases h3 with
    | refl => cases s <;> first | exact h | exact h.set (.refl _) i
    | un hk => cases t <;> first | exact h | cases hk
theorem unls_le : ∀ (l : List Nat) {e e' : En} (h : Le e e'), Le (unls l e) (unls l e')
  | [], _, _, h => h
  | i :: r, _, _, h => unls_le r (unl_le h i)
theorem fzO_le : ∀ (l : List Nat) {e e' : En} (h : Le e e'), OL Le (fzO l e) (fzO l e')
  | [], e, e', h => .some h
  | i :: r, e, e', h => by
    unfold fzO
    rcases h.get i with ⟨h1, h2⟩ | ⟨s, t, h1, h2, h3⟩
    · rw [h1]; exact .none
    · rw [h1, h2]
      have k := fzO_le r (h.set h3.frz i)
      cases h3 with
      | refl => cases s <;> first | exact .none | exact k
      | un hk => cases t <;> first | exact k | cases hk
theorem wip_le : ∀ (l : List Nat) {e e' : En} (h : Le e e'), Le (wip l e) (wip l e')
  | [], _, _, h => h
  | i :: r, _, _, h => (wip_le r h).set (.refl _) i
theorem rsto_le {e0 e0' : En} (k : Le e0 e0') : ∀ (l : List Nat) {e e' : En} (h : Le e e'), Le (rsto e0 l e) (rsto e0' l e')
  | [], _, _, h => h
  | i :: r, e, e', h => by
    unfold rsto
    rcases k.get i with ⟨h1, h2⟩ | ⟨s, t, h1, h2, h3⟩
    · rw [h1, h2]; exact rsto_le k r h
    · rw [h1, h2]; exact (rsto_le k r h).set h3 i
theorem lcL_le {step step' : PyData → En → Option (List PyData × En)} (k : ∀ d e e', Le e e' → OL PR (step d e) (step' d e')) : ∀ (ds : List PyData) {e e' : En} (h : Le e e'), OL PR (lcL step ds e) (lcL step' ds e')
  | [], _, _, h => .some ⟨rfl, h⟩
  | d :: ds, _, _, h => OL.bind (k d _ _ h) fun a b z => OL.bind (lcL_le k ds z.2) fun c d y => .some ⟨by rw [z.1, y.1], y.2⟩
theorem gqL_le {al : Bool} {step step' : PyData → En → Option (Option Bool × En)} (k : ∀ d e e', Le e e' → OL PR (step d e) (step' d e')) : ∀ (ds : List PyData) {e e' : En} (h : Le e e'), OL PR (gqL al step ds e) (gqL al step' ds e')
  | [], _, _, h => .some ⟨rfl, h⟩
  | d :: ds, _, _, h => OL.bind (k d _ _ h) fun a b z => by
    obtain ⟨a1, a2⟩ := a
    obtain ⟨b1, b2⟩ := b
    obtain ⟨z1, z2⟩ := z
    simp only at z1 z2
    subst z1
    cases a1 with
    | none => exact gqL_le k ds z2
    | some q => exact .ite (fun _ => gqL_le k ds z2) fun _ => .some ⟨rfl, z2⟩
theorem forL_le {step step' : PyData → En → Option Out} (k : ∀ d e e', Le e e' → OL OutR (step d e) (step' d e')) : ∀ (ds : List PyData) {e e' : En} (h : Le e e'), OL OutR (forL step ds e) (forL step' ds e')
  | [], _, _, h => OL.some (R := OutR) (a := .nx _) (b := .nx _) h
  | d :: ds, _, _, h => OL.bind (k d _ _ h) fun a b z => by
    cases a <;> cases b <;> first | exact z.elim | skip
    · exact forL_le k ds z
    · exact OL.some z
theorem whL_le {t t' : En → Option (Bool × En)} {b b' : En → Option Out} (k : ∀ e e', Le e e' → OL PR (t e) (t' e')) (kb : ∀ e e', Le e e' → OL OutR (b e) (b' e')) : ∀ (n : Nat) {e e' : En} (h : Le e e'), OL OutR (whL t b n e) (whL t' b' n e')
  | 0, _, _, h => .none
  | n + 1, _, _, h => OL.bind (k _ _ h) fun x y z => by
    obtain ⟨z1, z2⟩ := z
    rw [z1]
    refine .ite (fun _ => OL.bind (kb _ _ z2) fun a b w => ?_) fun _ => OL.some (R := OutR) (a := .nx _) (b := .nx _) z2
    cases a <;> cases b <;> first | exact w.elim | skip
    · exact whL_le k kb n w
    · exact OL.some w
section
variable {Φ Φ' : Fs} (hΦ : ∀ f ds, OL Eq (Φ f ds) (Φ' f ds))
include hΦ
mutual
theorem evE_le : ∀ (c : CE) {e e' : En} (h : Le e e'), OL RsR (evE Φ c e) (evE Φ' c e')
  | .con d, e, e', h => by simp only [evE]; exact .some ⟨rfl, rfl, h⟩
  | .var i, e, e', h => by
    simp only [evE]
    rcases h.get i with ⟨h1, h2⟩ | ⟨s, t, h1, h2, h3⟩
    · rw [h1]; exact .none
    · rw [h1, h2]
      cases h3 with
      | refl => cases s <;> first | exact .none | exact .some ⟨rfl, rfl, h⟩ | exact .some ⟨rfl, rfl, h.set (.refl _) i⟩
      | un => exact .none
  | .bin o a b, e, e', h => by
    simp only [evE]
    refine OL.bind (hdl_le h a (evE_le a h)) fun x y z => ?_
    refine OL.bind (hdl_le z.2 b (evE_le b z.2)) fun x' y' z' => ?_
    rw [z.1, z'.1]
    refine OL.bind (fetch_le z'.2 _) fun _ _ q => ?_
    cases q
    refine OL.bind (fetch_le z'.2 _) fun _ _ q => ?_
    cases q
    exact .bindE fun r => .some ⟨rfl, rfl, z'.2⟩
  | .neg a, e, e', h => by
    simp only [evE]
    refine OL.bind (hdl_le h a (evE_le a h)) fun x y z => ?_
    rw [z.1]
    refine OL.bind (fetch_le z.2 _) fun _ _ q => ?_
    cases q
    exact .bindE fun r => .some ⟨rfl, rfl, z.2⟩
  | .nott a, e, e', h => by
    simp only [evE]
    refine OL.bind (hdl_le h a (evE_le a h)) fun x y z => ?_
    rw [z.1]
    refine OL.bind (fetch_le z.2 _) fun _ _ q => ?_
    cases q
    exact .bindE fun r => .some ⟨rfl, rfl, z.2⟩
  | .andd a b, e, e', h => by
    simp only [evE]
    refine OL.bind (evE_le a h) fun x y z => ?_
    rw [z.1]
    refine .bindE fun t => .ite (fun _ => OL.bind (evE_le b z.2.2) fun x' y' z' => .some ⟨z'.1, rfl, z'.2.2⟩) fun _ => .some ⟨rfl, rfl, z.2.2⟩
  | .orr a b, e, e', h => by
    simp only [evE]
    refine OL.bind (evE_le a h) fun x y z => ?_
    rw [z.1]
    refine .bindE fun t => .ite (fun _ => .some ⟨rfl, rfl, z.2.2⟩) fun _ => OL.bind (evE_le b z.2.2) fun x' y' z' => .some ⟨z'.1, rfl, z'.2.2⟩
  | .cmp o a b, e, e', h => by
    simp only [evE]
    refine OL.bind (hdl_le h a (evE_le a h)) fun x y z => ?_
    refine OL.bind (hdl_le z.2 b (evE_le b z.2)) fun x' y' z' => ?_
    rw [z.1, z'.1]
    refine OL.bind (fetch_le z'.2 _) fun _ _ q => ?_
    cases q
    refine OL.bind (fetch_le z'.2 _) fun _ _ q => ?_
    cases q
    exact .bindE fun r => .some ⟨rfl, rfl, z'.2⟩
  | .chain o o2 a b c, e, e', h => by
    simp only [evE]
    refine OL.bind (hdl_le h a (evE_le a h)) fun x y z => ?_
    refine OL.bind (hdl_le z.2 b (evE_le b z.2)) fun x' y' z' => ?_
    rw [z.1, z'.1]
    refine OL.bind (fetch_le z'.2 _) fun _ _ q => ?_
    cases q
    refine OL.bind (fetch_le z'.2 _) fun _ _ q => ?_
    cases q
    refine .bindE fun r => .ite (fun _ => ?_) fun _ => .some ⟨rfl, rfl, z'.2⟩
    refine OL.bind (hdl_le z'.2 c (evE_le c z'.2)) fun x2 y2 z2 => ?_
    rw [z2.1]
    refine OL.bind (fetch_le z2.2 _) fun _ _ q => ?_
    cases q
    refine OL.bind (fetch_le z2.2 _) fun _ _ q => ?_
    cases q
    exact .bindE fun r => .some ⟨rfl, rfl, z2.2⟩
  | .chain3 o o2 o3 a b c d, e, e', h => by
    simp only [evE]
    refine OL.bind (hdl_le h a (evE_le a h)) fun x y z => ?_
    refine OL.bind (hdl_le z.2 b (evE_le b z.2)) fun x' y' z' => ?_
    rw [z.1, z'.1]
    refine OL.bind (fetch_le z'.2 _) fun _ _ q => ?_
    cases q
    refine OL.bind (fetch_le z'.2 _) fun _ _ q => ?_
    cases q
    refine .bindE fun r => .ite (fun _ => ?_) fun _ => .some ⟨rfl, rfl, z'.2⟩
    refine OL.bind (hdl_le z'.2 c (evE_le c z'.2)) fun x2 y2 z2 => ?_
    rw [z2.1]
    refine OL.bind (fetch_le z2.2 _) fun _ _ q => ?_
    cases q
    refine OL.bind (fetch_le z2.2 _) fun _ _ q => ?_
    cases q
    refine .bindE fun r => .ite (fun _ => ?_) fun _ => .some ⟨rfl, rfl, z2.2⟩
    refine OL.bind (hdl_le z2.2 d (evE_le d z2.2)) fun x3 y3 z3 => ?_
    rw [z3.1]
    refine OL.bind (fetch_le z3.2 _) fun _ _ q => ?_
    cases q
    refine OL.bind (fetch_le z3.2 _) fun _ _ q => ?_
    cases q
    exact .bindE fun r => .some ⟨rfl, rfl, z3.2⟩
  | .ite c a b, e, e', h => by
    simp only [evE]
    refine OL.bind (evT_le c h) fun x y z => ?_
    rw [z.1]
    exact .ite (fun _ => evE_le a z.2) fun _ => evE_le b z.2
  | .tup es, e, e', h => by
    simp only [evE]
    refine OL.bind (evEs_le es h) fun x y z => ?_
    rw [z.1]
    exact .ite (fun _ => .some ⟨rfl, rfl, z.2⟩) fun _ => .none
  | .lst es, e, e', h => by
    simp only [evE]
    refine OL.bind (evEs_le es h) fun x y z => ?_
    rw [z.1]
    exact .ite (fun _ => .some ⟨rfl, rfl, z.2⟩) fun _ => .none
  | .idx a b, e, e', h => by
    simp only [evE]
    refine OL.bind (hdl_le h a (evE_le a h)) fun x y z => ?_
    refine OL.bind (hdl_le z.2 b (evE_le b z.2)) fun x' y' z' => ?_
    rw [z.1, z'.1]
    refine OL.bind (fetch_le z'.2 _) fun _ _ q => ?_
    cases q
    refine OL.bind (fetch_le z'.2 _) fun _ _ q => ?_
    cases q
    exact .bindE fun r => .some ⟨rfl, rfl, z'.2⟩
  | .idxm a b, e, e', h => by
    simp only [evE]
    refine OL.bind (hdl_le h a (evE_le a h)) fun x y z => ?_
    rw [z.1]
    refine OL.bind (fetch_le z.2 _) fun _ _ q => ?_
    cases q
    refine OL.bind (hdl_le z.2 b (evE_le b z.2)) fun x' y' z' => ?_
    rw [z'.1]
    refine OL.bind (fetch_le z'.2 _) fun _ _ q => ?_
    cases q
    refine OL.bind (fetch_le z'.2 _) fun _ _ q => ?_
    cases q
    exact .ite (fun _ => .bindE fun r => .some ⟨rfl, rfl, z'.2⟩) fun _ => .none
  | .lenset c, e, e', h => by
    simp only [evE]
    refine OL.bind (hdl_le h c (evE_le c h)) fun x y z => ?_
    rw [z.1]
    refine OL.bind (fetch_le z.2 _) fun _ _ q => ?_
    cases q
    refine .bindE fun r => .bindE fun r => .ite (fun _ => .some ⟨rfl, rfl, z.2⟩) fun _ => .none
  | .join s c, e, e', h => by
    simp only [evE]
    refine OL.bind (hdl_le h c (evE_le c h)) fun x y z => ?_
    rw [z.1]
    refine OL.bind (fetch_le z.2 _) fun _ _ q => ?_
    cases q
    exact .bindE fun r => .some ⟨rfl, rfl, z.2⟩
  | .slc a lo hi, e, e', h => by
    simp only [evE]
    refine OL.bind (hdl_le h a (evE_le a h)) fun x y z => ?_
    refine OL.bind (evO_le lo z.2) fun x2 y2 z2 => ?_
    refine OL.bind (evO_le hi z2.2) fun x3 y3 z3 => ?_
    rw [z.1, z2.1, z3.1]
    refine OL.bind (fetch_le z3.2 _) fun _ _ q => ?_
    cases q
    exact .bindE fun r => .some ⟨rfl, rfl, z3.2⟩
  | .rev a, e, e', h => by
    simp only [evE]
    refine OL.bind (hdl_le h a (evE_le a h)) fun x y z => ?_
    rw [z.1]
    refine OL.bind (fetch_le z.2 _) fun _ _ q => ?_
    cases q
    exact .bindE fun r => .some ⟨rfl, rfl, z.2⟩
  | .call f es, e, e', h => by
    simp only [evE]
    refine OL.bind (evHs_le es h) fun x y z => ?_
    rw [z.1]
    refine OL.bind (fetchs_le z.2 _) fun _ _ q => ?_
    cases q
    refine OL.bind (hΦ f _) fun r _ q => ?_
    cases q
    exact aft_le z.2 _ _
  | .fn b es, e, e', h => by
    simp only [evE]
    refine OL.bind (evHs_le es h) fun x y z => ?_
    rw [z.1]
    refine OL.bind (fetchs_le z.2 _) fun _ _ q => ?_
    cases q
    exact .bindE fun r => .some ⟨rfl, rfl, z.2⟩
  | .lc elt t it ifs own, e, e', h => by
    simp only [evE]
    refine OL.bind (evI_le it h) fun x y z => ?_
    refine OL.bind (fzO_le own z.2.2) fun e1 e1' z1 => ?_
    rw [z.1, z.2.1]
    refine OL.bind (lcL_le (fun d e2 e2' h2 => ?_) y.1 (wip_le own z1)) fun a b w => ?_
    · refine OL.bind (asN_le t h2 d false) fun e3 e3' h3 => ?_
      refine OL.bind (evTo_le ifs h3) fun p q k => ?_
      rw [k.1]
      refine .ite (fun _ => OL.bind (evE_le elt k.2) fun r s m => .some ⟨by rw [m.1], wip_le own m.2.2⟩) fun _ => .some ⟨rfl, wip_le own k.2⟩
    · rw [w.1]
      exact .ite (fun _ => .some ⟨rfl, rfl, unls_le _ (rsto_le z1 own w.2)⟩) fun _ => .none
  | .pop i, e, e', h => by
    simp only [evE]
    rcases h.get i with ⟨h1, h2⟩ | ⟨s, t, h1, h2, h3⟩
    · rw [h1]; exact .none
    · rw [h1, h2]
      cases h3 with
      | refl => cases s <;> first | exact .none | exact .bindE fun d => .some ⟨rfl, rfl, h.set (.refl _) i⟩
      | un => exact .none
  | .popAt i c, e, e', h => by
    simp only [evE]
    rcases h.get i with ⟨h1, h2⟩ | ⟨s, t, h1, h2, h3⟩
    · rw [h1]; exact .none
    · rw [h1, h2]
      cases h3 with
      | un => exact .none
      | refl =>
        cases s <;> first | exact .none | skip
        refine OL.bind (hdl_le h c (evE_le c h)) fun x y z => ?_
        rw [z.1]
        refine OL.bind (fetch_le z.2 _) fun _ _ q => ?_
        cases q
        refine .bindE fun k => ?_
        rcases z.2.get i with ⟨h1, h2⟩ | ⟨s, t, h1, h2, h3⟩
        · rw [h1]; exact .none
        · rw [h1, h2]
          cases h3 with
          | un => exact .none
          | refl =>
            cases s <;> first | exact .none | skip
            exact .bindE fun j => .bindE fun d => .some ⟨rfl, rfl, z.2.set (.refl _) i⟩
  | .lstR it, e, e', h => by
    simp only [evE]
    refine OL.bind (evI_le it h) fun x y z => ?_
    rw [z.1, z.2.1]
    exact .ite (fun _ => .some ⟨rfl, rfl, unls_le _ z.2.2⟩) fun _ => .none
  | .tupR it, e, e', h => by
    simp only [evE]
    refine OL.bind (evI_le it h) fun x y z => ?_
    rw [z.1, z.2.1]
    exact .ite (fun _ => .some ⟨rfl, rfl, unls_le _ z.2.2⟩) fun _ => .none
  | .gq al elt t it ifs own, e, e', h => by
    simp only [evE]
    refine OL.bind (evI_le it h) fun x y z => ?_
    rw [z.1, z.2.1]
    refine OL.bind (fzO_le own z.2.2) fun x1 y1 z1 => ?_
    refine OL.bind (gqL_le (fun d e e' k => ?_) y.1 (wip_le own z1)) fun v w w' => .some ⟨by rw [w'.1], rfl, unls_le _ (rsto_le z1 own w'.2)⟩
    refine OL.bind (asN_le t k d false) fun a b k => OL.bind (evTo_le ifs k) fun a b k => ?_
    rw [k.1]
    refine .ite (fun _ => OL.bind (evE_le elt k.2) fun a b k => ?_) fun _ => .some ⟨rfl, wip_le own k.2⟩
    rw [k.1]
    exact .bindE fun q => .some ⟨rfl, wip_le own k.2.2⟩
theorem evT_le : ∀ (c : CT) {e e' : En} (h : Le e e'), OL PR (evT Φ c e) (evT Φ' c e')
  | .val c, e, e', h => by
    simp only [evT]
    refine OL.bind (hdl_le h c (evE_le c h)) fun x y z => ?_
    rw [z.1]
    refine OL.bind (fetch_le z.2 _) fun _ _ q => ?_
    cases q
    exact .bindE fun r => .some ⟨rfl, z.2⟩
  | .andd a b, e, e', h => by
    simp only [evT]
    refine OL.bind (evT_le a h) fun x y z => ?_
    rw [z.1]
    exact .ite (fun _ => evT_le b z.2) fun _ => .some ⟨rfl, z.2⟩
  | .orr a b, e, e', h => by
    simp only [evT]
    refine OL.bind (evT_le a h) fun x y z => ?_
    rw [z.1]
    exact .ite (fun _ => .some ⟨rfl, z.2⟩) fun _ => evT_le b z.2
  | .nott a, e, e', h => by
    simp only [evT]
    exact OL.bind (evT_le a h) fun x y z => .some ⟨by rw [z.1], z.2⟩
theorem evTo_le : ∀ (c : Option CT) {e e' : En} (h : Le e e'), OL PR (evTo Φ c e) (evTo Φ' c e')
  | none, e, e', h => by simp only [evTo]; exact .some ⟨rfl, h⟩
  | some c, e, e', h => by simp only [evTo]; exact evT_le c h
theorem evO_le : ∀ (c : Option CE) {e e' : En} (h : Le e e'), OL PR (evO Φ c e) (evO Φ' c e')
  | none, e, e', h => by simp only [evO]; exact .some ⟨rfl, h⟩
  | some c, e, e', h => by
    simp only [evO]
    refine OL.bind (hdl_le h c (evE_le c h)) fun x y z => ?_
    rw [z.1]
    refine OL.bind (fetch_le z.2 _) fun _ _ q => ?_
    cases q
    exact .bindE fun r => .some ⟨rfl, z.2⟩
theorem evEs_le : ∀ (es : List CE) {e e' : En} (h : Le e e'), OL PR (evEs Φ es e) (evEs Φ' es e')
  | [], e, e', h => by simp only [evEs]; exact .some ⟨rfl, h⟩
  | c :: r, e, e', h => by
    simp only [evEs]
    refine OL.bind (evE_le c h) fun x y z => OL.bind (evEs_le r z.2.2) fun x' y' z' => .some ⟨by rw [z.1, z'.1], z'.2⟩
theorem evHs_le : ∀ (es : List CE) {e e' : En} (h : Le e e'), OL PR (evHs Φ es e) (evHs Φ' es e')
  | [], e, e', h => by simp only [evHs]; exact .some ⟨rfl, h⟩
  | c :: r, e, e', h => by
    simp only [evHs]
    refine OL.bind (hdl_le h c (evE_le c h)) fun x y z => OL.bind (evHs_le r z.2) fun x' y' z' => .some ⟨by rw [z.1, z'.1], z'.2⟩
theorem evI_le : ∀ (it : CI) {e e' : En} (h : Le e e'), OL IR (evI Φ it e) (evI Φ' it e')
  | .seq c, e, e', h => by
    simp only [evI]
    refine OL.bind (hdl_le h c (evE_le c h)) fun x y z => ?_
    rw [z.1]
    intro a ha
    obtain ⟨d, h1, h2⟩ := Option.bind_eq_some_iff.mp ha
    obtain ⟨d', h3, h4⟩ := fetch_le z.2 _ d h1
    cases h4
    obtain ⟨k1, k2⟩ := lock_le z.2 _ h1
    rw [h3]
    obtain ⟨ds, h5, h6⟩ := Option.bind_eq_some_iff.mp h2
    cases h6
    refine ⟨(ds, lock y.1 y.2), ?_, ⟨rfl, k1, k2⟩⟩
    show (itemsOf d).bind _ = _
    rw [h5]
    rfl
  | .rng1 a, e, e', h => by
    simp only [evI]
    refine OL.bind (hdl_le h a (evE_le a h)) fun x y z => ?_
    rw [z.1]
    refine OL.bind (fetch_le z.2 _) fun _ _ q => ?_
    cases q
    exact .bindE fun i => .ite (fun _ => .some ⟨rfl, rfl, z.2⟩) fun _ => .none
  | .rng2 a b, e, e', h => by
    simp only [evI]
    refine OL.bind (hdl_le h a (evE_le a h)) fun x y z => ?_
    refine OL.bind (hdl_le z.2 b (evE_le b z.2)) fun x' y' z' => ?_
    rw [z.1, z'.1]
    refine OL.bind (fetch_le z'.2 _) fun _ _ q => ?_
    cases q
    refine .bindE fun i => OL.bind (fetch_le z'.2 _) fun _ _ q => ?_
    cases q
    exact .bindE fun i => .ite (fun _ => .some ⟨rfl, rfl, z'.2⟩) fun _ => .none
  | .rng3 a b c, e, e', h => by simp only [evI]; exact .none
  | .enm c, e, e', h => by
    simp only [evI]
    refine OL.bind (hdl_le h c (evE_le c h)) fun x y z => ?_
    rw [z.1]
    intro a ha
    obtain ⟨d, h1, h2⟩ := Option.bind_eq_some_iff.mp ha
    obtain ⟨d', h3, h4⟩ := fetch_le z.2 _ d h1
    cases h4
    obtain ⟨k1, k2⟩ := lock_le z.2 _ h1
    rw [h3]
    obtain ⟨ds, h5, h6⟩ := Option.bind_eq_some_iff.mp h2
    cases h6
    refine ⟨(List.mapIdx (fun (i : Nat) d => PyData.tuple [PyData.int i, d]) ds, lock y.1 y.2), ?_, ⟨rfl, k1, k2⟩⟩
    show (enmOf d).bind _ = _
    rw [h5]
    rfl
  | .zip a b, e, e', h => by
    simp only [evI]
    refine OL.bind (hdl_le h a (evE_le a h)) fun x y z => ?_
    refine OL.bind (hdl_le z.2 b (evE_le b z.2)) fun x' y' z' => ?_
    rw [z.1, z'.1]
    intro r hr
    obtain ⟨d, h1, h2⟩ := Option.bind_eq_some_iff.mp hr
    obtain ⟨d', h3, h4⟩ := fetch_le z'.2 _ d h1
    cases h4
    obtain ⟨w, h5, h6⟩ := Option.bind_eq_some_iff.mp h2
    obtain ⟨w', h7, h8⟩ := fetch_le z'.2 _ w h5
    cases h8
    obtain ⟨k1, k2⟩ := lock_le z'.2 _ h1
    obtain ⟨ds, h9, h10⟩ := Option.bind_eq_some_iff.mp h6
    have f : fetch (lock y.1 x'.2).2 y'.1 = some w := by rw [fetch_lock0]; exact h5
    obtain ⟨m1, m2⟩ := lock_le k2 _ f
    cases h10
    refine ⟨(ds, (lock y.1 y'.2).1 ++ (lock y'.1 (lock y.1 y'.2).2).1, (lock y'.1 (lock y.1 y'.2).2).2), ?_, ⟨rfl, ?_, m2⟩⟩
    · show (RV.fetch y'.2 y.1).bind _ = _
      rw [h3]
      show (RV.fetch y'.2 y'.1).bind _ = _
      rw [h7]
      show (zipOf d w).bind _ = _
      rw [h9]
      rfl
    · show (lock y.1 x'.2).1 ++ _ = _ ++ _
      rw [k1, m1]
end
theorem setIx_le (h : Le e e') (i : Nat) (k : Int) (d : PyData) : OL Le (setIx i k d e) (setIx i k d e') := by
  unfold setIx
  rcases h.get i with ⟨h1, h2⟩ | ⟨s, t, h1, h2, h3⟩
  · rw [h1]; exact .none
  · rw [h1, h2]
    cases h3 with
    | un => exact .none
    | refl => cases s <;> first | exact .none | exact .bindE fun j => .some (h.set (.refl _) i)
theorem extF_le (h : Le e e') (i : Nat) (o : Op2) (d : PyData) : OL OutR (extF i o d e) (extF i o d e') := by
  unfold extF
  rcases h.get i with ⟨h1, h2⟩ | ⟨s, t, h1, h2, h3⟩
  · rw [h1]
    intro a ha
    split at ha
    · rename_i q; cases q
    · cases ha
  · rw [h1, h2]
    cases h3 with
    | un =>
      intro a ha
      split at ha
      · rename_i q; cases q
      · cases ha
    | refl =>
      split
      · exact .ite (fun _ => OL.some (R := OutR) (a := .nx _) (b := .nx _) (h.set (.refl _) i)) fun _ => .none
      · exact .none
mutual
theorem evS_le (wf : Nat) : ∀ (s : CS) {e e' : En} (h : Le e e'), OL OutR (evS Φ wf s e) (evS Φ' wf s e')
  | .ex c, e, e', h => by
    simp only [evS]
    exact OL.bind (evE_le hΦ c h) fun x y z => OL.some (R := OutR) (a := .nx _) (b := .nx _) z.2.2
  | .app i c, e, e', h => by
    simp only [evS]
    rcases h.get i with ⟨h1, h2⟩ | ⟨s, t, h1, h2, h3⟩
    · rw [h1]; exact .none
    · rw [h1, h2]
      cases h3 with
      | un => exact .none
      | refl =>
        cases s <;> first | exact .none | skip
        refine OL.bind (evE_le hΦ c h) fun x y z => ?_
        rcases z.2.2.get i with ⟨h1, h2⟩ | ⟨s, t, h1, h2, h3⟩
        · rw [h1]; exact .none
        · rw [h1, h2]
          cases h3 with
          | un => exact .none
          | refl =>
            cases s <;> first | exact .none | skip
            rw [z.1]
            exact .ite (fun _ => OL.some (R := OutR) (a := .nx _) (b := .nx _) (z.2.2.set (.refl _) i)) fun _ => .none
  | .asg t c, e, e', h => by
    simp only [evS]
    refine OL.bind (evE_le hΦ c h) fun x y z => ?_
    rw [z.1, z.2.1]
    exact OL.bind (asN_le t z.2.2 _ _) fun a b k => OL.some (R := OutR) (a := .nx _) (b := .nx _) k
  | .sto i ix c, e, e', h => by
    simp only [evS]
    refine OL.bind (evE_le hΦ c h) fun x y z => ?_
    rcases z.2.2.get i with ⟨h1, h2⟩ | ⟨s, t, h1, h2, h3⟩
    · rw [h1]; exact .none
    · rw [h1, h2]
      cases h3 with
      | un => exact .none
      | refl =>
        cases s <;> first | exact .none | skip
        refine OL.bind (hdl_le z.2.2 ix (evE_le hΦ ix z.2.2)) fun x2 y2 z2 => ?_
        rw [z2.1]
        refine OL.bind (fetch_le z2.2 _) fun _ _ q => ?_
        cases q
        rw [z.1]
        exact .bindE fun k => OL.bind (setIx_le hΦ z2.2 i k _) fun a b k => OL.some (R := OutR) (a := .nx _) (b := .nx _) k
  | .aug i o c, e, e', h => by
    simp only [evS]
    rcases h.get i with ⟨h1, h2⟩ | ⟨s, t, h1, h2, h3⟩
    · rw [h1]; exact .none
    · rw [h1, h2]
      cases h3 with
      | un => exact .none
      | refl =>
        cases s <;> first | exact .none | skip
        · refine OL.bind (hdl_le h c (evE_le hΦ c h)) fun x y z => ?_
          rw [z.1]
          refine OL.bind (fetch_le z.2 _) fun _ _ q => ?_
          cases q
          exact .bindE fun r => OL.bind (stN_le z.2 _ _ _) fun a b k => OL.some (R := OutR) (a := .nx _) (b := .nx _) k
        · refine OL.bind (hdl_le h c (evE_le hΦ c h)) fun x y z => ?_
          rw [z.1]
          refine OL.bind (fetch_le z.2 _) fun _ _ q => ?_
          cases q
          exact extF_le hΦ z.2 _ _ _
  | .augs i ix o c, e, e', h => by
    simp only [evS]
    rcases h.get i with ⟨h1, h2⟩ | ⟨s, t, h1, h2, h3⟩
    · rw [h1]; exact .none
    · rw [h1, h2]
      cases h3 with
      | un => exact .none
      | refl =>
        cases s <;> first | exact .none | skip
        refine OL.bind (hdl_le h ix (evE_le hΦ ix h)) fun x y z => ?_
        rw [z.1]
        refine OL.bind (fetch_le z.2 _) fun _ _ q => ?_
        cases q
        refine .bindE fun k => ?_
        rcases z.2.get i with ⟨h1, h2⟩ | ⟨s, t, h1, h2, h3⟩
        · rw [h1]; exact .none
        · rw [h1, h2]
          cases h3 with
          | un => exact .none
          | refl =>
            cases s <;> first | exact .none | skip
            refine .bindE fun old => OL.bind (hdl_le z.2 c (evE_le hΦ c z.2)) fun x2 y2 z2 => ?_
            rw [z2.1]
            refine OL.bind (fetch_le z2.2 _) fun _ _ q => ?_
            cases q
            exact .bindE fun a => .bindE fun b => .bindE fun r => OL.bind (setIx_le hΦ z2.2 i k _) fun a b k => OL.some (R := OutR) (a := .nx _) (b := .nx _) k
  | .ret c, e, e', h => by
    by_cases n : ∃ i, c = .var i
    · obtain ⟨i, rfl⟩ := n
      simp only [evS]
      rcases h.get i with ⟨h1, h2⟩ | ⟨s, t, h1, h2, h3⟩
      · rw [h1]; exact .none
      · rw [h1, h2]
        cases h3 with
        | un => exact .none
        | refl => cases s <;> first | exact .none | exact OL.some (R := OutR) (a := .rt _ _) (b := .rt _ _) ⟨rfl, rfl⟩
    · have hv : ∀ (Φ : Fs) (en : En), evS Φ wf (.ret c) en = (evE Φ c en).bind fun x => some (.rt x.1 x.2.1) := fun Φ en => by cases c <;> first | (simp only [evS]; done) | exact (n ⟨_, rfl⟩).elim
      rw [hv, hv]
      exact OL.bind (evE_le hΦ c h) fun x y z => OL.some (R := OutR) (a := .rt _ _) (b := .rt _ _) ⟨z.1, z.2.1⟩
  | .retn, e, e', h => by simp only [evS]; exact OL.some (R := OutR) (a := .rt _ _) (b := .rt _ _) ⟨rfl, rfl⟩
  | .ife c a b, e, e', h => by
    simp only [evS]
    refine OL.bind (evT_le hΦ c h) fun x y z => ?_
    rw [z.1]
    exact .ite (fun _ => evSs_le wf a z.2) fun _ => evSs_le wf b z.2
  | .forr t it body, e, e', h => by
    simp only [evS]
    refine OL.bind (evI_le hΦ it h) fun x y z => ?_
    rw [z.1, z.2.1]
    refine OL.bind (forL_le (fun d e2 e2' h2 => OL.bind (asN_le t h2 d false) fun e3 e3' h3 => evSs_le wf body h3) y.1 z.2.2) fun a b w => ?_
    cases a <;> cases b <;> first | exact w.elim | skip
    · exact OL.some (R := OutR) (a := .nx _) (b := .nx _) (unls_le _ w)
    · exact OL.some w
  | .whl c body, e, e', h => by
    simp only [evS]
    exact whL_le (fun e e' h => evT_le hΦ c h) (fun e e' h => evSs_le wf body h) wf h
theorem evSs_le (wf : Nat) : ∀ (ss : List CS) {e e' : En} (h : Le e e'), OL OutR (evSs Φ wf ss e) (evSs Φ' wf ss e')
  | [], e, e', h => by simp only [evSs]; exact OL.some (R := OutR) (a := .nx _) (b := .nx _) h
  | s :: r, e, e', h => by
    simp only [evSs]
    refine OL.bind (evS_le wf s h) fun a b w => ?_
    cases a <;> cases b <;> first | exact w.elim | skip
    · exact evSs_le wf r w
    · exact OL.some w
end
theorem evD_le (wf : Nat) (p : CD) (ds : List PyData) : OL Eq (evD Φ wf p ds) (evD Φ' wf p ds) := by
  unfold evD
  refine .ite (fun _ => OL.bind (evSs_le hΦ wf p.body (Le.refl _)) fun a b w => ?_) fun _ => .none
  cases a <;> cases b <;> first | exact w.elim | skip
  · exact OL.some rfl
  · obtain ⟨rfl, rfl⟩ := w
    exact OL.some rfl
end
theorem run_succ (prog : List CD) (wf : Nat) : ∀ k f ds, OL Eq (run prog wf k f ds) (run prog wf (k + 1) f ds)
  | 0, f, ds => .none
  | k + 1, f, ds => OL.bindE fun p => evD_le (run_succ prog wf k) wf p ds
theorem run_mono {prog : List CD} {wf k k' f : Nat} {ds : List PyData} {r : PyData × Bool} (h : run prog wf k f ds = some r) (hk : k ≤ k') : run prog wf k' f ds = some r := by
  induction hk with
  | refl => exact h
  | step _ ih =>
    obtain ⟨b, h1, h2⟩ := run_succ prog wf _ f ds r ih
    rw [h1, h2]
end RV

namespace RV
open PySem PySem.Spec PyProof.Rows L2
/-! ### the head's data -/
def defD (d : DEF) : He.DefD := ⟨(d.1, none), d.1, d.1, defArgs d.2.2, defBody d.2.2, defScope d.2.2, [], []⟩
def faOf (ds : List DEF) : List He.Fa := (ds.map fun d => .glo d.1) ++ blNames.map .free
def tfOf (ds : List DEF) : List He.Defn := ds.map fun d => (d.1, none)
/-- the script: a list that nobody changes -/
def Scr (S : PyData) (ns : List Int) : Prop := S = .dict [(.none, .list (ns.map .int))] ∨ S = .list (ns.map .int)
section
variable {w : World} {K : PySem.W.Frag} {mg : Str → Option Value}
theorem law_okT {l : PySem.W.OpenLaw} {ds : List DEF} {prog : List CD} {n m wf i : Nat} {lw : Str} {N : List Str} {st : Stmt} {h : Heap} {f : Addr} {kk : Nat} (hc : progC n (fsOf ds) ds = some prog) (hi : ds[i]? = some (lw, N, st)) (hargs : argsC (defArgs st) = [("script" : Str)]) (X : K.In h) (G : h.Ns mainGlobals mg) (hfa : mg lw = some (.ref f))
    (c : He.SaysX (faOf ds) (ds.map defD) [] (tfOf ds) (fun _ => true) w h K) (hrun : ∀ (S : PyData) (ns : List Int), Scr S ns → ns.length ≤ m → run prog wf kk i [S] = some (.bool true, false)) : LamX.LawAtS l w K CX0 (2 * kk) m "script" mg f h := by
  have cd := c.t.d
  have hA : ∀ d ∈ ds, mg d.1 = some (.ref (He.fAd K (d.1, none))) ∧ ∃ fd : FuncData, FnD K d.1 d.2.2 (He.fAd K (d.1, none)) fd := fun d hd => by
    obtain ⟨j, hj, e⟩ := List.mem_iff_getElem.mp hd
    have hj' : ds[j]? = some d := by rw [List.getElem?_eq_getElem hj, e]
    obtain ⟨fd, F⟩ := cd.def_ j (d := defD d) (by rw [List.getElem?_map, hj']; rfl)
    have fc := cd.fact j (f := .glo d.1) (by
      unfold faOf
      rw [List.getElem?_append_left (by rw [List.length_map]; exact hj), List.getElem?_map, hj']
      rfl)
    exact ⟨He.glo_ok X G fc, fd, F⟩
  have hF : ∀ d ∈ ds, ∃ (f : Addr) (fd : FuncData), mg d.1 = some (.ref f) ∧ FnD K d.1 d.2.2 f fd := fun d hd => let ⟨a, fd, b⟩ := hA d hd; ⟨_, fd, a, b⟩
  have bl : ∀ x ∈ blNames, mg x = none := fun x hx => by
    have m : He.Fa.free x ∈ faOf ds := List.mem_append_right _ (List.mem_map_of_mem hx)
    obtain ⟨j, hj, e⟩ := List.mem_iff_getElem.mp m
    exact He.free_ok X G (cd.fact j (f := .free x) (by rw [List.getElem?_eq_getElem hj, e]))
  letI : Tb := ⟨fun P => ∃ p ∈ (tfOf ds).map (He.cT K), p.2 = P⟩
  obtain ⟨f', fd, m1, F⟩ := hF _ (List.mem_of_getElem? hi)
  have e := hfa.symm.trans m1
  cases e
  obtain ⟨a1, a2, _⟩ := progC_get hc hi
  refine ⟨fd, (tfOf ds).map (He.cT K), spF K 1 (run prog wf kk i), fun p hp => ?_, fun p hp => ?_, fun p hp => ?_, fun s v => ?_, fun H a ns hl _ hH hS => ?_, fun base hb hg TB => ?_⟩
  · obtain ⟨q, hq, rfl⟩ := List.mem_map.mp hp
    exact c.empty q hq
  · obtain ⟨q, hq, rfl⟩ := List.mem_map.mp hp
    exact c.out q hq
  · obtain ⟨q, hq, rfl⟩ := List.mem_map.mp hp
    exact PySem.W.codeHd_of_K X (c.hd q hq)
  · have := FunD.bindsA (ps := argsC (defArgs st)) F (fun kV doc pm an cdv ct us hl => bind_plain (argsOk_ok a1) rfl a2 (by rw [hl]; exact List.length_map _)) s [v] (by rw [hargs]; rfl)
    rw [hargs] at this
    exact this
  · have tb : ∀ P, Tb.T P → TabG H P := fun P ⟨p, hp, e⟩ => ⟨#[], by rw [← e]; exact hH p hp, by trivial⟩
    have fin : ∀ v H', SameT H H' → Ret K (fun _ => False) H v H' (.bool true) false → v = .bl true := fun v H' _ r => by
      have r : RD K H' ⟨fun _ => False, fun _ => False⟩ v (.bool true) := r
      cases r
      rfl
    have key : FrL K H a (ns.map V.int) ∨ H a = some (.lst (ns.map V.int)) := by
      rcases hS with (h | ⟨o, h⟩) | h
      · exact .inr h
      · exact .inl (.inl ⟨o, h⟩)
      · exact .inl (.inr h)
    rcases key with hf | hf
    · exact ⟨rfl, fun _ => False, _, _, _, fun b z => z.elim, .one (.frn hf (RDs.of_ints ns)), tb, hrun _ ns (.inl rfl) hl, fin⟩
    · exact ⟨rfl, fun _ => False, _, _, _, fun b z => z.elim, .one (.lst ⟨fun z => z.elim id id, hf⟩ (RDs.of_ints ns)), tb, hrun _ ns (.inr rfl) hl, fin⟩
  · have := prog_ok (P := l.prog) (w := w) (base := base) (wf := wf) hc hF bl (fun d hd f fd hm F => ?_) kk i _ f fd hi m1 F
    · rw [hargs] at this
      exact this
    · obtain ⟨hm', _⟩ := hA d hd
      have e := hm.symm.trans hm'
      cases e
      obtain ⟨oc, od, dV, kV, doc, pm, an, cdv, ct, osl, rfl, lk, hcd, _, _⟩ := F.ex
      obtain ⟨cc, rfl⟩ := He.codeIn_ref hcd
      have ec := He.codeOf_eq (p := (d.1, none)) lk rfl
      have hmem : He.cT K (d.1, none) ∈ (tfOf ds).map (He.cT K) := List.mem_map.mpr ⟨(d.1, none), List.mem_map.mpr ⟨d, hd, rfl⟩, rfl⟩
      have t := TB _ hmem
      refine ⟨(He.cT K (d.1, none)).1, (He.cT K (d.1, none)).2, ?_, ⟨t.code, t.bm, t.gP⟩, ⟨_, hmem, rfl⟩⟩
      show Value.ref cc = .ref (He.codeOf K (d.1, none))
      rw [ec]
/-- the end of a law with tables: the fragment comes with the head's facts -/
theorem walk_ofTX {l : PySem.W.OpenLaw} {n k : Nat} {q : Program} {loose : List Str} {XP : (Str → Option Value) → Heap → Prop} {YP : World → Heap → Prop} {d : DefRec} {CX : CXT} {x : Str}
    (hn : l.most = some n) (hn2 : n ≤ sizeLine) (hdf : d.params.defaults = []) (hr : Room k callerA)
    (F : ∀ (w : World) (mg : Str → Option Value) (fa : Addr) (h : Heap), YP w h → h.Ns mainGlobals mg → mg d.name = some (.ref fa) → ∃ K : PySem.W.Frag, K.In h ∧ LamX.LawAtS l w K CX k n x mg fa h)
    (hCX : ∀ (H : Hp) (s : Shared) (e : Value) (s' : Shared), CX [] H s (fun _ _ _ => False) e s' → False) :
    PySem.W.WalkO q loose XP YP l.row.toRowW d [] (fun f vs => PySem.call f vs) := by
  refine Att.attach_callB hn hdf fun w s₀ s₁ mg mb fa o pm cd doc a vs ns G Y ho hd hcd hmg hobj hints hlen hbits hg => ?_
  obtain ⟨K, KX, fd, cs, sp, hT, nT, C, hb, hsp, hF⟩ := F w mg fa _ Y G.T.g hmg
  exact LamX.law_callTs KX G.T.g G.T.b G.T.builtins G.T.nolimit hg hT nT C G.T.bmain hobj hints (Nat.le_trans hlen hn2) hr hF hb (fun H hH hS => hsp H a ns hlen hbits hH hS) fun H e s' => hCX H s₁ e s'
end
end RV


namespace RV
open PySem PySem.Spec PyProof.Rows L2
/-! ### reading the small language: what is wanted is computed by simp -/
class Cont (α : Type) where
  app : α → Prop
/-- what is wanted is told as an instance: simp reads the term alone -/
def WpI {α : Type} (x : Option α) [q : Cont α] : Prop := ∃ a, x = some a ∧ q.app a
abbrev Wp {α : Type} (x : Option α) (Q : α → Prop) : Prop := @WpI α x ⟨Q⟩
theorem Wp_def {α : Type} {x : Option α} {Q : α → Prop} : Wp x Q = @WpI α x ⟨Q⟩ := rfl
section
variable {α β : Type} {a : α} {x y : Option α} {Q R : α → Prop}
theorem Wp.ret (h : Q a) : Wp (some a) Q := ⟨a, rfl, h⟩
theorem Wp.out (h : Wp x Q) : ∃ a, x = some a ∧ Q a := h
theorem Wp.mono (h : Wp x Q) (k : ∀ a, Q a → R a) : Wp x R := let ⟨a, e, q⟩ := h; ⟨a, e, k a q⟩
theorem Wp_some : Wp (some a) Q = Q a := propext ⟨fun ⟨_, e, q⟩ => (by cases e; exact q), .ret⟩
theorem Wp_none : Wp (none : Option α) Q = False := propext ⟨fun ⟨_, e, _⟩ => (by cases e), False.elim⟩
theorem Wp_bind {x : Option β} {f : β → Option α} : Wp (x.bind f) Q = Wp x fun a => Wp (f a) Q := by
  cases x with
  | none => rw [Option.bind_none, Wp_none, Wp_none]
  | some b => rw [Option.bind_some, Wp_some]
theorem Wp_ite {c : Prop} [Decidable c] : Wp (if c then x else y) Q = if c then Wp x Q else Wp y Q := by split <;> rfl
theorem Wp_map {x : Option β} {f : β → α} : Wp (x.map f) Q = Wp x fun a => Q (f a) := by
  cases x with
  | none => rw [Option.map_none, Wp_none, Wp_none]
  | some b => rw [Option.map_some, Wp_some, Wp_some]
theorem Wp.eq (h : Wp x fun b => b = a) : x = some a := by
  obtain ⟨b, e, rfl⟩ := h; exact e
theorem Wp.of (h : x = some a) (k : Q a) : Wp x Q := ⟨a, h, k⟩
end
/-- what is wanted behind a loop's body -/
def FQ (I : En → Prop) (Q : PyData → Bool → Prop) : Out → Prop
  | .nx e => I e
  | .rt d f => Q d f
theorem FQ_nx {I : En → Prop} {Q : PyData → Bool → Prop} {e : En} : FQ I Q (.nx e) = I e := rfl
theorem FQ_rt {I : En → Prop} {Q : PyData → Bool → Prop} {d : PyData} {f : Bool} : FQ I Q (.rt d f) = Q d f := rfl
/-- closed under what a slot may hold -/
def Cl (I : En → Prop) : Prop := ∀ e e', Le e e' → I e → I e'
variable {Φ : Fs} {wf : Nat} {r a b : List CS} {e e1 e2 : En} {I : En → Prop} {Q : PyData → Bool → Prop} {t : TN} {c : CE}
theorem cl_and {P : Prop} {S : En} : Cl fun e' => P ∧ Le S e' := fun _ _ h ⟨p, q⟩ => ⟨p, q.trans h⟩
theorem cl_le {S : En} : Cl fun e' => Le S e' := fun _ _ h q => q.trans h
theorem cl_const {P : Prop} : Cl fun _ => P := fun _ _ _ q => q
theorem cl_ex {α : Sort _} {J : α → En → Prop} (h : ∀ x, Cl (J x)) : Cl fun e' => ∃ x, J x e' := fun e e' k ⟨x, q⟩ => ⟨x, h x e e' k q⟩
theorem cl_and2 {P : Prop} {J : En → Prop} (h : Cl J) : Cl fun e' => P ∧ J e' := fun e e' k ⟨p, q⟩ => ⟨p, h e e' k q⟩
def ow? (e : En) (i : Nat) : Option (List PyData) := match e[i]? with
  | some (.ow ds) => some ds
  | _ => none
theorem wNil : Wp (evSs Φ wf [] e) (FQ I Q) = I e := by simp only [evSs]; rw [Wp_some]; rfl
theorem wCons {s : CS} : Wp (evSs Φ wf (s :: r) e) (FQ I Q) = Wp (evS Φ wf s e) (FQ (fun e' => Wp (evSs Φ wf r e') (FQ I Q)) Q) := by
  simp only [evSs]
  rw [Wp_bind]
  congr 1
  funext o
  cases o with
  | nx e' => rfl
  | rt d f => show Wp (some (Out.rt d f)) _ = _; rw [Wp_some]; rfl
theorem wEx : Wp (evSs Φ wf (.ex c :: r) e) (FQ I Q) = Wp (evE Φ c e) fun x => Wp (evSs Φ wf r x.2.2) (FQ I Q) := by
  rw [wCons]; simp only [evS]; rw [Wp_bind]; congr 1; funext x; rw [Wp_some]; rfl
theorem wAsg : Wp (evSs Φ wf (.asg t c :: r) e) (FQ I Q) = Wp (evE Φ c e) fun x => Wp (asN t x.1 x.2.1 x.2.2) fun e' => Wp (evSs Φ wf r e') (FQ I Q) := by
  rw [wCons]; simp only [evS]; rw [Wp_bind]; congr 1; funext x; rw [Wp_bind]; congr 1; funext e'; rw [Wp_some]; rfl
theorem wApp {i : Nat} : Wp (evSs Φ wf (.app i c :: r) e) (FQ I Q) = Wp (ow? e i) fun _ => Wp (evE Φ c e) fun x => Wp (ow? x.2.2 i) fun ds => ds.length < sizeLine ∧ Wp (evSs Φ wf r (x.2.2.set i (.ow (ds ++ [x.1])))) (FQ I Q) := by
  rw [wCons]; simp only [evS, ow?]
  generalize e[i]? = o
  rcases o with _ | (_ | _ | _ | _) <;> first | rw [Wp_none, Wp_none] | skip
  rw [Wp_some, Wp_bind]
  congr 1; funext x
  generalize x.2.2[i]? = o
  rcases o with _ | (_ | _ | _ | _) <;> first | rw [Wp_none, Wp_none] | skip
  rw [Wp_some, Wp_ite, Wp_some, Wp_none]
  simp only [if_false_right]
  rfl
theorem wSto {i : Nat} {ix : CE} : Wp (evSs Φ wf (.sto i ix c :: r) e) (FQ I Q) = Wp (evE Φ c e) fun x => Wp (ow? x.2.2 i) fun _ => Wp (hdl ix (evE Φ ix x.2.2) x.2.2) fun y => Wp (fetch y.2 y.1) fun d => Wp (intOf d) fun k => Wp (setIx i k x.1 y.2) fun e' => Wp (evSs Φ wf r e') (FQ I Q) := by
  rw [wCons]; simp only [evS, ow?]; rw [Wp_bind]; congr 1; funext x
  generalize x.2.2[i]? = o
  rcases o with _ | (_ | _ | _ | _) <;> first | rw [Wp_none, Wp_none] | skip
  rw [Wp_some, Wp_bind]; congr 1; funext y; rw [Wp_bind]; congr 1; funext d; rw [Wp_bind]; congr 1; funext k; rw [Wp_bind]; congr 1; funext e'; rw [Wp_some]; rfl
def augD (e : En) (i : Nat) : Option (Option PyData) := match e[i]? with
  | some (.sh d) => some (some d)
  | some (.ow _) => some none
  | _ => none
def augK (o : Option PyData) (A : PyData → Prop) (B : Prop) : Prop := match o with
  | some d => A d
  | none => B
theorem augK_some {d : PyData} {A : PyData → Prop} {B : Prop} : augK (some d) A B = A d := rfl
theorem augK_none {A : PyData → Prop} {B : Prop} : augK none A B = B := rfl
theorem wAug {i : Nat} {o : Op2} : Wp (evSs Φ wf (.aug i o c :: r) e) (FQ I Q) = Wp (augD e i) fun q => augK q (fun d1 => Wp (hdl c (evE Φ c e) e) fun y => Wp (fetch y.2 y.1) fun d2 => Wp (aug2 o d1 d2) fun d => Wp (stN i d false y.2) fun e' => Wp (evSs Φ wf r e') (FQ I Q))
    (Wp (hdl c (evE Φ c e) e) fun y => Wp (fetch y.2 y.1) fun d2 => Wp (extF i o d2 y.2) (FQ (fun e' => Wp (evSs Φ wf r e') (FQ I Q)) Q)) := by
  rw [wCons]; simp only [evS, augD]
  generalize e[i]? = o
  rcases o with _ | (_ | _ | _ | _) <;> first | rw [Wp_none, Wp_none] | skip
  · rw [Wp_some, augK_some, Wp_bind]; congr 1; funext y; rw [Wp_bind]; congr 1; funext d; rw [Wp_bind]; congr 1; funext k; rw [Wp_bind]; congr 1; funext e'; rw [Wp_some]; rfl
  · rw [Wp_some, augK_none, Wp_bind]; congr 1; funext y; rw [Wp_bind]
theorem stE {i : Nat} {d : PyData} {fr : Bool} : stN i d fr e = (e[i]?).bind fun s => if isLk s = true then none else some (e.set i (slOf fr d)) := by
  unfold stN
  cases h : e[i]? with
  | none => rfl
  | some s => cases s <;> rfl
theorem wAugs {i : Nat} {o : Op2} {ix : CE} : Wp (evSs Φ wf (.augs i ix o c :: r) e) (FQ I Q) = Wp (ow? e i) fun _ => Wp (hdl ix (evE Φ ix e) e) fun y => Wp (fetch y.2 y.1) fun d => Wp (intOf d) fun k => Wp (ow? y.2 i) fun ds => Wp (atI ds k) fun old => Wp (hdl c (evE Φ c y.2) y.2) fun z => Wp (fetch z.2 z.1) fun d2 => Wp (intOf old) fun a => Wp (intOf d2) fun b => Wp (aug2 o (.int a) (.int b)) fun q => Wp (setIx i k q z.2) fun e' => Wp (evSs Φ wf r e') (FQ I Q) := by
  rw [wCons]; simp only [evS, ow?]
  generalize e[i]? = o
  rcases o with _ | (_ | _ | _ | _) <;> first | rw [Wp_none, Wp_none] | skip
  rw [Wp_some, Wp_bind]; congr 1; funext y; rw [Wp_bind]; congr 1; funext d; rw [Wp_bind]; congr 1; funext k
  generalize y.2[i]? = o
  rcases o with _ | (_ | _ | _ | _) <;> first | rw [Wp_none, Wp_none] | skip
  rw [Wp_some, Wp_bind]; congr 1; funext old; rw [Wp_bind]; congr 1; funext z; rw [Wp_bind]; congr 1; funext d2; rw [Wp_bind]; congr 1; funext a; rw [Wp_bind]; congr 1; funext b; rw [Wp_bind]; congr 1; funext q; rw [Wp_bind]; congr 1; funext e'; rw [Wp_some]; rfl
def retD (e : En) (i : Nat) : Option (PyData × Bool) := match e[i]? with
  | some (.sh d) => some (d, false)
  | some (.ow ds) => some (.list ds, true)
  | _ => none
theorem wRetV {i : Nat} : Wp (evSs Φ wf (.ret (.var i) :: r) e) (FQ I Q) = Wp (retD e i) fun x => Q x.1 x.2 := by
  rw [wCons]; simp only [evS, retD]
  generalize e[i]? = o
  rcases o with _ | (_ | _ | _ | _) <;> first | rw [Wp_none, Wp_none] | (rw [Wp_some, Wp_some]; rfl)
theorem wRet (h : ∀ i, c ≠ .var i) : Wp (evSs Φ wf (.ret c :: r) e) (FQ I Q) = Wp (evE Φ c e) fun x => Q x.1 x.2.1 := by
  rw [wCons]
  have : evS Φ wf (.ret c) e = (evE Φ c e).bind fun x => some (.rt x.1 x.2.1) := by cases c <;> first | (simp only [evS]; done) | exact (h _ rfl).elim
  rw [this, Wp_bind]; congr 1; funext x; rw [Wp_some]; rfl
theorem wRetn : Wp (evSs Φ wf (.retn :: r) e) (FQ I Q) = Q .none false := by
  rw [wCons]; simp only [evS]; rw [Wp_some]; rfl
theorem wIfe {c : CT} : Wp (evSs Φ wf (.ife c a b :: r) e) (FQ I Q) = Wp (evT Φ c e) fun x => if x.1 = true then Wp (evSs Φ wf a x.2) (FQ (fun e' => Wp (evSs Φ wf r e') (FQ I Q)) Q) else Wp (evSs Φ wf b x.2) (FQ (fun e' => Wp (evSs Φ wf r e') (FQ I Q)) Q) := by
  rw [wCons]; simp only [evS]; rw [Wp_bind]; congr 1; funext x; rw [Wp_ite]
theorem Wp.fn {p : CD} {ds : List PyData} (hl : ds.length = p.np) {R : PyData × Bool → Prop} (h : Wp (evSs Φ wf p.body (ds.map .sh ++ List.replicate (p.nl - p.np) .un)) (FQ (fun _ => R (.none, false)) fun d f => R (d, f))) : Wp (evD Φ wf p ds) R := by
  unfold evD
  rw [if_pos hl, Wp_bind]
  refine h.mono fun o h => ?_
  cases o with
  | nx e' => exact .ret h
  | rt d f => exact .ret h
theorem setIxE {i : Nat} {k : Int} {d : PyData} : setIx i k d e = (ow? e i).bind fun ds => (L2.ixN ds.length k).bind fun j => some (e.set i (.ow (ds.set j d))) := by
  unfold setIx ow?
  generalize e[i]? = o
  rcases o with _ | (_ | _ | _ | _) <;> rfl
theorem ixNn {n j : Nat} (h : j < n) : L2.ixN n (j : Int) = some j := by
  unfold L2.ixN
  rw [if_pos (by omega), if_pos (by omega)]
  simp
/-! expressions -/
theorem eCon {d : PyData} : evE Φ (.con d) e = some (d, false, e) := by simp only [evE]
def varD (e : En) (i : Nat) : Rs := match e[i]? with
  | some (.sh d) => some (d, false, e)
  | some (.ow ds) => some (.list ds, false, e.set i (.sh (.list ds)))
  | _ => none
theorem eVar {i : Nat} : evE Φ (.var i) e = varD e i := by simp only [evE]; rfl
theorem eBin {o : Op2} {a b : CE} : evE Φ (.bin o a b) e = (hdl a (evE Φ a e) e).bind fun x => (hdl b (evE Φ b x.2) x.2).bind fun y =>
      (fetch y.2 x.1).bind fun d1 => (fetch y.2 y.1).bind fun d2 => (op2 o d1 d2).bind fun r => some (r.1, r.2, y.2) := by simp only [evE]
theorem eNeg {a : CE} : evE Φ (.neg a) e = (hdl a (evE Φ a e) e).bind fun x => (fetch x.2 x.1).bind fun d => (intOf d).bind fun i => some (.int (-i), false, x.2) := by simp only [evE]
theorem eNott {a : CE} : evE Φ (.nott a) e = (hdl a (evE Φ a e) e).bind fun x => (fetch x.2 x.1).bind fun d => (truD d).bind fun b => some (.bool (!b), false, x.2) := by simp only [evE]
theorem eAndd {a b : CE} : evE Φ (.andd a b) e = (evE Φ a e).bind fun x => (truD x.1).bind fun t => if t = true then (evE Φ b x.2.2).bind fun y => some (y.1, false, y.2.2) else some (x.1, false, x.2.2) := by simp only [evE]
theorem eOrr {a b : CE} : evE Φ (.orr a b) e = (evE Φ a e).bind fun x => (truD x.1).bind fun t => if t = true then some (x.1, false, x.2.2) else (evE Φ b x.2.2).bind fun y => some (y.1, false, y.2.2) := by simp only [evE]
theorem eCmp {o : Cm} {a b : CE} : evE Φ (.cmp o a b) e = (hdl a (evE Φ a e) e).bind fun x => (hdl b (evE Φ b x.2) x.2).bind fun y =>
      (fetch y.2 x.1).bind fun d1 => (fetch y.2 y.1).bind fun d2 => (cmpD o d1 d2).bind fun r => some (.bool r, false, y.2) := by simp only [evE]
theorem eChain {o o2 : Cm} {a b c : CE} : evE Φ (.chain o o2 a b c) e = (hdl a (evE Φ a e) e).bind fun x => (hdl b (evE Φ b x.2) x.2).bind fun y =>
      (fetch y.2 x.1).bind fun d1 => (fetch y.2 y.1).bind fun d2 => (cmpD o d1 d2).bind fun r => if r = true then
        (hdl c (evE Φ c y.2) y.2).bind fun z => (fetch z.2 y.1).bind fun d2' => (fetch z.2 z.1).bind fun d3 => (cmpD o2 d2' d3).bind fun r2 => some (.bool r2, false, z.2)
      else some (.bool false, false, y.2) := by simp only [evE]
theorem eChain3 {o o2 o3 : Cm} {a b c d : CE} : evE Φ (.chain3 o o2 o3 a b c d) e = (hdl a (evE Φ a e) e).bind fun x => (hdl b (evE Φ b x.2) x.2).bind fun y =>
      (fetch y.2 x.1).bind fun d1 => (fetch y.2 y.1).bind fun d2 => (cmpD o d1 d2).bind fun r => if r = true then
        (hdl c (evE Φ c y.2) y.2).bind fun z => (fetch z.2 y.1).bind fun d2' => (fetch z.2 z.1).bind fun d3 => (cmpD o2 d2' d3).bind fun r2 => if r2 = true then
          (hdl d (evE Φ d z.2) z.2).bind fun u => (fetch u.2 z.1).bind fun d3' => (fetch u.2 u.1).bind fun d4 => (cmpD o3 d3' d4).bind fun r3 => some (.bool r3, false, u.2)
        else some (.bool false, false, z.2)
      else some (.bool false, false, y.2) := by simp only [evE]
theorem eIte {c : CT} {a b : CE} : evE Φ (.ite c a b) e = (evT Φ c e).bind fun x => if x.1 = true then evE Φ a x.2 else evE Φ b x.2 := by simp only [evE]
theorem eTup {es : List CE} : evE Φ (.tup es) e = (evEs Φ es e).bind fun x => if x.1.length ≤ sizeLine then some (.tuple x.1, false, x.2) else none := by simp only [evE]
theorem eLst {es : List CE} : evE Φ (.lst es) e = (evEs Φ es e).bind fun x => if x.1.length ≤ sizeLine then some (.list x.1, true, x.2) else none := by simp only [evE]
theorem eIdx {a b : CE} : evE Φ (.idx a b) e = (hdl a (evE Φ a e) e).bind fun x => (hdl b (evE Φ b x.2) x.2).bind fun y =>
      (fetch y.2 x.1).bind fun d1 => (fetch y.2 y.1).bind fun d2 => (idxD d1 d2).bind fun r => some (r, false, y.2) := by simp only [evE]
theorem eIdxm {a b : CE} : evE Φ (.idxm a b) e = (hdl a (evE Φ a e) e).bind fun x => (fetch x.2 x.1).bind fun d0 => (hdl b (evE Φ b x.2) x.2).bind fun y =>
      (fetch y.2 x.1).bind fun d1 => (fetch y.2 y.1).bind fun d2 => if sameSeq d0 d1 = true then (fIdx [d1, d2]).bind fun r => some (r.1, r.2, y.2) else none := by simp only [evE]
theorem eLenset {c : CE} : evE Φ (.lenset c) e = (hdl c (evE Φ c e) e).bind fun x => (fetch x.2 x.1).bind fun d => (lstOf d).bind fun ds => (intsOf ds).bind fun ns => if ns.Nodup ∧ ns.length ≤ 4000 then some (.int ns.length, false, x.2) else none := by simp only [evE]
theorem eJoin {s : Str} {c : CE} : evE Φ (.join s c) e = (hdl c (evE Φ c e) e).bind fun y => (fetch y.2 y.1).bind fun d2 => (joinD (.str s) d2).bind fun r => some (r, false, y.2) := by simp only [evE]
theorem eSlc {a : CE} {lo hi : Option CE} : evE Φ (.slc a lo hi) e = (hdl a (evE Φ a e) e).bind fun x => (evO Φ lo x.2).bind fun y => (evO Φ hi y.2).bind fun z =>
      (fetch z.2 x.1).bind fun d => (slcD d y.1 z.1).bind fun r => some (r.1, r.2, z.2) := by simp only [evE]
theorem eRev {a : CE} : evE Φ (.rev a) e = (hdl a (evE Φ a e) e).bind fun x => (fetch x.2 x.1).bind fun d => (revD d).bind fun r => some (r.1, r.2, x.2) := by simp only [evE]
theorem eCall {f : Nat} {es : List CE} : evE Φ (.call f es) e = (evHs Φ es e).bind fun x => (fetchs x.2 x.1).bind fun ds => (Φ f ds).bind fun r => aft r.1 r.2 x.2 := by simp only [evE]
theorem eFn {b : Fn} {es : List CE} : evE Φ (.fn b es) e = (evHs Φ es e).bind fun x => (fetchs x.2 x.1).bind fun ds => (fnD b ds).bind fun r => some (r.1, r.2, x.2) := by simp only [evE]
theorem ePop {i : Nat} : evE Φ (.pop i) e = (ow? e i).bind fun ds => (ds.getLast?).bind fun d => some (d, false, e.set i (.ow ds.dropLast)) := by
  simp only [evE, ow?]
  generalize e[i]? = o
  rcases o with _ | (_ | _ | _ | _) <;> rfl
theorem ePopAt {i : Nat} {c : CE} : evE Φ (.popAt i c) e = (ow? e i).bind fun _ => (hdl c (evE Φ c e) e).bind fun x => (fetch x.2 x.1).bind fun d => (intOf d).bind fun k => (ow? x.2 i).bind fun ds => (L2.ixN ds.length k).bind fun j => (ds[j]?).bind fun d => some (d, false, x.2.set i (.ow (ds.eraseIdx j))) := by
  simp only [evE, ow?]
  generalize e[i]? = o
  rcases o with _ | (_ | _ | _ | _) <;> first | rfl | skip
  show Option.bind _ _ = Option.bind _ _
  congr 1; funext x; congr 1; funext d; congr 1; funext k
  generalize x.2[i]? = o
  rcases o with _ | (_ | _ | _ | _) <;> rfl
theorem tVal {c : CE} : evT Φ (.val c) e = (hdl c (evE Φ c e) e).bind fun x => (fetch x.2 x.1).bind fun d => (truD d).bind fun b => some (b, x.2) := by simp only [evT]
theorem tAndd {a b : CT} : evT Φ (.andd a b) e = (evT Φ a e).bind fun x => if x.1 = true then evT Φ b x.2 else some (false, x.2) := by simp only [evT]
theorem tOrr {a b : CT} : evT Φ (.orr a b) e = (evT Φ a e).bind fun x => if x.1 = true then some (true, x.2) else evT Φ b x.2 := by simp only [evT]
theorem tNott {a : CT} : evT Φ (.nott a) e = (evT Φ a e).bind fun x => some (!x.1, x.2) := by simp only [evT]
theorem toNone : evTo Φ none e = some (true, e) := by simp only [evTo]
theorem toSome {c : CT} : evTo Φ (some c) e = evT Φ c e := by simp only [evTo]
theorem oNone : evO Φ none e = some (none, e) := by simp only [evO]
theorem oSome {c : CE} : evO Φ (some c) e = (hdl c (evE Φ c e) e).bind fun x => (fetch x.2 x.1).bind fun d => (intOf d).bind fun i => some (some i, x.2) := by simp only [evO]
theorem esNil : evEs Φ [] e = some ([], e) := by simp only [evEs]
theorem esCons {c : CE} {r : List CE} : evEs Φ (c :: r) e = (evE Φ c e).bind fun x => (evEs Φ r x.2.2).bind fun y => some (x.1 :: y.1, y.2) := by simp only [evEs]
theorem hsNil : evHs Φ [] e = some ([], e) := by simp only [evHs]
theorem hsCons {c : CE} {r : List CE} : evHs Φ (c :: r) e = (hdl c (evE Φ c e) e).bind fun x => (evHs Φ r x.2).bind fun y => some (x.1 :: y.1, y.2) := by simp only [evHs]
theorem iSeq {c : CE} : evI Φ (.seq c) e = (hdl c (evE Φ c e) e).bind fun x => (fetch x.2 x.1).bind fun d => (itemsOf d).bind fun ds => some (ds, lock x.1 x.2) := by simp only [evI]
def rgq (i : Int) : Option Unit := if rgOk i = true then some () else none
theorem iRng1 {a : CE} : evI Φ (.rng1 a) e = (hdl a (evE Φ a e) e).bind fun x => (fetch x.2 x.1).bind fun d => (intOf d).bind fun i => (rgq i).bind fun _ => some (rgD 0 i, [], x.2) := by
  simp only [evI]
  congr 1; funext x; congr 1; funext d; congr 1; funext i
  unfold rgq
  cases rgOk i <;> rfl
theorem iRng2 {a b : CE} : evI Φ (.rng2 a b) e = (hdl a (evE Φ a e) e).bind fun x => (hdl b (evE Φ b x.2) x.2).bind fun y => (fetch y.2 x.1).bind fun d => (intOf d).bind fun i => (fetch y.2 y.1).bind fun d' => (intOf d').bind fun j =>
      (rgq i).bind fun _ => (rgq j).bind fun _ => some (rgD i j, [], y.2) := by
  simp only [evI]
  congr 1; funext x; congr 1; funext y; congr 1; funext d; congr 1; funext i; congr 1; funext d'; congr 1; funext j
  unfold rgq
  cases rgOk i <;> cases rgOk j <;> rfl
theorem iEnm {c : CE} : evI Φ (.enm c) e = (hdl c (evE Φ c e) e).bind fun x => (fetch x.2 x.1).bind fun d => (enmOf d).bind fun ds => some (ds.mapIdx (fun i d => .tuple [.int i, d]), lock x.1 x.2) := by simp only [evI]
theorem iZip {a b : CE} : evI Φ (.zip a b) e = (hdl a (evE Φ a e) e).bind fun x => (hdl b (evE Φ b x.2) x.2).bind fun y => (fetch y.2 x.1).bind fun d => (fetch y.2 y.1).bind fun d' => (zipOf d d').bind fun ds =>
      some (ds, (lock x.1 y.2).1 ++ (lock y.1 (lock x.1 y.2).2).1, (lock y.1 (lock x.1 y.2).2).2) := by simp only [evI]
/-! handles -/
def hvar (e : En) (i : Nat) : Option (Hd × En) := match e[i]? with
  | some (.sh d) => some (.val d, e)
  | some (.ow _) => some (.slot i, e)
  | some (.lk _) => some (.slot i, e)
  | _ => none
section
variable {x : Rs}
theorem hVar {i : Nat} : hdl (.var i) x e = hvar e i := rfl
theorem hCon {d : PyData} : hdl (.con d) x e = x.bind fun x => some (.val x.1, x.2.2) := rfl
theorem hBin {o : Op2} {a b : CE} : hdl (.bin o a b) x e = x.bind fun x => some (.val x.1, x.2.2) := rfl
theorem hNeg {a : CE} : hdl (.neg a) x e = x.bind fun x => some (.val x.1, x.2.2) := rfl
theorem hNott {a : CE} : hdl (.nott a) x e = x.bind fun x => some (.val x.1, x.2.2) := rfl
theorem hAndd {a b : CE} : hdl (.andd a b) x e = x.bind fun x => some (.val x.1, x.2.2) := rfl
theorem hOrr {a b : CE} : hdl (.orr a b) x e = x.bind fun x => some (.val x.1, x.2.2) := rfl
theorem hCmp {o : Cm} {a b : CE} : hdl (.cmp o a b) x e = x.bind fun x => some (.val x.1, x.2.2) := rfl
theorem hChain {o o2 : Cm} {a b c : CE} : hdl (.chain o o2 a b c) x e = x.bind fun x => some (.val x.1, x.2.2) := rfl
theorem hChain3 {o o2 o3 : Cm} {a b c d : CE} : hdl (.chain3 o o2 o3 a b c d) x e = x.bind fun x => some (.val x.1, x.2.2) := rfl
theorem hIte {c : CT} {a b : CE} : hdl (.ite c a b) x e = x.bind fun x => some (.val x.1, x.2.2) := rfl
theorem hTup {es : List CE} : hdl (.tup es) x e = x.bind fun x => some (.val x.1, x.2.2) := rfl
theorem hLst {es : List CE} : hdl (.lst es) x e = x.bind fun x => some (.val x.1, x.2.2) := rfl
theorem hIdx {a b : CE} : hdl (.idx a b) x e = x.bind fun x => some (.val x.1, x.2.2) := rfl
theorem hIdxm {a b : CE} : hdl (.idxm a b) x e = x.bind fun x => some (.val x.1, x.2.2) := rfl
theorem hLenset {a : CE} : hdl (.lenset a) x e = x.bind fun x => some (.val x.1, x.2.2) := rfl
theorem hJoin {s : Str} {a : CE} : hdl (.join s a) x e = x.bind fun x => some (.val x.1, x.2.2) := rfl
theorem hSlc {a : CE} {lo hi : Option CE} : hdl (.slc a lo hi) x e = x.bind fun x => some (.val x.1, x.2.2) := rfl
theorem hRev {a : CE} : hdl (.rev a) x e = x.bind fun x => some (.val x.1, x.2.2) := rfl
theorem hCall {f : Nat} {es : List CE} : hdl (.call f es) x e = x.bind fun x => some (.val x.1, x.2.2) := rfl
theorem hFn {f : Fn} {es : List CE} : hdl (.fn f es) x e = x.bind fun x => some (.val x.1, x.2.2) := rfl
theorem hLc {elt : CE} {t : TN} {it : CI} {ifs : Option CT} {own : List Nat} : hdl (.lc elt t it ifs own) x e = x.bind fun x => some (.val x.1, x.2.2) := rfl
theorem hGq {al : Bool} {elt : CE} {t : TN} {it : CI} {ifs : Option CT} {own : List Nat} : hdl (.gq al elt t it ifs own) x e = x.bind fun x => some (.val x.1, x.2.2) := rfl
theorem hPop {i : Nat} : hdl (.pop i) x e = x.bind fun x => some (.val x.1, x.2.2) := rfl
theorem hPopAt {i : Nat} {c : CE} : hdl (.popAt i c) x e = x.bind fun x => some (.val x.1, x.2.2) := rfl
end
theorem fVal {d : PyData} : fetch e (.val d) = some d := rfl
theorem stN_eq {i : Nat} {d : PyData} {fr : Bool} : stN i d fr e = (e[i]?).bind fun s => if isLk s = true then none else some (e.set i (slOf fr d)) := by
  unfold stN
  cases h : e[i]? with
  | none => rfl
  | some s => cases s <;> rfl
theorem asn1 {i : Nat} {d : PyData} {fr : Bool} : asN (.nm i) d fr e = (e[i]?).bind fun s => if isLk s = true then none else some (e.set i (slOf fr d)) := by rw [asN, stN_eq]
theorem asnT {ts : List TN} {ds : List PyData} {fr : Bool} : asN (.tup ts) (.tuple ds) fr e = asNs ts ds e := by rw [asN]
theorem asnN : asNs [] [] e = some e := by rw [asNs]
theorem asnC {t : TN} {ts : List TN} {d : PyData} {ds : List PyData} : asNs (t :: ts) (d :: ds) e = (asN t d false e).bind fun e' => asNs ts ds e' := by rw [asNs]
theorem lkU : isLk .un = false := rfl
theorem lkS {d : PyData} : isLk (.sh d) = false := rfl
theorem lkO {d : List PyData} : isLk (.ow d) = false := rfl
theorem lkL {d : List PyData} : isLk (.lk d) = true := rfl
theorem slF {d : PyData} : slOf false d = .sh d := rfl
theorem slL {d : List PyData} : slOf true (.list d) = .ow d := rfl
theorem leC {s : Sl} {e e' : En} : Le (s :: e) (s :: e') = Le e e' := propext ⟨fun h => h.2, fun h => ⟨.refl s, h⟩⟩
theorem leU {s : Sl} {e e' : En} (h : isLk s = false) : Le (.un :: e) (s :: e') = Le e e' := propext ⟨fun h => h.2, fun k => ⟨.un h, k⟩⟩
theorem leUs {d : PyData} {e e' : En} : Le (.un :: e) (.sh d :: e') = Le e e' := leU rfl
theorem leUo {d : List PyData} {e e' : En} : Le (.un :: e) (.ow d :: e') = Le e e' := leU rfl
theorem leN : Le [] [] = True := rfl
theorem leS {d d' : PyData} {e e' : En} : Le (.sh d :: e) (.sh d' :: e') = (d = d' ∧ Le e e') := propext ⟨fun h => ⟨by cases h.1; rfl, h.2⟩, fun ⟨h, k⟩ => by cases h; exact ⟨.refl _, k⟩⟩
theorem leO {d d' : List PyData} {e e' : En} : Le (.ow d :: e) (.ow d' :: e') = (d = d' ∧ Le e e') := propext ⟨fun h => ⟨by cases h.1; rfl, h.2⟩, fun ⟨h, k⟩ => by cases h; exact ⟨.refl _, k⟩⟩
theorem leL {d d' : List PyData} {e e' : En} : Le (.lk d :: e) (.lk d' :: e') = (d = d' ∧ Le e e') := propext ⟨fun h => ⟨by cases h.1; rfl, h.2⟩, fun ⟨h, k⟩ => by cases h; exact ⟨.refl _, k⟩⟩
/-! operators -/
theorem rAdd {i j : Int} : op2 .add (.int i) (.int j) = some (.int (i + j), false) := rfl
theorem rAddL {i j : List PyData} : op2 .add (.list i) (.list j) = if i.length + j.length ≤ sizeLine then some (.list (i ++ j), true) else none := rfl
theorem rAddT {i j : List PyData} : op2 .add (.tuple i) (.tuple j) = if i.length + j.length ≤ sizeLine then some (.tuple (i ++ j), false) else none := rfl
theorem rAddS {i j : Str} : op2 .add (.str i) (.str j) = if i.length + j.length ≤ sizeLine then some (.str (i ++ j), false) else none := rfl
theorem rSub {i j : Int} : op2 .sub (.int i) (.int j) = some (.int (i - j), false) := rfl
def mulOk (i j : Int) : Prop := i.natAbs.log2 + j.natAbs.log2 < 1000000
instance {i j : Int} : Decidable (mulOk i j) := inferInstanceAs (Decidable (_ < _))
theorem rMul {i j : Int} : op2 .mul (.int i) (.int j) = if mulOk i j then some (.int (i * j), false) else none := rfl
def divOk2 (j : Int) : Prop := j ≠ 0 ∧ j.natAbs < 1073741824
instance {j : Int} : Decidable (divOk2 j) := inferInstanceAs (Decidable (_ ∧ _))
theorem fdiv_pos {i j : Int} (h : 0 < j) (h2 : j < 1073741824) : op2 .fdiv (.int i) (.int j) = some (.int (i / j), false) := by
  show (if j ≠ 0 ∧ j.natAbs < 1073741824 then _ else _) = _
  rw [if_pos ⟨by omega, by omega⟩, Int.fdiv_eq_ediv_of_nonneg _ (by omega)]
theorem mod_pos {i j : Int} (h : 0 < j) : op2 .mod (.int i) (.int j) = some (.int (i % j), false) := by
  show (if j ≠ 0 then _ else _) = _
  rw [if_pos (by omega), Int.fmod_eq_emod_of_nonneg _ (by omega)]
theorem rPow {i j : Int} : op2 .pow (.int i) (.int j) = if 0 ≤ j ∧ j ≤ 1000000 ∧ i.natAbs < 2 ^ 64 then some (.int (i ^ j.toNat), false) else none := rfl
theorem aAdd {i j : Int} : aug2 .add (.int i) (.int j) = some (.int (i + j)) := rfl
theorem aSub {i j : Int} : aug2 .sub (.int i) (.int j) = some (.int (i - j)) := rfl
theorem aAddS {i j : Str} : aug2 .add (.str i) (.str j) = if i.length + j.length ≤ sizeLine then some (.str (i ++ j)) else none := rfl
theorem cLt {i j : Int} : cmpD .lt (.int i) (.int j) = some (decide (i < j)) := rfl
theorem cLe {i j : Int} : cmpD .le (.int i) (.int j) = some (decide (i ≤ j)) := rfl
theorem cGt {i j : Int} : cmpD .gt (.int i) (.int j) = some (decide (j < i)) := rfl
theorem cGe {i j : Int} : cmpD .ge (.int i) (.int j) = some (decide (j ≤ i)) := rfl
theorem cEqI {i j : Int} : cmpD .eq (.int i) (.int j) = some (decide (i = j)) := by
  show some (i == j) = _
  congr 1
theorem cNeI {i j : Int} : cmpD .ne (.int i) (.int j) = some (!decide (i = j)) := by
  show some (!(i == j)) = _
  congr 1
theorem cEqB {i j : Bool} : cmpD .eq (.bool i) (.bool j) = some (i == j) := rfl
theorem cNeB {i j : Bool} : cmpD .ne (.bool i) (.bool j) = some (!(i == j)) := rfl
theorem truI {i : Int} : truD (.int i) = some (!decide (i = 0)) := by show some (i != 0) = _; congr 1
theorem truB {b : Bool} : truD (.bool b) = some b := rfl
theorem truL {ds : List PyData} : truD (.list ds) = some (!ds.isEmpty) := rfl
theorem truT {ds : List PyData} : truD (.tuple ds) = some (!ds.isEmpty) := rfl
theorem truN : truD .none = some false := rfl
theorem intI {i : Int} : intOf (.int i) = some i := rfl
theorem ixL {ds : List PyData} {i : Int} : idxD (.list ds) (.int i) = atI ds i := rfl
theorem ixT {ds : List PyData} {i : Int} : idxD (.tuple ds) (.int i) = atI ds i := rfl
theorem atN {α : Type} {xs : List α} {i : Nat} : atI xs (i : Int) = xs[i]? := by
  cases h : xs[i]? with
  | none =>
    have hl : xs.length ≤ i := List.getElem?_eq_none_iff.mp h
    unfold atI L2.ixN
    rw [if_pos (by omega), if_neg (by omega)]
    rfl
  | some x => exact atI_nat h
theorem atM {α : Type} {xs : List α} : atI xs (-1) = xs[xs.length - 1]? := by
  unfold atI L2.ixN
  rw [if_neg (by omega)]
  split
  · show xs[((-1 : Int) + xs.length).toNat]? = _
    congr 1
    omega
  · have : xs = [] := List.eq_nil_of_length_eq_zero (by omega)
    subst this
    rfl
theorem at0 {α : Type} {xs : List α} : atI xs 0 = xs[0]? := atN (i := 0)
theorem at1 {α : Type} {xs : List α} : atI xs 1 = xs[1]? := atN (i := 1)
theorem at2 {α : Type} {xs : List α} : atI xs 2 = xs[2]? := atN (i := 2)
theorem atZ {α : Type} {xs : List α} {i : Int} (h : 0 ≤ i) : atI xs i = xs[i.toNat]? := by
  obtain ⟨n, rfl⟩ := Int.eq_ofNat_of_zero_le h
  exact atN
theorem atL {α : Type} {xs : List α} {n : Nat} : L2.atI xs (no_index (OfNat.ofNat n) : Int) = xs[n]? := atN
theorem atPlus {α : Type} {xs : List α} {n k : Nat} : L2.atI xs ((no_index (OfNat.ofNat n) : Int) + (k : Int)) = xs[n + k]? := by
  have : ((OfNat.ofNat n : Int) + (k : Int)) = ((n + k : Nat) : Int) := by
    show ((n : Int) + (k : Int)) = _
    omega
  rw [this, atN]
theorem atPlus2 {α : Type} {xs : List α} {n k : Nat} : L2.atI xs ((k : Int) + (no_index (OfNat.ofNat n) : Int)) = xs[k + n]? := by
  have : ((k : Int) + (OfNat.ofNat n : Int)) = ((k + n : Nat) : Int) := by
    show ((k : Int) + (n : Int)) = _
    omega
  rw [this, atN]
theorem rgD_nat {n : Nat} : rgD 0 (n : Int) = (List.range n).map fun (k : Nat) => PyData.int k := by
  unfold rgD
  simp
theorem rgD_pred {n : Nat} : rgD 0 ((n : Int) - 1) = (List.range (n - 1)).map fun (k : Nat) => PyData.int k := by
  unfold rgD
  have : ((n : Int) - 1 - 0).toNat = n - 1 := by omega
  rw [this]
  simp
theorem rgD_succ {n : Nat} : rgD 0 ((n : Int) + 1) = (List.range (n + 1)).map fun (k : Nat) => PyData.int k := rgD_nat (n := n + 1)
theorem fnLenL {ds : List PyData} : fnD .len [.list ds] = some (.int ds.length, false) := rfl
theorem fnLenT {ds : List PyData} : fnD .len [.tuple ds] = some (.int ds.length, false) := rfl
theorem fnLenF {ds : List PyData} : fnD .len [.dict [(.none, .list ds)]] = some (.int ds.length, false) := rfl
theorem fnLenS {x : Str} : fnD .len [.str x] = if x.length ≤ sizeLine then some (.int x.length, false) else none := rfl
theorem fnAbs {i : Int} : fnD .abs [.int i] = some (.int i.natAbs, false) := rfl
theorem fnInt {i : Int} : fnD .int [.int i] = some (.int i, false) := rfl
theorem fnList {ds : List PyData} : fnD .list [.list ds] = some (.list ds, true) := rfl
theorem fnListT {ds : List PyData} : fnD .list [.tuple ds] = some (.list ds, true) := rfl
theorem fnTuple {ds : List PyData} : fnD .tuple [.list ds] = some (.tuple ds, false) := rfl
theorem fnTupleT {ds : List PyData} : fnD .tuple [.tuple ds] = some (.tuple ds, false) := rfl
theorem fnMax2 {i j : Int} : fnD .max [.int i, .int j] = some (.int (max i j), false) := rfl
theorem fnMin2 {i j : Int} : fnD .min [.int i, .int j] = some (.int (min i j), false) := rfl
theorem fnSorted {ds : List PyData} : fnD .sorted [.list ds] = if sortOk ds = true then some (.list (ds.mergeSort (PySem.W.dataLe false id)), true) else none := rfl
theorem fnSortedT {ds : List PyData} : fnD .sorted [.tuple ds] = fnD .sorted [.list ds] := rfl
theorem intsOf_ints (ns : List Int) : intsOf (ns.map .int) = some ns := by
  induction ns with
  | nil => rfl
  | cons n ns ih => show (intsOf (ns.map .int)).bind _ = _; rw [ih]; rfl
theorem boolsOf_bools (ns : List Bool) : boolsOf (ns.map .bool) = some ns := by
  induction ns with
  | nil => rfl
  | cons n ns ih => show (boolsOf (ns.map .bool)).bind _ = _; rw [ih]; rfl
theorem strsOf_strs (ns : List Str) : strsOf (ns.map .str) = some ns := by
  induction ns with
  | nil => rfl
  | cons n ns ih => show (strsOf (ns.map .str)).bind _ = _; rw [ih]; rfl
theorem fnSumL {ds : List PyData} : fnD .sum [.list ds] = (intsOf ds).bind fun ns => some (.int ns.sum, false) := rfl
theorem fnSumT {ds : List PyData} : fnD .sum [.tuple ds] = (intsOf ds).bind fun ns => some (.int ns.sum, false) := rfl
theorem fnMaxL {ds : List PyData} : fnD .max [.list ds] = (intsOf ds).bind fun ns => (maxI ns).bind fun m => some (.int m, false) := rfl
theorem fnMaxT {ds : List PyData} : fnD .max [.tuple ds] = (intsOf ds).bind fun ns => (maxI ns).bind fun m => some (.int m, false) := rfl
theorem fnMinL {ds : List PyData} : fnD .min [.list ds] = (intsOf ds).bind fun ns => (minI ns).bind fun m => some (.int m, false) := rfl
theorem fnMinT {ds : List PyData} : fnD .min [.tuple ds] = (intsOf ds).bind fun ns => (minI ns).bind fun m => some (.int m, false) := rfl
theorem fnAllL {ds : List PyData} : fnD .all [.list ds] = (boolsOf ds).bind fun bs => some (.bool (bs.all id), false) := rfl
theorem fnAnyL {ds : List PyData} : fnD .any [.list ds] = (boolsOf ds).bind fun bs => some (.bool (bs.any id), false) := rfl
theorem fnIsNone {d : PyData} : fnD .isNone [d] = fNone true [d] := rfl
theorem fnNotNone {d : PyData} : fnD .notNone [d] = fNone false [d] := rfl
theorem fnIsInt {d : PyData} : fnD .isInt [d] = fIs "int" [d] := rfl
theorem fnIsBool {d : PyData} : fnD .isBool [d] = fIs "bool" [d] := rfl
theorem fnIsStr {d : PyData} : fnD .isStr [d] = fIs "str" [d] := rfl
theorem fnIsTup {d : PyData} : fnD .isTup [d] = fIs "tuple" [d] := rfl
section
variable {b : Bool} {n : String}
theorem nN : fNone b [.none] = some (.bool b, false) := rfl
theorem nI {i : Int} : fNone b [.int i] = some (.bool (!b), false) := rfl
theorem nB {i : Bool} : fNone b [.bool i] = some (.bool (!b), false) := rfl
theorem nS {i : Str} : fNone b [.str i] = some (.bool (!b), false) := rfl
theorem nL {i : List PyData} : fNone b [.list i] = some (.bool (!b), false) := rfl
theorem nT {i : List PyData} : fNone b [.tuple i] = some (.bool (!b), false) := rfl
end
theorem itmL {ds : List PyData} : itemsOf (.list ds) = some ds := rfl
theorem itmT {ds : List PyData} : itemsOf (.tuple ds) = some ds := rfl
theorem itmS {x : Str} : itemsOf (.str x) = some (x.cps.toList.map fun c => .str ⟨#[c]⟩) := rfl
theorem enmL' {ds : List PyData} : enmOf (.list ds) = some ds := rfl
theorem enmS' {x : Str} : enmOf (.str x) = some (x.cps.toList.map fun c => .str ⟨#[c]⟩) := rfl
theorem lckV {d : PyData} : lock (.val d) e = ([], e) := rfl
theorem aftN {d : PyData} {fr : Bool} (h : noal d fr = true) : aft d fr e = some (d, fr, e) := if_pos h
theorem rgOk_of {i : Int} (h : -1000000000 ≤ i) (h' : i ≤ 1000000000) : rgOk i = true := decide_eq_true ⟨by omega, by omega⟩
theorem rgq_of {i : Int} (h : -1000000000 ≤ i) (h' : i ≤ 1000000000) : rgq i = some () := by
  unfold rgq
  rw [rgOk_of h h']
  rfl
theorem lfrees_ints (ns : List Int) : lfrees (ns.map .int) = true := by
  induction ns with
  | nil => simp [lfrees]
  | cons n ns ih => simpa [lfrees, lfree] using ih
theorem lfrees_map {α : Type} (f : α → PyData) (l : List α) (h : ∀ a, lfree (f a) = true) : lfrees (l.map f) = true := by
  induction l with
  | nil => simp [lfrees]
  | cons n ns ih => simp [lfrees, h, ih]
theorem snoc_ind {α : Type} {P : List α → Prop} (h0 : P []) (h1 : ∀ l a, P l → P (l ++ [a])) : ∀ l, P l := fun l => by
  have key : ∀ r : List α, P r.reverse := fun r => by
    induction r with
    | nil => exact h0
    | cons a r ih => rw [List.reverse_cons]; exact h1 _ _ ih
  have := key l.reverse
  rwa [List.reverse_reverse] at this
theorem slcT {ds : List PyData} {lo hi : Option Int} : slcD (.tuple ds) lo hi = some (.tuple (cutD ds lo hi), false) := rfl
theorem slcL {ds : List PyData} {lo hi : Option Int} : slcD (.list ds) lo hi = some (.list (cutD ds lo hi), true) := rfl
theorem slcS {x : Str} {lo hi : Option Int} : slcD (.str x) lo hi = if x.length ≤ sizeLine then some (.str ⟨(cutD x.cps.toList lo hi).toArray⟩, false) else none := rfl
theorem szN {n : Nat} (h : n ≤ 16777216) : n ≤ sizeLine := h
theorem szL {n : Nat} (h : n < 16777216) : n < sizeLine := h
theorem log_lt {i : Int} (h : -18446744073709551616 < i) (h' : i < 18446744073709551616) : i.natAbs.log2 < 64 := by
  by_cases z : i.natAbs = 0
  · rw [z]; decide
  · exact (Nat.log2_lt z).mpr (by omega)
theorem mulOk_of {i j : Int} (h1 : -18446744073709551616 < i) (h2 : i < 18446744073709551616) (h3 : -18446744073709551616 < j) (h4 : j < 18446744073709551616) : mulOk i j := by
  have := log_lt h1 h2
  have := log_lt h3 h4
  unfold mulOk
  omega
theorem mulOk_big {i j : Int} {k : Nat} (hk : k ≤ 900000) (h : i.natAbs < 2 ^ k) (h3 : -18446744073709551616 < j) (h4 : j < 18446744073709551616) : mulOk i j := by
  have := log_lt h3 h4
  have : i.natAbs.log2 < k + 1 := by
    by_cases z : i.natAbs = 0
    · rw [z]; exact Nat.zero_lt_succ _
    · exact Nat.lt_succ_of_lt ((Nat.log2_lt z).mpr h)
  unfold mulOk
  omega
/-! ### loops -/
theorem wMono (hI : Cl I) {ss : List CS} (h : Le e e2) (k : Wp (evSs Φ wf ss e) (FQ I Q)) : Wp (evSs Φ wf ss e2) (FQ I Q) := by
  obtain ⟨o, h1, h2⟩ := k
  obtain ⟨o', h3, h4⟩ := evSs_le (Φ := Φ) (Φ' := Φ) (fun f ds a ha => ⟨a, ha, rfl⟩) wf ss h o h1
  refine ⟨o', h3, ?_⟩
  cases o <;> cases o' <;> first | exact h4.elim | skip
  · exact hI _ _ h4 h2
  · obtain ⟨rfl, rfl⟩ := h4
    exact h2
theorem bMono (hI : Cl I) {ss : List CS} {d : PyData} (h : Le e e2) (k : Wp (asN t d false e) fun e => Wp (evSs Φ wf ss e) (FQ I Q)) : Wp (asN t d false e2) fun e => Wp (evSs Φ wf ss e) (FQ I Q) := by
  obtain ⟨o, h1, h2⟩ := k
  obtain ⟨o', h3, h4⟩ := asN_le t h d false o h1
  exact ⟨o', h3, wMono hI h4 h2⟩
theorem tMono (hI : Cl I) {c : CT} {body : List CS} {J : En → Prop} (hJ : Cl J) (h : Le e e2) (k : Wp (evT Φ c e) fun x => if x.1 = true then Wp (evSs Φ wf body x.2) (FQ J Q) else Wp (evSs Φ wf r x.2) (FQ I Q)) :
    Wp (evT Φ c e2) fun x => if x.1 = true then Wp (evSs Φ wf body x.2) (FQ J Q) else Wp (evSs Φ wf r x.2) (FQ I Q) := by
  obtain ⟨o, h1, h2⟩ := k
  obtain ⟨o', h3, h4, h5⟩ := evT_le (Φ := Φ) (Φ' := Φ) (fun f ds a ha => ⟨a, ha, rfl⟩) c h o h1
  refine ⟨o', h3, ?_⟩
  show if o'.1 = true then _ else _
  rw [← h4]
  replace h2 : if o.1 = true then Wp (evSs Φ wf body o.2) (FQ J Q) else Wp (evSs Φ wf r o.2) (FQ I Q) := h2
  split at h2
  · rename_i hx; rw [if_pos hx]; exact wMono hJ h5 h2
  · rename_i hx; rw [if_neg hx]; exact wMono hI h5 h2
theorem forL_pre {α : Type} {step : PyData → En → Option Out} {enc : α → PyData} {J : List α → En → Prop} : ∀ (as pre : List α) (e : En), J pre e →
    (∀ (p : List α) (a : α) (q : List α) (e : En), pre ++ as = p ++ a :: q → J p e → Wp (step (enc a) e) (FQ (J (p ++ [a])) Q)) → Wp (forL step (as.map enc) e) (FQ (J (pre ++ as)) Q)
  | [], pre, e, h, _ => by
    rw [List.append_nil]
    exact Wp.ret (show FQ _ _ (.nx e) from h)
  | a :: as, pre, e, h, hs => by
    show Wp ((step (enc a) e).bind _) _
    rw [Wp_bind]
    refine (hs pre a as e rfl h).mono fun o ho => ?_
    cases o with
    | rt d f => exact .ret ho
    | nx e1 =>
      have := forL_pre as (pre ++ [a]) e1 ho fun p b q e z => hs p b q e (by rw [← z]; simp)
      rw [show pre ++ a :: as = pre ++ [a] ++ as by simp]
      exact this
/-- a loop over items: P what is known behind the turns pre of the state s, S the slots -/
theorem Wp.forS {α σ : Type} {it : CI} {body : List CS} {as : List α} {enc : α → PyData} (lks : List Nat) (P : List α → σ → Prop) (S : List α → σ → En) (s0 : σ)
    (hi : Wp (evI Φ it e) fun x => x.1 = as.map enc ∧ x.2.1 = lks ∧ P [] s0 ∧ Le (S [] s0) x.2.2)
    (hs : ∀ (p : List α) (a : α) (q : List α) (s : σ), as = p ++ a :: q → P p s → Wp (asN t (enc a) false (S p s)) fun e => Wp (evSs Φ wf body e) (FQ (fun e' => ∃ s', P (p ++ [a]) s' ∧ Le (S (p ++ [a]) s') e') Q))
    (k : ∀ s, P as s → Wp (evSs Φ wf r (unls lks (S as s))) (FQ I Q)) (hI : Cl I) : Wp (evSs Φ wf (.forr t it body :: r) e) (FQ I Q) := by
  obtain ⟨⟨ds, lk, e1⟩, hi, h1, h2, h0⟩ := hi
  simp only at h1 h2 h0
  subst h1 h2
  rw [wCons]
  simp only [evS]
  rw [hi, Option.bind_some, Wp_bind]
  refine (forL_pre (Q := Q) (J := fun p e' => ∃ s, P p s ∧ Le (S p s) e') as [] e1 ⟨s0, h0⟩ fun p a q e z ⟨s, hp, hl⟩ => ?_).mono fun o ho => ?_
  · rw [Wp_bind]
    exact bMono (cl_ex fun s' => cl_and) hl (hs p a q s z hp)
  · cases o with
    | rt d f => exact .ret ho
    | nx e2 =>
      obtain ⟨s, h1, h2⟩ := (show ∃ s, P ([] ++ as) s ∧ Le (S ([] ++ as) s) e2 from ho)
      rw [List.nil_append] at h1 h2
      refine .ret ?_
      exact wMono hI (unls_le _ h2) (k s h1)
theorem Wp.forP {α : Type} {it : CI} {body : List CS} {as : List α} {enc : α → PyData} (lks : List Nat) (P : List α → Prop) (S : List α → En)
    (hi : Wp (evI Φ it e) fun x => x.1 = as.map enc ∧ x.2.1 = lks ∧ P [] ∧ Le (S []) x.2.2)
    (hs : ∀ (p : List α) (a : α) (q : List α), as = p ++ a :: q → P p → Wp (asN t (enc a) false (S p)) fun e => Wp (evSs Φ wf body e) (FQ (fun e' => P (p ++ [a]) ∧ Le (S (p ++ [a])) e') Q))
    (k : P as → Wp (evSs Φ wf r (unls lks (S as))) (FQ I Q)) (hI : Cl I) : Wp (evSs Φ wf (.forr t it body :: r) e) (FQ I Q) := by
  refine Wp.forS (σ := Unit) lks (fun p _ => P p) (fun p _ => S p) () hi (fun p a q _ z hp => ?_) (fun _ h => k h) hI
  refine (hs p a q z hp).mono fun e h => h.mono fun o ho => ?_
  cases o with
  | rt d f => exact ho
  | nx e => exact ⟨(), ho⟩
theorem whL_P {α : Type} {tst : En → Option (Bool × En)} {body : En → Option Out} {J : α → En → Prop} {m : α → Nat} (hs : ∀ (s : α) (e : En), J s e → Wp (tst e) fun x => if x.1 = true then Wp (body x.2) (FQ (fun e' => ∃ s', m s' < m s ∧ J s' e') Q) else I x.2) : ∀ (fuel : Nat) (s : α) (e : En), J s e → m s < fuel →
    Wp (whL tst body fuel e) (FQ I Q)
  | 0, s, e, h, hf => by omega
  | fuel + 1, s, e, h, hf => by
    show Wp ((tst e).bind _) _
    rw [Wp_bind]
    refine (hs s e h).mono fun x h1 => ?_
    split at h1
    · rename_i hx
      rw [if_pos hx, Wp_bind]
      refine h1.mono fun o h2 => ?_
      cases o with
      | rt d f => exact .ret h2
      | nx e' =>
        obtain ⟨s', hm, hJ⟩ := (show ∃ s', m s' < m s ∧ J s' e' from h2)
        exact whL_P hs fuel s' e' hJ (by omega)
    · rename_i hx
      rw [if_neg hx]
      exact .ret h1
/-- a while loop over states s: P what holds, S the slots, m falls -/
theorem Wp.whlP {α : Type} {c : CT} {body : List CS} (P : α → Prop) (S : α → En) (m : α → Nat) (s0 : α) (h0 : P s0 ∧ Le (S s0) e) (hm : m s0 < wf)
    (hs : ∀ s, P s → Wp (evT Φ c (S s)) fun x => if x.1 = true then Wp (evSs Φ wf body x.2) (FQ (fun e' => ∃ s', m s' < m s ∧ P s' ∧ Le (S s') e') Q) else Wp (evSs Φ wf r x.2) (FQ I Q)) (hI : Cl I) :
    Wp (evSs Φ wf (.whl c body :: r) e) (FQ I Q) := by
  rw [wCons]
  simp only [evS]
  refine whL_P (J := fun s e' => P s ∧ Le (S s) e') (m := m) (fun s e ⟨hp, hl⟩ => ?_) wf s0 e h0 hm
  exact tMono hI (cl_ex fun s' => cl_and2 (cl_and2 cl_le)) hl (hs s hp)
/-! ### list comprehensions -/
theorem lcL_keep {step : PyData → En → Option (List PyData × En)} {W : En} {g : PyData → List PyData} : ∀ {ds : List PyData}, (∀ d ∈ ds, step d W = some (g d, W)) → lcL step ds W = some (ds.flatMap g, W)
  | [], _ => rfl
  | d :: ds, h => by
    show (step d W).bind _ = _
    rw [h d List.mem_cons_self]
    show (lcL step ds W).bind _ = _
    rw [lcL_keep fun d hd => h d (List.mem_cons_of_mem _ hd)]
    rfl
theorem lcL_typed {α : Type} {step : PyData → En → Option (List PyData × En)} {W : En} {enc : α → PyData} {g : α → List PyData} : ∀ {as : List α}, (∀ a ∈ as, step (enc a) W = some (g a, W)) → lcL step (as.map enc) W = some (as.flatMap g, W)
  | [], _ => rfl
  | d :: ds, h => by
    show (step (enc d) W).bind _ = _
    rw [h d List.mem_cons_self]
    show (lcL step (ds.map enc) W).bind _ = _
    rw [lcL_typed fun d hd => h d (List.mem_cons_of_mem _ hd)]
    rfl
/-- [elt for t in it], the elements told -/
theorem ev_lcM {α : Type} {elt : CE} {it : CI} {own lks : List Nat} {as : List α} {enc f : α → PyData} {W e3 : En} (hi : evI Φ it e = some (as.map enc, lks, e1)) (hf : fzO own e1 = some e2) (hW : wip own e2 = W)
    (he : unls lks (rsto e2 own W) = e3) (hz : as.length ≤ 16777216) (hs : ∀ a ∈ as, Wp (asN t (enc a) false W) fun e3 => Wp (evE Φ elt e3) fun r => r.1 = f a ∧ wip own r.2.2 = W) : evE Φ (.lc elt t it none own) e = some (.list (as.map f), true, e3) := by
  simp only [evE]
  rw [hi]
  show (fzO own e1).bind _ = _
  rw [hf]
  show (lcL _ (as.map enc) (wip own e2)).bind _ = _
  rw [hW, lcL_typed (g := fun a => [f a]) fun a ha => ?_]
  · have : as.flatMap (fun a => [f a]) = as.map f := by rw [← List.map_eq_flatMap]
    show (if _ then _ else _) = _
    rw [this, if_pos (by rw [List.length_map]; exact hz), he]
  · obtain ⟨e4, h1, r, h2, h3, h4⟩ := hs a ha
    rw [h1, Option.bind_some, toNone, Option.bind_some, if_pos rfl, h2, Option.bind_some, h3, h4]
/-- [elt for t in it if c] -/
theorem ev_lcF {α : Type} {elt : CE} {it : CI} {c : CT} {own lks : List Nat} {as : List α} {enc f : α → PyData} {p : α → Bool} {W e3 : En} (hi : evI Φ it e = some (as.map enc, lks, e1)) (hf : fzO own e1 = some e2) (hW : wip own e2 = W)
    (he : unls lks (rsto e2 own W) = e3) (hz : as.length ≤ 16777216) (hs : ∀ a ∈ as, Wp (asN t (enc a) false W) fun e3 => Wp (evT Φ c e3) fun b => b.1 = p a ∧ if p a = true then Wp (evE Φ elt b.2) fun r => r.1 = f a ∧ wip own r.2.2 = W else wip own b.2 = W) :
    evE Φ (.lc elt t it (some c) own) e = some (.list ((as.filter p).map f), true, e3) := by
  simp only [evE]
  rw [hi]
  show (fzO own e1).bind _ = _
  rw [hf]
  show (lcL _ (as.map enc) (wip own e2)).bind _ = _
  rw [hW, lcL_typed (g := fun a => if p a = true then [f a] else []) fun a ha => ?_]
  · have : as.flatMap (fun a => if p a = true then [f a] else []) = (as.filter p).map f := by
      clear hi hz hs
      induction as with
      | nil => rfl
      | cons a as ih =>
        rw [List.flatMap_cons, ih]
        by_cases h : p a = true
        · rw [if_pos h, List.filter_cons_of_pos h]; rfl
        · rw [if_neg h, List.filter_cons_of_neg h]; rfl
    show (if _ then _ else _) = _
    rw [this, if_pos, he]
    have := List.length_filter_le p as
    rw [List.length_map]
    exact Nat.le_trans this hz
  · obtain ⟨e4, h1, b, h2, h3, h4⟩ := hs a ha
    rw [h1, Option.bind_some, toSome, h2, Option.bind_some]
    split at h4
    · rename_i hp
      obtain ⟨r, h5, h6, h7⟩ := h4
      rw [h3, if_pos hp, h5, Option.bind_some, h6, h7, if_pos hp]
    · rename_i hp
      rw [h3, if_neg hp, if_neg hp, h4]
/-- a comprehension, read: W the block's slots; e3 the slots behind it -/
theorem Wp.lcM {α : Type} {elt : CE} {it : CI} {own : List Nat} {Q : PyData × Bool × En → Prop} {as : List α} {enc : α → PyData} (f : α → PyData) (W e3 : En)
    (hi : Wp (evI Φ it e) fun x => x.1 = as.map enc ∧ Wp (fzO own x.2.2) fun e2 => wip own e2 = W ∧ unls x.2.1 (rsto e2 own W) = e3) (hz : as.length ≤ 16777216)
    (hs : ∀ a ∈ as, Wp (asN t (enc a) false W) fun e3 => Wp (evE Φ elt e3) fun r => r.1 = f a ∧ wip own r.2.2 = W) (k : Q (.list (as.map f), true, e3)) : Wp (evE Φ (.lc elt t it none own) e) Q := by
  obtain ⟨⟨ds, lk, e1⟩, h1, h2, e2, h3, h4, h5⟩ := hi
  simp only at h2 h3 h4 h5
  subst h2
  exact .of (ev_lcM h1 h3 h4 h5 hz hs) k
theorem Wp.lcF {α : Type} {elt : CE} {it : CI} {c : CT} {own : List Nat} {Q : PyData × Bool × En → Prop} {as : List α} {enc : α → PyData} (p : α → Bool) (f : α → PyData) (W e3 : En)
    (hi : Wp (evI Φ it e) fun x => x.1 = as.map enc ∧ Wp (fzO own x.2.2) fun e2 => wip own e2 = W ∧ unls x.2.1 (rsto e2 own W) = e3) (hz : as.length ≤ 16777216)
    (hs : ∀ a ∈ as, Wp (asN t (enc a) false W) fun e3 => Wp (evT Φ c e3) fun b => b.1 = p a ∧ if p a = true then Wp (evE Φ elt b.2) fun r => r.1 = f a ∧ wip own r.2.2 = W else wip own b.2 = W) (k : Q (.list ((as.filter p).map f), true, e3)) :
    Wp (evE Φ (.lc elt t it (some c) own) e) Q := by
  obtain ⟨⟨ds, lk, e1⟩, h1, h2, e2, h3, h4, h5⟩ := hi
  simp only at h2 h3 h4 h5
  subst h2
  exact .of (ev_lcF h1 h3 h4 h5 hz hs) k
/-- all, any of what the items give -/
def gqB {α : Type} (al : Bool) (f : α → Bool) (as : List α) : Bool := if al = true then as.all f else as.any f
theorem gqL_typed {α : Type} {al : Bool} {step : PyData → En → Option (Option Bool × En)} {W : En} {enc : α → PyData} {f : α → Bool} : ∀ {as : List α}, (∀ p a q, as = p ++ a :: q → (∀ x ∈ p, f x = al) → step (enc a) W = some (some (f a), W)) → gqL al step (as.map enc) W = some (gqB al f as, W)
  | [], _ => by cases al <;> rfl
  | a :: as, h => by
    show (step (enc a) W).bind _ = _
    rw [h [] a as rfl (fun x hx => by cases hx)]
    show (if f a = al then gqL al step (as.map enc) W else some (f a, W)) = _
    by_cases e : f a = al
    · rw [if_pos e, gqL_typed (f := f) fun p b q hp hx => h (a :: p) b q (by rw [hp]; rfl) fun x hx' => by
        rcases List.mem_cons.mp hx' with rfl | hx'
        · exact e
        · exact hx x hx']
      cases al <;> simp [gqB, e]
    · rw [if_neg e]
      have : f a = !al := by cases al <;> cases h : f a <;> simp_all
      cases al <;> simp [gqB, this]
theorem Wp.gq {α : Type} {al : Bool} {elt : CE} {it : CI} {own : List Nat} {Q : PyData × Bool × En → Prop} {as : List α} {enc : α → PyData} (f : α → Bool) (W e3 : En)
    (hi : Wp (evI Φ it e) fun x => x.1 = as.map enc ∧ Wp (fzO own x.2.2) fun e2 => wip own e2 = W ∧ unls x.2.1 (rsto e2 own W) = e3)
    (hs : ∀ p a q, as = p ++ a :: q → (∀ x ∈ p, f x = al) → Wp (asN t (enc a) false W) fun e3 => Wp (evE Φ elt e3) fun r => r.1 = .bool (f a) ∧ wip own r.2.2 = W) (k : Q (.bool (gqB al f as), false, e3)) : Wp (evE Φ (.gq al elt t it none own) e) Q := by
  obtain ⟨⟨ds, lk, e1⟩, h1, h2, e2, h3, h4, h5⟩ := hi
  simp only at h2 h3 h4 h5
  subst h2
  refine .of ?_ k
  simp only [evE]
  rw [h1]
  show (fzO own e1).bind _ = _
  rw [h3]
  show (gqL al _ (as.map enc) (wip own e2)).bind _ = _
  rw [h4, gqL_typed (f := f) fun p a q hp hx => ?_]
  · show some (PyData.bool (gqB al f as), false, unls lk (rsto e2 own W)) = _
    rw [h5]
  · obtain ⟨e4, a1, r, a2, a3, a4⟩ := hs p a q hp hx
    rw [a1, Option.bind_some, toNone, Option.bind_some, if_pos rfl, a2, Option.bind_some, a3, a4]
    rfl
/-- all(elt for t in it) -/
theorem Wp.gqA {α : Type} {elt : CE} {it : CI} {own : List Nat} {Q : PyData × Bool × En → Prop} {as : List α} {enc : α → PyData} (f : α → Bool) (W e3 : En)
    (hi : Wp (evI Φ it e) fun x => x.1 = as.map enc ∧ Wp (fzO own x.2.2) fun e2 => wip own e2 = W ∧ unls x.2.1 (rsto e2 own W) = e3)
    (hs : ∀ a ∈ as, Wp (asN t (enc a) false W) fun e3 => Wp (evE Φ elt e3) fun r => r.1 = .bool (f a) ∧ wip own r.2.2 = W) (k : Q (.bool (as.all f), false, e3)) : Wp (evE Φ (.gq true elt t it none own) e) Q :=
  Wp.gq f W e3 hi (fun p a q hp _ => hs a (by rw [hp]; simp)) k
/-- any(elt for t in it) -/
theorem Wp.gqO {α : Type} {elt : CE} {it : CI} {own : List Nat} {Q : PyData × Bool × En → Prop} {as : List α} {enc : α → PyData} (f : α → Bool) (W e3 : En)
    (hi : Wp (evI Φ it e) fun x => x.1 = as.map enc ∧ Wp (fzO own x.2.2) fun e2 => wip own e2 = W ∧ unls x.2.1 (rsto e2 own W) = e3)
    (hs : ∀ a ∈ as, Wp (asN t (enc a) false W) fun e3 => Wp (evE Φ elt e3) fun r => r.1 = .bool (f a) ∧ wip own r.2.2 = W) (k : Q (.bool (as.any f), false, e3)) : Wp (evE Φ (.gq false elt t it none own) e) Q :=
  Wp.gq f W e3 hi (fun p a q hp _ => hs a (by rw [hp]; simp)) k
theorem run_at {prog : List CD} {k i : Nat} {p : CD} (h : prog[i]? = some p) (ds : List PyData) : run prog wf (k + 1) i ds = evD (run prog wf k) wf p ds := by
  show (prog[i]?).bind _ = _
  rw [h]; rfl
end RV

namespace RV
open PySem
/-! ### the defs that every law has -/
def cCell : CD := ⟨2, 2, [
  .ife (.val (.cmp .lt (.var 1) (.fn .len [(.var 0)]))) [
    .ret (.idx (.var 0) (.var 1))] [
],
  .ret (.bin .add (.bin .mul (.con (.int 5)) (.var 1)) (.con (.int 3)))]⟩
def cDraws : CD := ⟨2, 8, [
  .asg (.nm 2) (.fn .abs [(.fn .int [(.var 0)])]),
  .asg (.nm 3) (.cmp .ge (.var 2) (.bin .pow (.con (.int 10)) (.con (.int 18)))),
  .asg (.nm 4) (.var 2),
  .asg (.nm 5) (.lst []),
  .forr (.nm 6) (.rng1 (.var 1)) [
    .ife (.andd (.val (.var 3)) (.val (.cmp .gt (.var 2) (.con (.int 0))))) [
      .app 5 (.bin .mod (.fn .int [(.var 2)]) (.con (.int 5040))),
      .asg (.nm 2) (.bin .fdiv (.var 2) (.con (.int 5040)))] [
      .asg (.nm 7) (.bin .mod (.fn .int [(.bin .add (.bin .add (.bin .mul (.var 4) (.con (.int 48271))) (.bin .mul (.bin .add (.var 6) (.con (.int 1))) (.con (.int 69621)))) (.con (.int 11)))]) (.con (.int 2147483647))),
      .asg (.nm 7) (.bin .mod (.fn .int [(.bin .add (.bin .mul (.var 7) (.var 7)) (.bin .mul (.con (.int 40692)) (.bin .add (.var 6) (.con (.int 3)))))]) (.con (.int 2147483399))),
      .app 5 (.bin .mod (.fn .int [(.bin .fdiv (.var 7) (.con (.int 64)))]) (.con (.int 5040)))]],
  .ret (.var 5)]⟩
def cIsInt : CD := ⟨1, 1, [
  .ret (.andd (.fn .isInt [(.var 0)]) (.nott (.fn .isBool [(.var 0)])))]⟩
def cIs (iI iS : Nat) : CD := ⟨2, 3, [
  .ife (.val (.fn .isNone [(.var 1)])) [
    .ret (.fn .isNone [(.var 0)])] [
],
  .ife (.val (.fn .isBool [(.var 1)])) [
    .ret (.andd (.fn .isBool [(.var 0)]) (.cmp .eq (.var 0) (.var 1)))] [
],
  .ife (.val (.fn .isInt [(.var 1)])) [
    .ret (.andd (.call iI [(.var 0)]) (.cmp .eq (.var 0) (.var 1)))] [
],
  .ife (.val (.fn .isStr [(.var 1)])) [
    .ret (.andd (.fn .isStr [(.var 0)]) (.cmp .eq (.var 0) (.var 1)))] [
],
  .ife (.orr (.nott (.val (.fn .isTup [(.var 0)]))) (.val (.cmp .ne (.fn .len [(.var 0)]) (.fn .len [(.var 1)])))) [
    .ret (.con (.bool false))] [
],
  .ret (.fn .all [(.lc (.call iS [(.idx (.var 0) (.var 2)), (.idx (.var 1) (.var 2))]) (.nm 2) (.rng1 (.fn .len [(.var 1)])) none [2])])]⟩
def cIsInts (iI : Nat) : CD := ⟨1, 2, [
  .ret (.andd (.fn .isTup [(.var 0)]) (.fn .all [(.lc (.call iI [(.var 1)]) (.nm 1) (.seq (.var 0)) none [1])]))]⟩
def cIsPairs (iIs : Nat) : CD := ⟨1, 2, [
  .ret (.andd (.fn .isTup [(.var 0)]) (.fn .all [(.lc (.andd (.call iIs [(.var 1)]) (.cmp .eq (.fn .len [(.var 1)]) (.con (.int 2)))) (.nm 1) (.seq (.var 0)) none [1])]))]⟩
def cRising : CD := ⟨1, 2, [
  .ret (.fn .all [(.lc (.cmp .lt (.idx (.var 0) (.var 1)) (.idx (.var 0) (.bin .add (.var 1) (.con (.int 1))))) (.nm 1) (.rng1 (.bin .sub (.fn .len [(.var 0)]) (.con (.int 1)))) none [1])])]⟩
section
variable {prog : List CD} {wf i iI iS : Nat}
/-- the def at i, at a depth above 0 -/
theorem run_wp {k d : Nat} {p : CD} {ds : List PyData} {R : PyData × Bool → Prop} (hp : prog[i]? = some p) (hk : d + 1 ≤ k) (h : ∀ k, d ≤ k → Wp (evD (run prog wf k) wf p ds) R) : Wp (run prog wf k i ds) R := by
  obtain ⟨k', rfl⟩ : ∃ k', k = k' + 1 := ⟨k - 1, by omega⟩
  rw [run_at hp]
  exact h k' (by omega)
theorem run_eq {k d : Nat} {p : CD} {ds : List PyData} {r : PyData × Bool} (hp : prog[i]? = some p) (hk : d + 1 ≤ k) (h : ∀ k, d ≤ k → Wp (evD (run prog wf k) wf p ds) fun x => x = r) : run prog wf k i ds = some r := (run_wp hp hk h).eq
abbrev frnI (ns : List Int) : PyData := .dict [(.none, .list (ns.map .int))]
def cellV (ns : List Int) (i : Nat) : Int := (ns[i]?).getD (5 * i + 3)
theorem ixF {ds : List PyData} {i : Int} : idxD (.dict [(.none, .list ds)]) (.int i) = L2.atI ds i := rfl
theorem cell_ok (hp : prog[i]? = some cCell) {k : Nat} (hk : 1 ≤ k) {S : PyData} (ns : List Int) (hS : Scr S ns) (j : Nat) (hj : j < 1000) : run prog wf k i [S, .int j] = some (.int (cellV ns j), false) := by
  refine run_eq (d := 0) hp hk fun k _ => Wp.fn rfl ?_
  unfold cCell cellV
  have m := mulOk_of (i := 5) (j := (j : Int)) (by decide) (by decide) (by omega) (by omega)
  by_cases h : j < ns.length
  · have h' : (j : Int) < (ns.length : Int) := by omega
    rcases hS with rfl | rfl <;> simp -implicitDefEqProofs only [↓Wp_def, Wp_some, Wp_none, Wp_bind, Wp_ite, Wp_map, wNil, wEx, wAsg, wApp, wSto, wAug, augD, augK_some, augK_none, stE, wAugs, wRetV, wRet, wRetn, wIfe, FQ_nx, FQ_rt, eCon, eVar, eBin, eNeg, eNott, eAndd, eOrr, eCmp, eChain, eChain3, eIte, eTup, eLst, eIdx, eIdxm, eLenset, eJoin, eSlc, eRev, eCall, eFn, ePop, ePopAt, tVal, tAndd, tOrr, tNott, toNone, toSome, oNone, oSome, esNil, esCons, hsNil, hsCons, hVar, hCon, hBin, hNeg, hNott, hAndd, hOrr, hCmp, hChain, hChain3, hIte, hTup, hLst, hIdx, hIdxm, hLenset, hJoin, hSlc, hRev, hCall, hFn, hLc, hGq, hPop, hPopAt, iSeq, iRng1, iRng2, iEnm, iZip, RV.fetch, fetchs, asn1, asnT, asnN, asnC, lkU, lkS, lkO, lkL, slF, slL, leC, leUs, leUo, leN, PyData.int.injEq, PyData.bool.injEq, PyData.str.injEq, PyData.tuple.injEq, PyData.list.injEq, Prod.mk.injEq, List.cons.injEq, Sum.inl.injEq, Option.some.injEq, leS, leO, leL, ow?, retD, varD, hvar, rAdd, rAddL, rAddT, rAddS, rSub, rMul, rPow, aAdd, aSub, aAddS, cLt, cLe, cGt, cGe, cEqI, cNeI, cEqB, cNeB, truI, truB, truL, truT, truN, intI, ixL, ixT, atN, atL, atM, atPlus, atPlus2, fdiv_pos, mod_pos, Int.reduceLT, Int.reduceLE, Int.reduceEq, Int.reduceMod, Int.reduceDiv, Nat.reduceLT, fnLenL, fnLenT, fnLenF, fnLenS, fnAbs, fnInt, fnList, fnListT, fnTuple, fnTupleT, fnMax2, fnMin2, fnSumL, fnSumT, fnMaxL, fnMaxT, fnMinL, fnMinT, fnAllL, fnAnyL, fnIsNone, fnNotNone, fnIsInt, fnIsBool, fnIsStr, fnIsTup, nN, nI, nB, nS, nL, nT, itmL, itmT, itmS, enmL', enmS', lckV, slcT, slcL, slcS, rgD_nat, rgD_pred, rgD_succ, setIxE, intsOf_ints, boolsOf_bools, strsOf_strs, List.getElem?_cons_succ, List.getElem?_cons_zero, List.set_cons_succ, List.set_cons_zero, List.getElem?_map, List.length_map, List.length_cons, List.length_nil, List.length_append, List.map_append, Option.bind_some, Option.bind_none, Option.map_some, Option.map_none, if_true, if_false, ite_true, ite_false, if_false_right, decide_eq_true_eq, Bool.not_eq_true', decide_eq_false_iff_not, Bool.not_eq_true, reduceCtorEq, reduceIte, ne_eq, not_false_eq_true, not_true_eq_false, true_and, and_true, false_and, and_false, implies_true, Bool.false_eq_true, List.isEmpty_cons, List.isEmpty_nil, Bool.not_true, Bool.not_false, List.map_cons, List.map_nil, List.cons_append, List.nil_append, List.replicate_succ, List.replicate_zero, Nat.reduceSub, Nat.reduceAdd, Nat.reduceMul, Int.reduceSub, Int.reduceNeg, Int.reduceAdd, Int.reduceMul, Int.reducePow, Int.reduceToNat, Nat.reduceLeDiff, lock, unls, unl, wip, rsto, fzO, frz, noal, lfree, lfrees, lfrees_ints, aft, Bool.and_self, Bool.and_true, Bool.true_and, h', List.getElem?_eq_getElem h, ixF, Option.getD_some]
  · have h' : ¬ (j : Int) < (ns.length : Int) := by omega
    rcases hS with rfl | rfl <;> simp -implicitDefEqProofs only [↓Wp_def, Wp_some, Wp_none, Wp_bind, Wp_ite, Wp_map, wNil, wEx, wAsg, wApp, wSto, wAug, augD, augK_some, augK_none, stE, wAugs, wRetV, wRet, wRetn, wIfe, FQ_nx, FQ_rt, eCon, eVar, eBin, eNeg, eNott, eAndd, eOrr, eCmp, eChain, eChain3, eIte, eTup, eLst, eIdx, eIdxm, eLenset, eJoin, eSlc, eRev, eCall, eFn, ePop, ePopAt, tVal, tAndd, tOrr, tNott, toNone, toSome, oNone, oSome, esNil, esCons, hsNil, hsCons, hVar, hCon, hBin, hNeg, hNott, hAndd, hOrr, hCmp, hChain, hChain3, hIte, hTup, hLst, hIdx, hIdxm, hLenset, hJoin, hSlc, hRev, hCall, hFn, hLc, hGq, hPop, hPopAt, iSeq, iRng1, iRng2, iEnm, iZip, RV.fetch, fetchs, asn1, asnT, asnN, asnC, lkU, lkS, lkO, lkL, slF, slL, leC, leUs, leUo, leN, PyData.int.injEq, PyData.bool.injEq, PyData.str.injEq, PyData.tuple.injEq, PyData.list.injEq, Prod.mk.injEq, List.cons.injEq, Sum.inl.injEq, Option.some.injEq, leS, leO, leL, ow?, retD, varD, hvar, rAdd, rAddL, rAddT, rAddS, rSub, rMul, rPow, aAdd, aSub, aAddS, cLt, cLe, cGt, cGe, cEqI, cNeI, cEqB, cNeB, truI, truB, truL, truT, truN, intI, ixL, ixT, atN, atL, atM, atPlus, atPlus2, fdiv_pos, mod_pos, Int.reduceLT, Int.reduceLE, Int.reduceEq, Int.reduceMod, Int.reduceDiv, Nat.reduceLT, fnLenL, fnLenT, fnLenF, fnLenS, fnAbs, fnInt, fnList, fnListT, fnTuple, fnTupleT, fnMax2, fnMin2, fnSumL, fnSumT, fnMaxL, fnMaxT, fnMinL, fnMinT, fnAllL, fnAnyL, fnIsNone, fnNotNone, fnIsInt, fnIsBool, fnIsStr, fnIsTup, nN, nI, nB, nS, nL, nT, itmL, itmT, itmS, enmL', enmS', lckV, slcT, slcL, slcS, rgD_nat, rgD_pred, rgD_succ, setIxE, intsOf_ints, boolsOf_bools, strsOf_strs, List.getElem?_cons_succ, List.getElem?_cons_zero, List.set_cons_succ, List.set_cons_zero, List.getElem?_map, List.length_map, List.length_cons, List.length_nil, List.length_append, List.map_append, Option.bind_some, Option.bind_none, Option.map_some, Option.map_none, if_true, if_false, ite_true, ite_false, if_false_right, decide_eq_true_eq, Bool.not_eq_true', decide_eq_false_iff_not, Bool.not_eq_true, reduceCtorEq, reduceIte, ne_eq, not_false_eq_true, not_true_eq_false, true_and, and_true, false_and, and_false, implies_true, Bool.false_eq_true, List.isEmpty_cons, List.isEmpty_nil, Bool.not_true, Bool.not_false, List.map_cons, List.map_nil, List.cons_append, List.nil_append, List.replicate_succ, List.replicate_zero, Nat.reduceSub, Nat.reduceAdd, Nat.reduceMul, Int.reduceSub, Int.reduceNeg, Int.reduceAdd, Int.reduceMul, Int.reducePow, Int.reduceToNat, Nat.reduceLeDiff, lock, unls, unl, wip, rsto, fzO, frz, noal, lfree, lfrees, lfrees_ints, aft, Bool.and_self, Bool.and_true, Bool.true_and, h', List.getElem?_eq_none (Nat.le_of_not_lt h), m, Option.getD_none]
/-- is it a number of nineteen digits -/
def bigD (i : Int) : Bool := decide ((1000000000000000000 : Nat) ≤ i.toNat)
theorem bigD_false {c : Int} (h : bigD (c.natAbs : Int) = false) : c.natAbs < 1000000000000000000 := by
  have := of_decide_eq_false h
  rw [Int.toNat_natCast] at this
  exact Nat.lt_of_not_le this
def t18 : Int := 1000000000000000000
theorem pow18 : op2 .pow (.int 10) (.int 18) = some (.int t18, false) := by
  rw [rPow, if_pos (by decide)]
  have : (10 : Int) ^ (18 : Int).toNat = t18 := by decide
  rw [this]
theorem big_ge {n : Nat} : cmpD .ge (.int (n : Int)) (.int t18) = some (bigD n) := by
  show some (decide ((1000000000000000000 : Int) ≤ (n : Int))) = _
  have : decide ((1000000000000000000 : Int) ≤ (n : Int)) = bigD n := by
    unfold bigD
    rw [Int.toNat_natCast]
    exact decide_eq_decide.mpr (by omega)
  rw [this]
def Drw (n : Nat) (D : List Int) : Prop := D.length = n ∧ ∀ d ∈ D, 0 ≤ d ∧ d < 5040
theorem drw_snoc {D : List Int} (h : ∀ d ∈ D, 0 ≤ d ∧ d < 5040) (i : Int) : ∀ d ∈ D ++ [i % 5040], 0 ≤ d ∧ d < 5040 := fun d hd => by
  rcases List.mem_append.mp hd with hd | hd
  · exact h d hd
  · rw [List.mem_singleton.mp hd]; exact ⟨Int.emod_nonneg _ (by decide), Int.emod_lt_of_pos _ (by decide)⟩
theorem draws_ok (hp : prog[i]? = some cDraws) {k : Nat} (hk : 1 ≤ k) (c : Int) (n : Nat) (hn : n ≤ 1000) : ∃ D, Drw n D ∧ run prog wf k i [.int c, .int n] = some (.list (D.map .int), true) := by
  have main : Wp (run prog wf k i [.int c, .int n]) fun x => ∃ D, Drw n D ∧ x = (.list (D.map .int), true) := by
    refine run_wp (d := 0) hp hk fun k _ => Wp.fn rfl ?_
    unfold cDraws
    simp -implicitDefEqProofs only [↓Wp_def, Wp_some, Wp_none, Wp_bind, Wp_ite, Wp_map, wNil, wEx, wAsg, wApp, wSto, wAug, augD, augK_some, augK_none, stE, wAugs, wRetV, wRet, wRetn, wIfe, FQ_nx, FQ_rt, eCon, eVar, eBin, eNeg, eNott, eAndd, eOrr, eCmp, eChain, eChain3, eIte, eTup, eLst, eIdx, eIdxm, eLenset, eJoin, eSlc, eRev, eCall, eFn, ePop, ePopAt, tVal, tAndd, tOrr, tNott, toNone, toSome, oNone, oSome, esNil, esCons, hsNil, hsCons, hVar, hCon, hBin, hNeg, hNott, hAndd, hOrr, hCmp, hChain, hChain3, hIte, hTup, hLst, hIdx, hIdxm, hLenset, hJoin, hSlc, hRev, hCall, hFn, hLc, hGq, hPop, hPopAt, iSeq, iRng1, iRng2, iEnm, iZip, RV.fetch, fetchs, asn1, asnT, asnN, asnC, lkU, lkS, lkO, lkL, slF, slL, leC, leUs, leUo, leN, PyData.int.injEq, PyData.bool.injEq, PyData.str.injEq, PyData.tuple.injEq, PyData.list.injEq, Prod.mk.injEq, List.cons.injEq, Sum.inl.injEq, Option.some.injEq, leS, leO, leL, ow?, retD, varD, hvar, rAdd, rAddL, rAddT, rAddS, rSub, rMul, aAdd, aSub, aAddS, cLt, cLe, cGt, cEqI, cNeI, cEqB, cNeB, truI, truB, truL, truT, truN, intI, ixL, ixT, atN, atL, atM, atPlus, atPlus2, fdiv_pos, mod_pos, Int.reduceLT, Int.reduceLE, Int.reduceEq, Int.reduceMod, Int.reduceDiv, Nat.reduceLT, fnLenL, fnLenT, fnLenF, fnLenS, fnAbs, fnInt, fnList, fnListT, fnTuple, fnTupleT, fnMax2, fnMin2, fnSumL, fnSumT, fnMaxL, fnMaxT, fnMinL, fnMinT, fnAllL, fnAnyL, fnIsNone, fnNotNone, fnIsInt, fnIsBool, fnIsStr, fnIsTup, nN, nI, nB, nS, nL, nT, itmL, itmT, itmS, enmL', enmS', lckV, slcT, slcL, slcS, rgD_nat, rgD_pred, rgD_succ, setIxE, intsOf_ints, boolsOf_bools, strsOf_strs, List.getElem?_cons_succ, List.getElem?_cons_zero, List.set_cons_succ, List.set_cons_zero, List.getElem?_map, List.length_map, List.length_cons, List.length_nil, List.length_append, List.map_append, Option.bind_some, Option.bind_none, Option.map_some, Option.map_none, if_true, if_false, ite_true, ite_false, if_false_right, decide_eq_true_eq, Bool.not_eq_true', decide_eq_false_iff_not, Bool.not_eq_true, reduceCtorEq, reduceIte, ne_eq, not_false_eq_true, not_true_eq_false, true_and, and_true, false_and, and_false, implies_true, Bool.false_eq_true, List.isEmpty_cons, List.isEmpty_nil, Bool.not_true, Bool.not_false, List.map_cons, List.map_nil, List.cons_append, List.nil_append, List.replicate_succ, List.replicate_zero, Nat.reduceSub, Nat.reduceAdd, Nat.reduceMul, Int.reduceSub, Int.reduceNeg, Int.reduceAdd, Int.reduceMul, Nat.reduceLeDiff, lock, unls, unl, wip, rsto, fzO, frz, noal, lfree, lfrees, lfrees_ints, aft, Bool.and_self, Bool.and_true, Bool.true_and, pow18, big_ge, show (0 : Nat) ≤ sizeLine by decide]
    have hdg := @bigD_false c
    generalize bigD (c.natAbs : Int) = dg at hdg ⊢
    refine Wp.forS (as := List.range n) (enc := fun j : Nat => .int j) (σ := Nat × List Int) [] (fun p s => s.2.length = p.length ∧ (∀ d ∈ s.2, 0 ≤ d ∧ d < 5040) ∧ c.natAbs < 5040 ^ p.length * (s.1 + 1))
      (fun _ s => [.sh (.int c), .sh (.int n), .sh (.int s.1), .sh (.bool dg), .sh (.int c.natAbs), .ow (s.2.map .int), .un, .un]) (c.natAbs, []) ?hi ?hs ?k cl_const
    case hi =>
      have := rgq_of (i := (n : Int)) (by omega) (by omega)
      simp -implicitDefEqProofs only [↓Wp_def, Wp_some, Wp_none, Wp_bind, Wp_ite, Wp_map, wNil, wEx, wAsg, wApp, wSto, wAug, augD, augK_some, augK_none, stE, wAugs, wRetV, wRet, wRetn, wIfe, FQ_nx, FQ_rt, eCon, eVar, eBin, eNeg, eNott, eAndd, eOrr, eCmp, eChain, eChain3, eIte, eTup, eLst, eIdx, eIdxm, eLenset, eJoin, eSlc, eRev, eCall, eFn, ePop, ePopAt, tVal, tAndd, tOrr, tNott, toNone, toSome, oNone, oSome, esNil, esCons, hsNil, hsCons, hVar, hCon, hBin, hNeg, hNott, hAndd, hOrr, hCmp, hChain, hChain3, hIte, hTup, hLst, hIdx, hIdxm, hLenset, hJoin, hSlc, hRev, hCall, hFn, hLc, hGq, hPop, hPopAt, iSeq, iRng1, iRng2, iEnm, iZip, RV.fetch, fetchs, asn1, asnT, asnN, asnC, lkU, lkS, lkO, lkL, slF, slL, leC, leUs, leUo, leN, PyData.int.injEq, PyData.bool.injEq, PyData.str.injEq, PyData.tuple.injEq, PyData.list.injEq, Prod.mk.injEq, List.cons.injEq, Sum.inl.injEq, Option.some.injEq, leS, leO, leL, ow?, retD, varD, hvar, rAdd, rAddL, rAddT, rAddS, rSub, rMul, rPow, aAdd, aSub, aAddS, cLt, cLe, cGt, cGe, cEqI, cNeI, cEqB, cNeB, truI, truB, truL, truT, truN, intI, ixL, ixT, atN, atL, atM, atPlus, atPlus2, fdiv_pos, mod_pos, Int.reduceLT, Int.reduceLE, Int.reduceEq, Int.reduceMod, Int.reduceDiv, Nat.reduceLT, fnLenL, fnLenT, fnLenF, fnLenS, fnAbs, fnInt, fnList, fnListT, fnTuple, fnTupleT, fnMax2, fnMin2, fnSumL, fnSumT, fnMaxL, fnMaxT, fnMinL, fnMinT, fnAllL, fnAnyL, fnIsNone, fnNotNone, fnIsInt, fnIsBool, fnIsStr, fnIsTup, nN, nI, nB, nS, nL, nT, itmL, itmT, itmS, enmL', enmS', lckV, slcT, slcL, slcS, rgD_nat, rgD_pred, rgD_succ, setIxE, intsOf_ints, boolsOf_bools, strsOf_strs, List.getElem?_cons_succ, List.getElem?_cons_zero, List.set_cons_succ, List.set_cons_zero, List.getElem?_map, List.length_map, List.length_cons, List.length_nil, List.length_append, List.map_append, Option.bind_some, Option.bind_none, Option.map_some, Option.map_none, if_true, if_false, ite_true, ite_false, if_false_right, decide_eq_true_eq, Bool.not_eq_true', decide_eq_false_iff_not, Bool.not_eq_true, reduceCtorEq, reduceIte, ne_eq, not_false_eq_true, not_true_eq_false, true_and, and_true, false_and, and_false, implies_true, Bool.false_eq_true, List.isEmpty_cons, List.isEmpty_nil, Bool.not_true, Bool.not_false, List.map_cons, List.map_nil, List.cons_append, List.nil_append, List.replicate_succ, List.replicate_zero, Nat.reduceSub, Nat.reduceAdd, Nat.reduceMul, Int.reduceSub, Int.reduceNeg, Int.reduceAdd, Int.reduceMul, Int.reducePow, Int.reduceToNat, Nat.reduceLeDiff, lock, unls, unl, wip, rsto, fzO, frz, noal, lfree, lfrees, lfrees_ints, aft, Bool.and_self, Bool.and_true, Bool.true_and, this]
      exact ⟨fun d hd => by simp at hd, by simp⟩
    case k =>
      intro s ⟨h1, h2, h3⟩
      simp -implicitDefEqProofs only [↓Wp_def, Wp_some, Wp_none, Wp_bind, Wp_ite, Wp_map, wNil, wEx, wAsg, wApp, wSto, wAug, augD, augK_some, augK_none, stE, wAugs, wRetV, wRet, wRetn, wIfe, FQ_nx, FQ_rt, eCon, eVar, eBin, eNeg, eNott, eAndd, eOrr, eCmp, eChain, eChain3, eIte, eTup, eLst, eIdx, eIdxm, eLenset, eJoin, eSlc, eRev, eCall, eFn, ePop, ePopAt, tVal, tAndd, tOrr, tNott, toNone, toSome, oNone, oSome, esNil, esCons, hsNil, hsCons, hVar, hCon, hBin, hNeg, hNott, hAndd, hOrr, hCmp, hChain, hChain3, hIte, hTup, hLst, hIdx, hIdxm, hLenset, hJoin, hSlc, hRev, hCall, hFn, hLc, hGq, hPop, hPopAt, iSeq, iRng1, iRng2, iEnm, iZip, RV.fetch, fetchs, asn1, asnT, asnN, asnC, lkU, lkS, lkO, lkL, slF, slL, leC, leUs, leUo, leN, PyData.int.injEq, PyData.bool.injEq, PyData.str.injEq, PyData.tuple.injEq, PyData.list.injEq, Prod.mk.injEq, List.cons.injEq, Sum.inl.injEq, Option.some.injEq, leS, leO, leL, ow?, retD, varD, hvar, rAdd, rAddL, rAddT, rAddS, rSub, rMul, rPow, aAdd, aSub, aAddS, cLt, cLe, cGt, cGe, cEqI, cNeI, cEqB, cNeB, truI, truB, truL, truT, truN, intI, ixL, ixT, atN, atL, atM, atPlus, atPlus2, fdiv_pos, mod_pos, Int.reduceLT, Int.reduceLE, Int.reduceEq, Int.reduceMod, Int.reduceDiv, Nat.reduceLT, fnLenL, fnLenT, fnLenF, fnLenS, fnAbs, fnInt, fnList, fnListT, fnTuple, fnTupleT, fnMax2, fnMin2, fnSumL, fnSumT, fnMaxL, fnMaxT, fnMinL, fnMinT, fnAllL, fnAnyL, fnIsNone, fnNotNone, fnIsInt, fnIsBool, fnIsStr, fnIsTup, nN, nI, nB, nS, nL, nT, itmL, itmT, itmS, enmL', enmS', lckV, slcT, slcL, slcS, rgD_nat, rgD_pred, rgD_succ, setIxE, intsOf_ints, boolsOf_bools, strsOf_strs, List.getElem?_cons_succ, List.getElem?_cons_zero, List.set_cons_succ, List.set_cons_zero, List.getElem?_map, List.length_map, List.length_cons, List.length_nil, List.length_append, List.map_append, Option.bind_some, Option.bind_none, Option.map_some, Option.map_none, if_true, if_false, ite_true, ite_false, if_false_right, decide_eq_true_eq, Bool.not_eq_true', decide_eq_false_iff_not, Bool.not_eq_true, reduceCtorEq, reduceIte, ne_eq, not_false_eq_true, not_true_eq_false, true_and, and_true, false_and, and_false, implies_true, Bool.false_eq_true, List.isEmpty_cons, List.isEmpty_nil, Bool.not_true, Bool.not_false, List.map_cons, List.map_nil, List.cons_append, List.nil_append, List.replicate_succ, List.replicate_zero, Nat.reduceSub, Nat.reduceAdd, Nat.reduceMul, Int.reduceSub, Int.reduceNeg, Int.reduceAdd, Int.reduceMul, Int.reducePow, Int.reduceToNat, Nat.reduceLeDiff, lock, unls, unl, wip, rsto, fzO, frz, noal, lfree, lfrees, lfrees_ints, aft, Bool.and_self, Bool.and_true, Bool.true_and]
      exact ⟨s.2, ⟨by rw [h1, List.length_range], h2⟩, rfl⟩
    case hs =>
      intro p j q ⟨rest, D⟩ hpq ⟨h1, h2, h3⟩
      simp only at h1 h2 h3
      have hz : D.length < sizeLine := szL (by
        have := congrArg List.length hpq
        rw [List.length_range, List.length_append, List.length_cons] at this
        omega)
      have hpl : p.length < 1000 := by
        have := congrArg List.length hpq
        rw [List.length_range, List.length_append, List.length_cons] at this
        omega
      have hj : j < 1000 := by
        have : j ∈ List.range n := by rw [hpq]; simp
        have := List.mem_range.mp this
        omega
      have hlen : (p ++ [j]).length = p.length + 1 := by simp
      simp -implicitDefEqProofs only [↓Wp_def, Wp_some, Wp_none, Wp_bind, Wp_ite, Wp_map, wNil, wEx, wAsg, wApp, wSto, wAug, augD, augK_some, augK_none, stE, wAugs, wRetV, wRet, wRetn, wIfe, FQ_nx, FQ_rt, eCon, eVar, eBin, eNeg, eNott, eAndd, eOrr, eCmp, eChain, eChain3, eIte, eTup, eLst, eIdx, eIdxm, eLenset, eJoin, eSlc, eRev, eCall, eFn, ePop, ePopAt, tVal, tAndd, tOrr, tNott, toNone, toSome, oNone, oSome, esNil, esCons, hsNil, hsCons, hVar, hCon, hBin, hNeg, hNott, hAndd, hOrr, hCmp, hChain, hChain3, hIte, hTup, hLst, hIdx, hIdxm, hLenset, hJoin, hSlc, hRev, hCall, hFn, hLc, hGq, hPop, hPopAt, iSeq, iRng1, iRng2, iEnm, iZip, RV.fetch, fetchs, asn1, asnT, asnN, asnC, lkU, lkS, lkO, lkL, slF, slL, leC, leUs, leUo, leN, PyData.int.injEq, PyData.bool.injEq, PyData.str.injEq, PyData.tuple.injEq, PyData.list.injEq, Prod.mk.injEq, List.cons.injEq, Sum.inl.injEq, Option.some.injEq, leS, leO, leL, ow?, retD, varD, hvar, rAdd, rAddL, rAddT, rAddS, rSub, rMul, rPow, aAdd, aSub, aAddS, cLt, cLe, cGt, cGe, cEqI, cNeI, cEqB, cNeB, truI, truB, truL, truT, truN, intI, ixL, ixT, atN, atL, atM, atPlus, atPlus2, fdiv_pos, mod_pos, Int.reduceLT, Int.reduceLE, Int.reduceEq, Int.reduceMod, Int.reduceDiv, Nat.reduceLT, fnLenL, fnLenT, fnLenF, fnLenS, fnAbs, fnInt, fnList, fnListT, fnTuple, fnTupleT, fnMax2, fnMin2, fnSumL, fnSumT, fnMaxL, fnMaxT, fnMinL, fnMinT, fnAllL, fnAnyL, fnIsNone, fnNotNone, fnIsInt, fnIsBool, fnIsStr, fnIsTup, nN, nI, nB, nS, nL, nT, itmL, itmT, itmS, enmL', enmS', lckV, slcT, slcL, slcS, rgD_nat, rgD_pred, rgD_succ, setIxE, intsOf_ints, boolsOf_bools, strsOf_strs, List.getElem?_cons_succ, List.getElem?_cons_zero, List.set_cons_succ, List.set_cons_zero, List.getElem?_map, List.length_map, List.length_cons, List.length_nil, List.length_append, List.map_append, Option.bind_some, Option.bind_none, Option.map_some, Option.map_none, if_true, if_false, ite_true, ite_false, if_false_right, decide_eq_true_eq, Bool.not_eq_true', decide_eq_false_iff_not, Bool.not_eq_true, reduceCtorEq, reduceIte, ne_eq, not_false_eq_true, not_true_eq_false, true_and, and_true, false_and, and_false, implies_true, Bool.false_eq_true, List.isEmpty_cons, List.isEmpty_nil, Bool.not_true, Bool.not_false, List.map_cons, List.map_nil, List.cons_append, List.nil_append, List.replicate_succ, List.replicate_zero, Nat.reduceSub, Nat.reduceAdd, Nat.reduceMul, Int.reduceSub, Int.reduceNeg, Int.reduceAdd, Int.reduceMul, Int.reducePow, Int.reduceToNat, Nat.reduceLeDiff, lock, unls, unl, wip, rsto, fzO, frz, noal, lfree, lfrees, lfrees_ints, aft, Bool.and_self, Bool.and_true, Bool.true_and, hz]
      by_cases hb : dg = true ∧ 0 < rest
      · obtain ⟨rfl, hr⟩ := hb
        have hr' : (0 : Int) < (rest : Int) := by omega
        simp -implicitDefEqProofs only [↓Wp_def, Wp_some, Wp_none, Wp_bind, Wp_ite, Wp_map, wNil, wEx, wAsg, wApp, wSto, wAug, augD, augK_some, augK_none, stE, wAugs, wRetV, wRet, wRetn, wIfe, FQ_nx, FQ_rt, eCon, eVar, eBin, eNeg, eNott, eAndd, eOrr, eCmp, eChain, eChain3, eIte, eTup, eLst, eIdx, eIdxm, eLenset, eJoin, eSlc, eRev, eCall, eFn, ePop, ePopAt, tVal, tAndd, tOrr, tNott, toNone, toSome, oNone, oSome, esNil, esCons, hsNil, hsCons, hVar, hCon, hBin, hNeg, hNott, hAndd, hOrr, hCmp, hChain, hChain3, hIte, hTup, hLst, hIdx, hIdxm, hLenset, hJoin, hSlc, hRev, hCall, hFn, hLc, hGq, hPop, hPopAt, iSeq, iRng1, iRng2, iEnm, iZip, RV.fetch, fetchs, asn1, asnT, asnN, asnC, lkU, lkS, lkO, lkL, slF, slL, leC, leUs, leUo, leN, PyData.int.injEq, PyData.bool.injEq, PyData.str.injEq, PyData.tuple.injEq, PyData.list.injEq, Prod.mk.injEq, List.cons.injEq, Sum.inl.injEq, Option.some.injEq, leS, leO, leL, ow?, retD, varD, hvar, rAdd, rAddL, rAddT, rAddS, rSub, rMul, rPow, aAdd, aSub, aAddS, cLt, cLe, cGt, cGe, cEqI, cNeI, cEqB, cNeB, truI, truB, truL, truT, truN, intI, ixL, ixT, atN, atL, atM, atPlus, atPlus2, fdiv_pos, mod_pos, Int.reduceLT, Int.reduceLE, Int.reduceEq, Int.reduceMod, Int.reduceDiv, Nat.reduceLT, fnLenL, fnLenT, fnLenF, fnLenS, fnAbs, fnInt, fnList, fnListT, fnTuple, fnTupleT, fnMax2, fnMin2, fnSumL, fnSumT, fnMaxL, fnMaxT, fnMinL, fnMinT, fnAllL, fnAnyL, fnIsNone, fnNotNone, fnIsInt, fnIsBool, fnIsStr, fnIsTup, nN, nI, nB, nS, nL, nT, itmL, itmT, itmS, enmL', enmS', lckV, slcT, slcL, slcS, rgD_nat, rgD_pred, rgD_succ, setIxE, intsOf_ints, boolsOf_bools, strsOf_strs, List.getElem?_cons_succ, List.getElem?_cons_zero, List.set_cons_succ, List.set_cons_zero, List.getElem?_map, List.length_map, List.length_cons, List.length_nil, List.length_append, List.map_append, Option.bind_some, Option.bind_none, Option.map_some, Option.map_none, if_true, if_false, ite_true, ite_false, if_false_right, decide_eq_true_eq, Bool.not_eq_true', decide_eq_false_iff_not, Bool.not_eq_true, reduceCtorEq, reduceIte, ne_eq, not_false_eq_true, not_true_eq_false, true_and, and_true, false_and, and_false, implies_true, Bool.false_eq_true, List.isEmpty_cons, List.isEmpty_nil, Bool.not_true, Bool.not_false, List.map_cons, List.map_nil, List.cons_append, List.nil_append, List.replicate_succ, List.replicate_zero, Nat.reduceSub, Nat.reduceAdd, Nat.reduceMul, Int.reduceSub, Int.reduceNeg, Int.reduceAdd, Int.reduceMul, Int.reducePow, Int.reduceToNat, Nat.reduceLeDiff, lock, unls, unl, wip, rsto, fzO, frz, noal, lfree, lfrees, lfrees_ints, aft, Bool.and_self, Bool.and_true, Bool.true_and, hr', hz]
        refine ⟨(rest / 5040, D ++ [(rest : Int) % 5040]), ⟨by simp [h1], drw_snoc h2 _, ?_⟩, ?_⟩
        · show c.natAbs < 5040 ^ (p.length + 1) * (rest / 5040 + 1)
          rw [Nat.pow_succ, Nat.mul_assoc]
          exact Nat.lt_of_lt_of_le h3 (Nat.mul_le_mul_left _ (by omega))
        · simp -implicitDefEqProofs only [↓Wp_def, Wp_some, Wp_none, Wp_bind, Wp_ite, Wp_map, wNil, wEx, wAsg, wApp, wSto, wAug, augD, augK_some, augK_none, stE, wAugs, wRetV, wRet, wRetn, wIfe, FQ_nx, FQ_rt, eCon, eVar, eBin, eNeg, eNott, eAndd, eOrr, eCmp, eChain, eChain3, eIte, eTup, eLst, eIdx, eIdxm, eLenset, eJoin, eSlc, eRev, eCall, eFn, ePop, ePopAt, tVal, tAndd, tOrr, tNott, toNone, toSome, oNone, oSome, esNil, esCons, hsNil, hsCons, hVar, hCon, hBin, hNeg, hNott, hAndd, hOrr, hCmp, hChain, hChain3, hIte, hTup, hLst, hIdx, hIdxm, hLenset, hJoin, hSlc, hRev, hCall, hFn, hLc, hGq, hPop, hPopAt, iSeq, iRng1, iRng2, iEnm, iZip, RV.fetch, fetchs, asn1, asnT, asnN, asnC, lkU, lkS, lkO, lkL, slF, slL, leC, leUs, leUo, leN, PyData.int.injEq, PyData.bool.injEq, PyData.str.injEq, PyData.tuple.injEq, PyData.list.injEq, Prod.mk.injEq, List.cons.injEq, Sum.inl.injEq, Option.some.injEq, leS, leO, leL, ow?, retD, varD, hvar, rAdd, rAddL, rAddT, rAddS, rSub, rMul, rPow, aAdd, aSub, aAddS, cLt, cLe, cGt, cGe, cEqI, cNeI, cEqB, cNeB, truI, truB, truL, truT, truN, intI, ixL, ixT, atN, atL, atM, atPlus, atPlus2, fdiv_pos, mod_pos, Int.reduceLT, Int.reduceLE, Int.reduceEq, Int.reduceMod, Int.reduceDiv, Nat.reduceLT, fnLenL, fnLenT, fnLenF, fnLenS, fnAbs, fnInt, fnList, fnListT, fnTuple, fnTupleT, fnMax2, fnMin2, fnSumL, fnSumT, fnMaxL, fnMaxT, fnMinL, fnMinT, fnAllL, fnAnyL, fnIsNone, fnNotNone, fnIsInt, fnIsBool, fnIsStr, fnIsTup, nN, nI, nB, nS, nL, nT, itmL, itmT, itmS, enmL', enmS', lckV, slcT, slcL, slcS, rgD_nat, rgD_pred, rgD_succ, setIxE, intsOf_ints, boolsOf_bools, strsOf_strs, List.getElem?_cons_succ, List.getElem?_cons_zero, List.set_cons_succ, List.set_cons_zero, List.getElem?_map, List.length_map, List.length_cons, List.length_nil, List.length_append, List.map_append, Option.bind_some, Option.bind_none, Option.map_some, Option.map_none, if_true, if_false, ite_true, ite_false, if_false_right, decide_eq_true_eq, Bool.not_eq_true', decide_eq_false_iff_not, Bool.not_eq_true, reduceCtorEq, reduceIte, ne_eq, not_false_eq_true, not_true_eq_false, true_and, and_true, false_and, and_false, implies_true, Bool.false_eq_true, List.isEmpty_cons, List.isEmpty_nil, Bool.not_true, Bool.not_false, List.map_cons, List.map_nil, List.cons_append, List.nil_append, List.replicate_succ, List.replicate_zero, Nat.reduceSub, Nat.reduceAdd, Nat.reduceMul, Int.reduceSub, Int.reduceNeg, Int.reduceAdd, Int.reduceMul, Int.reducePow, Int.reduceToNat, Nat.reduceLeDiff, lock, unls, unl, wip, rsto, fzO, frz, noal, lfree, lfrees, lfrees_ints, aft, Bool.and_self, Bool.and_true, Bool.true_and]
          omega
      · have hseed : c.natAbs < 2 ^ 20000 := by
          cases dg with
          | false => exact Nat.lt_trans (hdg rfl) (Nat.lt_of_lt_of_le (by decide : 1000000000000000000 < 2 ^ 60) (Nat.pow_le_pow_right (by decide) (by decide)))
          | true =>
            have hr : rest = 0 := Nat.eq_zero_of_not_pos fun z => hb ⟨rfl, z⟩
            subst hr
            refine Nat.lt_of_lt_of_le h3 ?_
            rw [Nat.zero_add, Nat.mul_one]
            refine Nat.le_trans (Nat.pow_le_pow_left (by decide : 5040 ≤ 2 ^ 13) p.length) ?_
            rw [← Nat.pow_mul]
            exact Nat.pow_le_pow_right (by decide) (by omega)
        have m1 := mulOk_big (i := (c.natAbs : Int)) (j := 48271) (k := 20000) (by decide) (by rw [Int.natAbs_natCast]; exact hseed) (by decide) (by decide)
        have m2 := mulOk_of (i := (j : Int) + 1) (j := 69621) (by omega) (by omega) (by decide) (by decide)
        have m4 := mulOk_of (i := 40692) (j := (j : Int) + 3) (by decide) (by decide) (by omega) (by omega)
        have b0 : 0 ≤ ((c.natAbs : Int) * 48271 + ((j : Int) + 1) * 69621 + 11) % 2147483647 := Int.emod_nonneg _ (by decide)
        have b1 : ((c.natAbs : Int) * 48271 + ((j : Int) + 1) * 69621 + 11) % 2147483647 < 2147483647 := Int.emod_lt_of_pos _ (by decide)
        have m3 := mulOk_of (i := ((c.natAbs : Int) * 48271 + ((j : Int) + 1) * 69621 + 11) % 2147483647) (j := ((c.natAbs : Int) * 48271 + ((j : Int) + 1) * 69621 + 11) % 2147483647) (by omega) (by omega) (by omega) (by omega)
        have fin : ∀ x : Int, ∃ s' : Nat × List Int, (s'.2.length = p.length + 1 ∧ (∀ d ∈ s'.2, 0 ≤ d ∧ d < 5040) ∧ c.natAbs < 5040 ^ (p.length + 1) * (s'.1 + 1)) ∧ (s'.1 : Int) = (rest : Int) ∧ s'.2.map .int = (D.map PyData.int ++ [.int (x % 5040)]) := fun x => by
          refine ⟨(rest, D ++ [x % 5040]), ⟨by simp [h1], drw_snoc h2 _, ?_⟩, rfl, by simp⟩
          refine Nat.lt_of_lt_of_le h3 (Nat.mul_le_mul_right _ (Nat.pow_le_pow_right (by decide) (by omega)))
        cases dg with
        | false => simp -implicitDefEqProofs only [↓Wp_def, Wp_some, Wp_none, Wp_bind, Wp_ite, Wp_map, wNil, wEx, wAsg, wApp, wSto, wAug, augD, augK_some, augK_none, stE, wAugs, wRetV, wRet, wRetn, wIfe, FQ_nx, FQ_rt, eCon, eVar, eBin, eNeg, eNott, eAndd, eOrr, eCmp, eChain, eChain3, eIte, eTup, eLst, eIdx, eIdxm, eLenset, eJoin, eSlc, eRev, eCall, eFn, ePop, ePopAt, tVal, tAndd, tOrr, tNott, toNone, toSome, oNone, oSome, esNil, esCons, hsNil, hsCons, hVar, hCon, hBin, hNeg, hNott, hAndd, hOrr, hCmp, hChain, hChain3, hIte, hTup, hLst, hIdx, hIdxm, hLenset, hJoin, hSlc, hRev, hCall, hFn, hLc, hGq, hPop, hPopAt, iSeq, iRng1, iRng2, iEnm, iZip, RV.fetch, fetchs, asn1, asnT, asnN, asnC, lkU, lkS, lkO, lkL, slF, slL, leC, leUs, leUo, leN, PyData.int.injEq, PyData.bool.injEq, PyData.str.injEq, PyData.tuple.injEq, PyData.list.injEq, Prod.mk.injEq, List.cons.injEq, Sum.inl.injEq, Option.some.injEq, leS, leO, leL, ow?, retD, varD, hvar, rAdd, rAddL, rAddT, rAddS, rSub, rMul, rPow, aAdd, aSub, aAddS, cLt, cLe, cGt, cGe, cEqI, cNeI, cEqB, cNeB, truI, truB, truL, truT, truN, intI, ixL, ixT, atN, atL, atM, atPlus, atPlus2, fdiv_pos, mod_pos, Int.reduceLT, Int.reduceLE, Int.reduceEq, Int.reduceMod, Int.reduceDiv, Nat.reduceLT, fnLenL, fnLenT, fnLenF, fnLenS, fnAbs, fnInt, fnList, fnListT, fnTuple, fnTupleT, fnMax2, fnMin2, fnSumL, fnSumT, fnMaxL, fnMaxT, fnMinL, fnMinT, fnAllL, fnAnyL, fnIsNone, fnNotNone, fnIsInt, fnIsBool, fnIsStr, fnIsTup, nN, nI, nB, nS, nL, nT, itmL, itmT, itmS, enmL', enmS', lckV, slcT, slcL, slcS, rgD_nat, rgD_pred, rgD_succ, setIxE, intsOf_ints, boolsOf_bools, strsOf_strs, List.getElem?_cons_succ, List.getElem?_cons_zero, List.set_cons_succ, List.set_cons_zero, List.getElem?_map, List.length_map, List.length_cons, List.length_nil, List.length_append, List.map_append, Option.bind_some, Option.bind_none, Option.map_some, Option.map_none, if_true, if_false, ite_true, ite_false, if_false_right, decide_eq_true_eq, Bool.not_eq_true', decide_eq_false_iff_not, Bool.not_eq_true, reduceCtorEq, reduceIte, ne_eq, not_false_eq_true, not_true_eq_false, true_and, and_true, false_and, and_false, implies_true, Bool.false_eq_true, List.isEmpty_cons, List.isEmpty_nil, Bool.not_true, Bool.not_false, List.map_cons, List.map_nil, List.cons_append, List.nil_append, List.replicate_succ, List.replicate_zero, Nat.reduceSub, Nat.reduceAdd, Nat.reduceMul, Int.reduceSub, Int.reduceNeg, Int.reduceAdd, Int.reduceMul, Int.reducePow, Int.reduceToNat, Nat.reduceLeDiff, lock, unls, unl, wip, rsto, fzO, frz, noal, lfree, lfrees, lfrees_ints, aft, Bool.and_self, Bool.and_true, Bool.true_and, m1, m2, m3, m4, hz]; exact fin _
        | true =>
          have hr : rest = 0 := Nat.eq_zero_of_not_pos fun z => hb ⟨rfl, z⟩
          subst hr
          simp -implicitDefEqProofs only [↓Wp_def, Wp_some, Wp_none, Wp_bind, Wp_ite, Wp_map, wNil, wEx, wAsg, wApp, wSto, wAug, augD, augK_some, augK_none, stE, wAugs, wRetV, wRet, wRetn, wIfe, FQ_nx, FQ_rt, eCon, eVar, eBin, eNeg, eNott, eAndd, eOrr, eCmp, eChain, eChain3, eIte, eTup, eLst, eIdx, eIdxm, eLenset, eJoin, eSlc, eRev, eCall, eFn, ePop, ePopAt, tVal, tAndd, tOrr, tNott, toNone, toSome, oNone, oSome, esNil, esCons, hsNil, hsCons, hVar, hCon, hBin, hNeg, hNott, hAndd, hOrr, hCmp, hChain, hChain3, hIte, hTup, hLst, hIdx, hIdxm, hLenset, hJoin, hSlc, hRev, hCall, hFn, hLc, hGq, hPop, hPopAt, iSeq, iRng1, iRng2, iEnm, iZip, RV.fetch, fetchs, asn1, asnT, asnN, asnC, lkU, lkS, lkO, lkL, slF, slL, leC, leUs, leUo, leN, PyData.int.injEq, PyData.bool.injEq, PyData.str.injEq, PyData.tuple.injEq, PyData.list.injEq, Prod.mk.injEq, List.cons.injEq, Sum.inl.injEq, Option.some.injEq, leS, leO, leL, ow?, retD, varD, hvar, rAdd, rAddL, rAddT, rAddS, rSub, rMul, rPow, aAdd, aSub, aAddS, cLt, cLe, cGt, cGe, cEqI, cNeI, cEqB, cNeB, truI, truB, truL, truT, truN, intI, ixL, ixT, atN, atL, atM, atPlus, atPlus2, fdiv_pos, mod_pos, Int.reduceLT, Int.reduceLE, Int.reduceEq, Int.reduceMod, Int.reduceDiv, Nat.reduceLT, fnLenL, fnLenT, fnLenF, fnLenS, fnAbs, fnInt, fnList, fnListT, fnTuple, fnTupleT, fnMax2, fnMin2, fnSumL, fnSumT, fnMaxL, fnMaxT, fnMinL, fnMinT, fnAllL, fnAnyL, fnIsNone, fnNotNone, fnIsInt, fnIsBool, fnIsStr, fnIsTup, nN, nI, nB, nS, nL, nT, itmL, itmT, itmS, enmL', enmS', lckV, slcT, slcL, slcS, rgD_nat, rgD_pred, rgD_succ, setIxE, intsOf_ints, boolsOf_bools, strsOf_strs, List.getElem?_cons_succ, List.getElem?_cons_zero, List.set_cons_succ, List.set_cons_zero, List.getElem?_map, List.length_map, List.length_cons, List.length_nil, List.length_append, List.map_append, Option.bind_some, Option.bind_none, Option.map_some, Option.map_none, if_true, if_false, ite_true, ite_false, if_false_right, decide_eq_true_eq, Bool.not_eq_true', decide_eq_false_iff_not, Bool.not_eq_true, reduceCtorEq, reduceIte, ne_eq, not_false_eq_true, not_true_eq_false, true_and, and_true, false_and, and_false, implies_true, Bool.false_eq_true, List.isEmpty_cons, List.isEmpty_nil, Bool.not_true, Bool.not_false, List.map_cons, List.map_nil, List.cons_append, List.nil_append, List.replicate_succ, List.replicate_zero, Nat.reduceSub, Nat.reduceAdd, Nat.reduceMul, Int.reduceSub, Int.reduceNeg, Int.reduceAdd, Int.reduceMul, Int.reducePow, Int.reduceToNat, Nat.reduceLeDiff, lock, unls, unl, wip, rsto, fzO, frz, noal, lfree, lfrees, lfrees_ints, aft, Bool.and_self, Bool.and_true, Bool.true_and, m1, m2, m3, m4, hz, Int.natCast_zero, Int.lt_irrefl]; exact fin _
  obtain ⟨x, h1, D, h2, h3⟩ := main
  exact ⟨D, h2, by rw [h1, h3]⟩
/-! ### values compared -/
mutual
theorem eqv_refl0 : ∀ d : PyData, d.canLay0 = true → PyData.eqv d d = true
  | .none, _ => by simp [PyData.eqv]
  | .bool b, _ => by simp [PyData.eqv]
  | .int i, _ => by simp [PyData.eqv]
  | .str x, _ => by simp [PyData.eqv]
  | .list ds, h => by simp only [PyData.eqv]; exact eqvAll_refl0 ds (by simpa [PyData.canLay0] using h)
  | .tuple ds, h => by simp only [PyData.eqv]; exact eqvAll_refl0 ds (by simpa [PyData.canLay0] using h)
  | .dict _, h => by simp [PyData.canLay0] at h
theorem eqvAll_refl0 : ∀ ds : List PyData, PyData.canLayAll0 ds = true → PyData.eqvAll ds ds = true
  | [], _ => by simp [PyData.eqvAll]
  | a :: b, h => by
    have h' : a.canLay0 = true ∧ PyData.canLayAll0 b = true := by simpa [PyData.canLayAll0] using h
    simp only [PyData.eqvAll, eqv_refl0 a h'.1, eqvAll_refl0 b h'.2, Bool.and_self]
end
theorem eqv_refl (d : PyData) (h : SeqAt.shaped d = true) : PyData.eqv d d = true := eqv_refl0 d (SeqAt.canLay_of_shaped h)
theorem eqD_refl {d : PyData} (h : SeqAt.shaped d = true) : eqD d d = some true := by
  unfold eqD
  rw [if_pos ⟨h, h⟩, eqv_refl d h]
theorem canLay_ints (ns : List Int) : PyData.canLayAll0 (ns.map .int) = true := by
  induction ns with
  | nil => simp [PyData.canLayAll0]
  | cons n ns ih => simp [PyData.canLayAll0, PyData.canLay0, ih]
theorem depth_ints (ns : List Int) : PyData.depthAll (ns.map .int) = 0 := by
  induction ns with
  | nil => simp [PyData.depthAll]
  | cons n ns ih => simp [PyData.depthAll, PyData.depth, ih]
theorem eqv_ints : ∀ (ns ms : List Int), PyData.eqvAll (ns.map .int) (ms.map .int) = decide (ns = ms)
  | [], [] => by simp [PyData.eqvAll]
  | [], _ :: _ => by simp [PyData.eqvAll]
  | _ :: _, [] => by simp [PyData.eqvAll]
  | n :: ns, m :: ms => by
    simp only [List.map_cons, PyData.eqvAll, PyData.eqv, eqv_ints ns ms, List.cons.injEq]
    rw [Bool.decide_and]
    rfl
theorem shaped_intsL (ns : List Int) : SeqAt.shaped (.list (ns.map .int)) = true := by
  simp [SeqAt.shaped, PyData.canLay0, PyData.depth, canLay_ints, depth_ints]
theorem shaped_intsT (ns : List Int) : SeqAt.shaped (.tuple (ns.map .int)) = true := by
  simp [SeqAt.shaped, PyData.canLay0, PyData.depth, canLay_ints, depth_ints]
theorem eq_intsL (ns ms : List Int) : cmpD .eq (.list (ns.map .int)) (.list (ms.map .int)) = some (decide (ns = ms)) := by
  show eqD _ _ = _
  unfold eqD
  rw [if_pos ⟨shaped_intsL ns, shaped_intsL ms⟩, PyData.eqv, eqv_ints]
theorem eq_intsT (ns ms : List Int) : cmpD .eq (.tuple (ns.map .int)) (.tuple (ms.map .int)) = some (decide (ns = ms)) := by
  show eqD _ _ = _
  unfold eqD
  rw [if_pos ⟨shaped_intsT ns, shaped_intsT ms⟩, PyData.eqv, eqv_ints]
theorem ne_intsL (ns ms : List Int) : cmpD .ne (.list (ns.map .int)) (.list (ms.map .int)) = some (!decide (ns = ms)) := by
  show (eqD _ _).map not = _
  rw [show eqD (.list (ns.map .int)) (.list (ms.map .int)) = _ from eq_intsL ns ms]
  rfl
theorem ne_intsT (ns ms : List Int) : cmpD .ne (.tuple (ns.map .int)) (.tuple (ms.map .int)) = some (!decide (ns = ms)) := by
  show (eqD _ _).map not = _
  rw [show eqD (.tuple (ns.map .int)) (.tuple (ms.map .int)) = _ from eq_intsT ns ms]
  rfl
theorem eq_str {a b : Str} (h : PyData.strOk a = true) (h' : PyData.strOk b = true) : cmpD .eq (.str a) (.str b) = some (decide (a = b)) := by
  show eqD _ _ = _
  unfold eqD
  rw [if_pos ⟨by simp [SeqAt.shaped, PyData.canLay0, PyData.depth, h], by simp [SeqAt.shaped, PyData.canLay0, PyData.depth, h']⟩, PyData.eqv]
  rfl
/-! ### _law_is_integer, _law_is -/
theorem isI_int {i : Int} : fIs "int" [.int i] = some (.bool true, false) := rfl
theorem isI_bool {i : Int} : fIs "bool" [.int i] = some (.bool false, false) := rfl
theorem isInt_ok (hp : prog[i]? = some cIsInt) {k : Nat} (hk : 1 ≤ k) (z : Int) : run prog wf k i [.int z] = some (.bool true, false) := by
  refine run_eq (d := 0) hp hk fun k _ => Wp.fn rfl ?_
  unfold cIsInt
  simp -implicitDefEqProofs only [↓Wp_def, Wp_some, Wp_none, Wp_bind, Wp_ite, Wp_map, wNil, wEx, wAsg, wApp, wSto, wAug, augD, augK_some, augK_none, stE, wAugs, wRetV, wRet, wRetn, wIfe, FQ_nx, FQ_rt, eCon, eVar, eBin, eNeg, eNott, eAndd, eOrr, eCmp, eChain, eChain3, eIte, eTup, eLst, eIdx, eIdxm, eLenset, eJoin, eSlc, eRev, eCall, eFn, ePop, ePopAt, tVal, tAndd, tOrr, tNott, toNone, toSome, oNone, oSome, esNil, esCons, hsNil, hsCons, hVar, hCon, hBin, hNeg, hNott, hAndd, hOrr, hCmp, hChain, hChain3, hIte, hTup, hLst, hIdx, hIdxm, hLenset, hJoin, hSlc, hRev, hCall, hFn, hLc, hGq, hPop, hPopAt, iSeq, iRng1, iRng2, iEnm, iZip, RV.fetch, fetchs, asn1, asnT, asnN, asnC, lkU, lkS, lkO, lkL, slF, slL, leC, leUs, leUo, leN, PyData.int.injEq, PyData.bool.injEq, PyData.str.injEq, PyData.tuple.injEq, PyData.list.injEq, Prod.mk.injEq, List.cons.injEq, Sum.inl.injEq, Option.some.injEq, leS, leO, leL, ow?, retD, varD, hvar, rAdd, rAddL, rAddT, rAddS, rSub, rMul, rPow, aAdd, aSub, aAddS, cLt, cLe, cGt, cGe, cEqI, cNeI, cEqB, cNeB, truI, truB, truL, truT, truN, intI, ixL, ixT, atN, atL, atM, atPlus, atPlus2, fdiv_pos, mod_pos, Int.reduceLT, Int.reduceLE, Int.reduceEq, Int.reduceMod, Int.reduceDiv, Nat.reduceLT, fnLenL, fnLenT, fnLenF, fnLenS, fnAbs, fnInt, fnList, fnListT, fnTuple, fnTupleT, fnMax2, fnMin2, fnSumL, fnSumT, fnMaxL, fnMaxT, fnMinL, fnMinT, fnAllL, fnAnyL, fnIsNone, fnNotNone, fnIsInt, fnIsBool, fnIsStr, fnIsTup, nN, nI, nB, nS, nL, nT, itmL, itmT, itmS, enmL', enmS', lckV, slcT, slcL, slcS, rgD_nat, rgD_pred, rgD_succ, setIxE, intsOf_ints, boolsOf_bools, strsOf_strs, List.getElem?_cons_succ, List.getElem?_cons_zero, List.set_cons_succ, List.set_cons_zero, List.getElem?_map, List.length_map, List.length_cons, List.length_nil, List.length_append, List.map_append, Option.bind_some, Option.bind_none, Option.map_some, Option.map_none, if_true, if_false, ite_true, ite_false, if_false_right, decide_eq_true_eq, Bool.not_eq_true', decide_eq_false_iff_not, Bool.not_eq_true, reduceCtorEq, reduceIte, ne_eq, not_false_eq_true, not_true_eq_false, true_and, and_true, false_and, and_false, implies_true, Bool.false_eq_true, List.isEmpty_cons, List.isEmpty_nil, Bool.not_true, Bool.not_false, List.map_cons, List.map_nil, List.cons_append, List.nil_append, List.replicate_succ, List.replicate_zero, Nat.reduceSub, Nat.reduceAdd, Nat.reduceMul, Int.reduceSub, Int.reduceNeg, Int.reduceAdd, Int.reduceMul, Int.reducePow, Int.reduceToNat, Nat.reduceLeDiff, lock, unls, unl, wip, rsto, fzO, frz, noal, lfree, lfrees, lfrees_ints, aft, Bool.and_self, Bool.and_true, Bool.true_and, isI_int, isI_bool]
/-- a value built of None, whole numbers, bools, texts -/
inductive Pl : Nat → PyData → Prop
  | none (m : Nat) : Pl m .none
  | int (m : Nat) (i : Int) : Pl m (.int i)
  | bool (m : Nat) (b : Bool) : Pl m (.bool b)
  | str (m : Nat) (x : Str) : PyData.strOk x = true → Pl m (.str x)
  | tup (m : Nat) (ds : List PyData) : (∀ d ∈ ds, Pl m d) → ds.length ≤ 1000000 → Pl (m + 1) (.tuple ds)
theorem Pl.ints {m : Nat} {ns : List Int} (h : ns.length ≤ 1000000) : Pl (m + 1) (.tuple (ns.map .int)) := .tup m _ (fun d hd => by
  obtain ⟨i, _, rfl⟩ := List.mem_map.mp hd
  exact .int m i) (by simpa using h)
theorem isB_none {n : String} (h : ("NoneType" == n || ("NoneType" == "bool" && n == "int")) = false) : fIs n [.none] = some (.bool false, false) := by show some (PyData.bool _, false) = _; rw [h]
theorem isT_bool : fIs "bool" [.bool b] = some (.bool true, false) := rfl
theorem isT_boolI : fIs "int" [.bool b] = some (.bool true, false) := rfl
theorem isT_str : fIs "str" [.str x] = some (.bool true, false) := rfl
theorem isT_strB : fIs "bool" [.str x] = some (.bool false, false) := rfl
theorem isT_strI : fIs "int" [.str x] = some (.bool false, false) := rfl
theorem isT_tup : fIs "tuple" [.tuple x] = some (.bool true, false) := rfl
theorem isT_tupS : fIs "str" [.tuple x] = some (.bool false, false) := rfl
theorem isT_tupB : fIs "bool" [.tuple x] = some (.bool false, false) := rfl
theorem isT_tupI : fIs "int" [.tuple x] = some (.bool false, false) := rfl
theorem allT (n : Nat) : boolsOf (List.replicate n (.bool true)) = some (List.replicate n true) := by
  induction n with
  | zero => rfl
  | succ n ih => show (boolsOf (List.replicate n (.bool true))).bind _ = _; rw [ih]; rfl
theorem all_id (l : List Bool) : l.all id = decide (∀ b ∈ l, b = true) := by
  rw [Bool.eq_iff_iff, List.all_eq_true, decide_eq_true_iff]
  rfl
theorem all_rep (n : Nat) : (List.replicate n true).all id = true := by
  rw [List.all_eq_true]
  exact fun b hb => List.eq_of_mem_replicate hb
theorem is_ok (hS : prog[iS]? = some (cIs iI iS)) (hI : prog[iI]? = some cIsInt) : ∀ (m : Nat) (d : PyData), Pl m d → ∀ k, m + 2 ≤ k → run prog wf k iS [d, d] = some (.bool true, false)
  | m, .none, _, k, hk => by
    refine run_eq (d := m + 1) hS hk fun k _ => Wp.fn rfl ?_
    unfold cIs
    simp -implicitDefEqProofs only [↓Wp_def, Wp_some, Wp_none, Wp_bind, Wp_ite, Wp_map, wNil, wEx, wAsg, wApp, wSto, wAug, augD, augK_some, augK_none, stE, wAugs, wRetV, wRet, wRetn, wIfe, FQ_nx, FQ_rt, eCon, eVar, eBin, eNeg, eNott, eAndd, eOrr, eCmp, eChain, eChain3, eIte, eTup, eLst, eIdx, eIdxm, eLenset, eJoin, eSlc, eRev, eCall, eFn, ePop, ePopAt, tVal, tAndd, tOrr, tNott, toNone, toSome, oNone, oSome, esNil, esCons, hsNil, hsCons, hVar, hCon, hBin, hNeg, hNott, hAndd, hOrr, hCmp, hChain, hChain3, hIte, hTup, hLst, hIdx, hIdxm, hLenset, hJoin, hSlc, hRev, hCall, hFn, hLc, hGq, hPop, hPopAt, iSeq, iRng1, iRng2, iEnm, iZip, RV.fetch, fetchs, asn1, asnT, asnN, asnC, lkU, lkS, lkO, lkL, slF, slL, leC, leUs, leUo, leN, PyData.int.injEq, PyData.bool.injEq, PyData.str.injEq, PyData.tuple.injEq, PyData.list.injEq, Prod.mk.injEq, List.cons.injEq, Sum.inl.injEq, Option.some.injEq, leS, leO, leL, ow?, retD, varD, hvar, rAdd, rAddL, rAddT, rAddS, rSub, rMul, rPow, aAdd, aSub, aAddS, cLt, cLe, cGt, cGe, cEqI, cNeI, cEqB, cNeB, truI, truB, truL, truT, truN, intI, ixL, ixT, atN, atL, atM, atPlus, atPlus2, fdiv_pos, mod_pos, Int.reduceLT, Int.reduceLE, Int.reduceEq, Int.reduceMod, Int.reduceDiv, Nat.reduceLT, fnLenL, fnLenT, fnLenF, fnLenS, fnAbs, fnInt, fnList, fnListT, fnTuple, fnTupleT, fnMax2, fnMin2, fnSumL, fnSumT, fnMaxL, fnMaxT, fnMinL, fnMinT, fnAllL, fnAnyL, fnIsNone, fnNotNone, fnIsInt, fnIsBool, fnIsStr, fnIsTup, nN, nI, nB, nS, nL, nT, itmL, itmT, itmS, enmL', enmS', lckV, slcT, slcL, slcS, rgD_nat, rgD_pred, rgD_succ, setIxE, intsOf_ints, boolsOf_bools, strsOf_strs, List.getElem?_cons_succ, List.getElem?_cons_zero, List.set_cons_succ, List.set_cons_zero, List.getElem?_map, List.length_map, List.length_cons, List.length_nil, List.length_append, List.map_append, Option.bind_some, Option.bind_none, Option.map_some, Option.map_none, if_true, if_false, ite_true, ite_false, if_false_right, decide_eq_true_eq, Bool.not_eq_true', decide_eq_false_iff_not, Bool.not_eq_true, reduceCtorEq, reduceIte, ne_eq, not_false_eq_true, not_true_eq_false, true_and, and_true, false_and, and_false, implies_true, Bool.false_eq_true, List.isEmpty_cons, List.isEmpty_nil, Bool.not_true, Bool.not_false, List.map_cons, List.map_nil, List.cons_append, List.nil_append, List.replicate_succ, List.replicate_zero, Nat.reduceSub, Nat.reduceAdd, Nat.reduceMul, Int.reduceSub, Int.reduceNeg, Int.reduceAdd, Int.reduceMul, Int.reducePow, Int.reduceToNat, Nat.reduceLeDiff, lock, unls, unl, wip, rsto, fzO, frz, noal, lfree, lfrees, lfrees_ints, aft, Bool.and_self, Bool.and_true, Bool.true_and]
  | m, .int z, _, k, hk => by
    refine run_eq (d := m + 1) hS hk fun k hk => Wp.fn rfl ?_
    unfold cIs
    simp -implicitDefEqProofs only [↓Wp_def, Wp_some, Wp_none, Wp_bind, Wp_ite, Wp_map, wNil, wEx, wAsg, wApp, wSto, wAug, augD, augK_some, augK_none, stE, wAugs, wRetV, wRet, wRetn, wIfe, FQ_nx, FQ_rt, eCon, eVar, eBin, eNeg, eNott, eAndd, eOrr, eCmp, eChain, eChain3, eIte, eTup, eLst, eIdx, eIdxm, eLenset, eJoin, eSlc, eRev, eCall, eFn, ePop, ePopAt, tVal, tAndd, tOrr, tNott, toNone, toSome, oNone, oSome, esNil, esCons, hsNil, hsCons, hVar, hCon, hBin, hNeg, hNott, hAndd, hOrr, hCmp, hChain, hChain3, hIte, hTup, hLst, hIdx, hIdxm, hLenset, hJoin, hSlc, hRev, hCall, hFn, hLc, hGq, hPop, hPopAt, iSeq, iRng1, iRng2, iEnm, iZip, RV.fetch, fetchs, asn1, asnT, asnN, asnC, lkU, lkS, lkO, lkL, slF, slL, leC, leUs, leUo, leN, PyData.int.injEq, PyData.bool.injEq, PyData.str.injEq, PyData.tuple.injEq, PyData.list.injEq, Prod.mk.injEq, List.cons.injEq, Sum.inl.injEq, Option.some.injEq, leS, leO, leL, ow?, retD, varD, hvar, rAdd, rAddL, rAddT, rAddS, rSub, rMul, rPow, aAdd, aSub, aAddS, cLt, cLe, cGt, cGe, cEqI, cNeI, cEqB, cNeB, truI, truB, truL, truT, truN, intI, ixL, ixT, atN, atL, atM, atPlus, atPlus2, fdiv_pos, mod_pos, Int.reduceLT, Int.reduceLE, Int.reduceEq, Int.reduceMod, Int.reduceDiv, Nat.reduceLT, fnLenL, fnLenT, fnLenF, fnLenS, fnAbs, fnInt, fnList, fnListT, fnTuple, fnTupleT, fnMax2, fnMin2, fnSumL, fnSumT, fnMaxL, fnMaxT, fnMinL, fnMinT, fnAllL, fnAnyL, fnIsNone, fnNotNone, fnIsInt, fnIsBool, fnIsStr, fnIsTup, nN, nI, nB, nS, nL, nT, itmL, itmT, itmS, enmL', enmS', lckV, slcT, slcL, slcS, rgD_nat, rgD_pred, rgD_succ, setIxE, intsOf_ints, boolsOf_bools, strsOf_strs, List.getElem?_cons_succ, List.getElem?_cons_zero, List.set_cons_succ, List.set_cons_zero, List.getElem?_map, List.length_map, List.length_cons, List.length_nil, List.length_append, List.map_append, Option.bind_some, Option.bind_none, Option.map_some, Option.map_none, if_true, if_false, ite_true, ite_false, if_false_right, decide_eq_true_eq, Bool.not_eq_true', decide_eq_false_iff_not, Bool.not_eq_true, reduceCtorEq, reduceIte, ne_eq, not_false_eq_true, not_true_eq_false, true_and, and_true, false_and, and_false, implies_true, Bool.false_eq_true, List.isEmpty_cons, List.isEmpty_nil, Bool.not_true, Bool.not_false, List.map_cons, List.map_nil, List.cons_append, List.nil_append, List.replicate_succ, List.replicate_zero, Nat.reduceSub, Nat.reduceAdd, Nat.reduceMul, Int.reduceSub, Int.reduceNeg, Int.reduceAdd, Int.reduceMul, Int.reducePow, Int.reduceToNat, Nat.reduceLeDiff, lock, unls, unl, wip, rsto, fzO, frz, noal, lfree, lfrees, lfrees_ints, aft, Bool.and_self, Bool.and_true, Bool.true_and, isI_int, isI_bool, isInt_ok hI (show 1 ≤ k by omega) z, aft]
  | m, .bool b, _, k, hk => by
    refine run_eq (d := m + 1) hS hk fun k hk => Wp.fn rfl ?_
    unfold cIs
    simp -implicitDefEqProofs only [↓Wp_def, Wp_some, Wp_none, Wp_bind, Wp_ite, Wp_map, wNil, wEx, wAsg, wApp, wSto, wAug, augD, augK_some, augK_none, stE, wAugs, wRetV, wRet, wRetn, wIfe, FQ_nx, FQ_rt, eCon, eVar, eBin, eNeg, eNott, eAndd, eOrr, eCmp, eChain, eChain3, eIte, eTup, eLst, eIdx, eIdxm, eLenset, eJoin, eSlc, eRev, eCall, eFn, ePop, ePopAt, tVal, tAndd, tOrr, tNott, toNone, toSome, oNone, oSome, esNil, esCons, hsNil, hsCons, hVar, hCon, hBin, hNeg, hNott, hAndd, hOrr, hCmp, hChain, hChain3, hIte, hTup, hLst, hIdx, hIdxm, hLenset, hJoin, hSlc, hRev, hCall, hFn, hLc, hGq, hPop, hPopAt, iSeq, iRng1, iRng2, iEnm, iZip, RV.fetch, fetchs, asn1, asnT, asnN, asnC, lkU, lkS, lkO, lkL, slF, slL, leC, leUs, leUo, leN, PyData.int.injEq, PyData.bool.injEq, PyData.str.injEq, PyData.tuple.injEq, PyData.list.injEq, Prod.mk.injEq, List.cons.injEq, Sum.inl.injEq, Option.some.injEq, leS, leO, leL, ow?, retD, varD, hvar, rAdd, rAddL, rAddT, rAddS, rSub, rMul, rPow, aAdd, aSub, aAddS, cLt, cLe, cGt, cGe, cEqI, cNeI, cEqB, cNeB, truI, truB, truL, truT, truN, intI, ixL, ixT, atN, atL, atM, atPlus, atPlus2, fdiv_pos, mod_pos, Int.reduceLT, Int.reduceLE, Int.reduceEq, Int.reduceMod, Int.reduceDiv, Nat.reduceLT, fnLenL, fnLenT, fnLenF, fnLenS, fnAbs, fnInt, fnList, fnListT, fnTuple, fnTupleT, fnMax2, fnMin2, fnSumL, fnSumT, fnMaxL, fnMaxT, fnMinL, fnMinT, fnAllL, fnAnyL, fnIsNone, fnNotNone, fnIsInt, fnIsBool, fnIsStr, fnIsTup, nN, nI, nB, nS, nL, nT, itmL, itmT, itmS, enmL', enmS', lckV, slcT, slcL, slcS, rgD_nat, rgD_pred, rgD_succ, setIxE, intsOf_ints, boolsOf_bools, strsOf_strs, List.getElem?_cons_succ, List.getElem?_cons_zero, List.set_cons_succ, List.set_cons_zero, List.getElem?_map, List.length_map, List.length_cons, List.length_nil, List.length_append, List.map_append, Option.bind_some, Option.bind_none, Option.map_some, Option.map_none, if_true, if_false, ite_true, ite_false, if_false_right, decide_eq_true_eq, Bool.not_eq_true', decide_eq_false_iff_not, Bool.not_eq_true, reduceCtorEq, reduceIte, ne_eq, not_false_eq_true, not_true_eq_false, true_and, and_true, false_and, and_false, implies_true, Bool.false_eq_true, List.isEmpty_cons, List.isEmpty_nil, Bool.not_true, Bool.not_false, List.map_cons, List.map_nil, List.cons_append, List.nil_append, List.replicate_succ, List.replicate_zero, Nat.reduceSub, Nat.reduceAdd, Nat.reduceMul, Int.reduceSub, Int.reduceNeg, Int.reduceAdd, Int.reduceMul, Int.reducePow, Int.reduceToNat, Nat.reduceLeDiff, lock, unls, unl, wip, rsto, fzO, frz, noal, lfree, lfrees, lfrees_ints, aft, Bool.and_self, Bool.and_true, Bool.true_and, isT_bool, isT_boolI, beq_self_eq_true]
  | m, .str x, hx, k, hk => by
    refine run_eq (d := m + 1) hS hk fun k hk => Wp.fn rfl ?_
    have ho : PyData.strOk x = true := by cases hx; assumption
    unfold cIs
    simp -implicitDefEqProofs only [↓Wp_def, Wp_some, Wp_none, Wp_bind, Wp_ite, Wp_map, wNil, wEx, wAsg, wApp, wSto, wAug, augD, augK_some, augK_none, stE, wAugs, wRetV, wRet, wRetn, wIfe, FQ_nx, FQ_rt, eCon, eVar, eBin, eNeg, eNott, eAndd, eOrr, eCmp, eChain, eChain3, eIte, eTup, eLst, eIdx, eIdxm, eLenset, eJoin, eSlc, eRev, eCall, eFn, ePop, ePopAt, tVal, tAndd, tOrr, tNott, toNone, toSome, oNone, oSome, esNil, esCons, hsNil, hsCons, hVar, hCon, hBin, hNeg, hNott, hAndd, hOrr, hCmp, hChain, hChain3, hIte, hTup, hLst, hIdx, hIdxm, hLenset, hJoin, hSlc, hRev, hCall, hFn, hLc, hGq, hPop, hPopAt, iSeq, iRng1, iRng2, iEnm, iZip, RV.fetch, fetchs, asn1, asnT, asnN, asnC, lkU, lkS, lkO, lkL, slF, slL, leC, leUs, leUo, leN, PyData.int.injEq, PyData.bool.injEq, PyData.str.injEq, PyData.tuple.injEq, PyData.list.injEq, Prod.mk.injEq, List.cons.injEq, Sum.inl.injEq, Option.some.injEq, leS, leO, leL, ow?, retD, varD, hvar, rAdd, rAddL, rAddT, rAddS, rSub, rMul, rPow, aAdd, aSub, aAddS, cLt, cLe, cGt, cGe, cEqI, cNeI, cEqB, cNeB, truI, truB, truL, truT, truN, intI, ixL, ixT, atN, atL, atM, atPlus, atPlus2, fdiv_pos, mod_pos, Int.reduceLT, Int.reduceLE, Int.reduceEq, Int.reduceMod, Int.reduceDiv, Nat.reduceLT, fnLenL, fnLenT, fnLenF, fnLenS, fnAbs, fnInt, fnList, fnListT, fnTuple, fnTupleT, fnMax2, fnMin2, fnSumL, fnSumT, fnMaxL, fnMaxT, fnMinL, fnMinT, fnAllL, fnAnyL, fnIsNone, fnNotNone, fnIsInt, fnIsBool, fnIsStr, fnIsTup, nN, nI, nB, nS, nL, nT, itmL, itmT, itmS, enmL', enmS', lckV, slcT, slcL, slcS, rgD_nat, rgD_pred, rgD_succ, setIxE, intsOf_ints, boolsOf_bools, strsOf_strs, List.getElem?_cons_succ, List.getElem?_cons_zero, List.set_cons_succ, List.set_cons_zero, List.getElem?_map, List.length_map, List.length_cons, List.length_nil, List.length_append, List.map_append, Option.bind_some, Option.bind_none, Option.map_some, Option.map_none, if_true, if_false, ite_true, ite_false, if_false_right, decide_eq_true_eq, Bool.not_eq_true', decide_eq_false_iff_not, Bool.not_eq_true, reduceCtorEq, reduceIte, ne_eq, not_false_eq_true, not_true_eq_false, true_and, and_true, false_and, and_false, implies_true, Bool.false_eq_true, List.isEmpty_cons, List.isEmpty_nil, Bool.not_true, Bool.not_false, List.map_cons, List.map_nil, List.cons_append, List.nil_append, List.replicate_succ, List.replicate_zero, Nat.reduceSub, Nat.reduceAdd, Nat.reduceMul, Int.reduceSub, Int.reduceNeg, Int.reduceAdd, Int.reduceMul, Int.reducePow, Int.reduceToNat, Nat.reduceLeDiff, lock, unls, unl, wip, rsto, fzO, frz, noal, lfree, lfrees, lfrees_ints, aft, Bool.and_self, Bool.and_true, Bool.true_and, isT_str, isT_strB, isT_strI, eq_str ho ho, decide_true]
  | 0, .tuple ds, hx, k, hk => by cases hx
  | m + 1, .tuple ds, hx, k, hk => by
    refine run_eq (d := m + 2) hS hk fun k hk => Wp.fn rfl ?_
    have hd : ∀ d ∈ ds, Pl m d := by cases hx; assumption
    have hl : ds.length ≤ 1000000 := by cases hx; assumption
    have r := rgq_of (i := (ds.length : Int)) (by omega) (by omega)
    unfold cIs
    simp -implicitDefEqProofs only [↓Wp_def, Wp_some, Wp_none, Wp_bind, Wp_ite, Wp_map, wNil, wEx, wAsg, wApp, wSto, wAug, augD, augK_some, augK_none, stE, wAugs, wRetV, wRet, wRetn, wIfe, FQ_nx, FQ_rt, eCon, eVar, eBin, eNeg, eNott, eAndd, eOrr, eCmp, eChain, eChain3, eIte, eTup, eLst, eIdx, eIdxm, eLenset, eJoin, eSlc, eRev, eCall, eFn, ePop, ePopAt, tVal, tAndd, tOrr, tNott, toNone, toSome, oNone, oSome, esNil, esCons, hsNil, hsCons, hVar, hCon, hBin, hNeg, hNott, hAndd, hOrr, hCmp, hChain, hChain3, hIte, hTup, hLst, hIdx, hIdxm, hLenset, hJoin, hSlc, hRev, hCall, hFn, hLc, hGq, hPop, hPopAt, iSeq, iRng1, iRng2, iEnm, iZip, RV.fetch, fetchs, asn1, asnT, asnN, asnC, lkU, lkS, lkO, lkL, slF, slL, leC, leUs, leUo, leN, PyData.int.injEq, PyData.bool.injEq, PyData.str.injEq, PyData.tuple.injEq, PyData.list.injEq, Prod.mk.injEq, List.cons.injEq, Sum.inl.injEq, Option.some.injEq, leS, leO, leL, ow?, retD, varD, hvar, rAdd, rAddL, rAddT, rAddS, rSub, rMul, rPow, aAdd, aSub, aAddS, cLt, cLe, cGt, cGe, cEqI, cNeI, cEqB, cNeB, truI, truB, truL, truT, truN, intI, ixL, ixT, atN, atL, atM, atPlus, atPlus2, fdiv_pos, mod_pos, Int.reduceLT, Int.reduceLE, Int.reduceEq, Int.reduceMod, Int.reduceDiv, Nat.reduceLT, fnLenL, fnLenT, fnLenF, fnLenS, fnAbs, fnInt, fnList, fnListT, fnTuple, fnTupleT, fnMax2, fnMin2, fnSumL, fnSumT, fnMaxL, fnMaxT, fnMinL, fnMinT, fnAllL, fnAnyL, fnIsNone, fnNotNone, fnIsInt, fnIsBool, fnIsStr, fnIsTup, nN, nI, nB, nS, nL, nT, itmL, itmT, itmS, enmL', enmS', lckV, slcT, slcL, slcS, rgD_nat, rgD_pred, rgD_succ, setIxE, intsOf_ints, boolsOf_bools, strsOf_strs, List.getElem?_cons_succ, List.getElem?_cons_zero, List.set_cons_succ, List.set_cons_zero, List.getElem?_map, List.length_map, List.length_cons, List.length_nil, List.length_append, List.map_append, Option.bind_some, Option.bind_none, Option.map_some, Option.map_none, if_true, if_false, ite_true, ite_false, if_false_right, decide_eq_true_eq, Bool.not_eq_true', decide_eq_false_iff_not, Bool.not_eq_true, reduceCtorEq, reduceIte, ne_eq, not_false_eq_true, not_true_eq_false, true_and, and_true, false_and, and_false, implies_true, Bool.false_eq_true, List.isEmpty_cons, List.isEmpty_nil, Bool.not_true, Bool.not_false, List.map_cons, List.map_nil, List.cons_append, List.nil_append, List.replicate_succ, List.replicate_zero, Nat.reduceSub, Nat.reduceAdd, Nat.reduceMul, Int.reduceSub, Int.reduceNeg, Int.reduceAdd, Int.reduceMul, Int.reducePow, Int.reduceToNat, Nat.reduceLeDiff, lock, unls, unl, wip, rsto, fzO, frz, noal, lfree, lfrees, lfrees_ints, aft, Bool.and_self, Bool.and_true, Bool.true_and, isT_tup, isT_tupS, isT_tupB, isT_tupI, decide_true]
    refine Wp.lcM (as := List.range ds.length) (enc := fun j : Nat => .int j) (fun _ => .bool true) [.sh (.tuple ds), .sh (.tuple ds), .un] [.sh (.tuple ds), .sh (.tuple ds), .un] ?_ (by simp; omega) ?_ ?_
    · simp -implicitDefEqProofs only [↓Wp_def, Wp_some, Wp_none, Wp_bind, Wp_ite, Wp_map, wNil, wEx, wAsg, wApp, wSto, wAug, augD, augK_some, augK_none, stE, wAugs, wRetV, wRet, wRetn, wIfe, FQ_nx, FQ_rt, eCon, eVar, eBin, eNeg, eNott, eAndd, eOrr, eCmp, eChain, eChain3, eIte, eTup, eLst, eIdx, eIdxm, eLenset, eJoin, eSlc, eRev, eCall, eFn, ePop, ePopAt, tVal, tAndd, tOrr, tNott, toNone, toSome, oNone, oSome, esNil, esCons, hsNil, hsCons, hVar, hCon, hBin, hNeg, hNott, hAndd, hOrr, hCmp, hChain, hChain3, hIte, hTup, hLst, hIdx, hIdxm, hLenset, hJoin, hSlc, hRev, hCall, hFn, hLc, hGq, hPop, hPopAt, iSeq, iRng1, iRng2, iEnm, iZip, RV.fetch, fetchs, asn1, asnT, asnN, asnC, lkU, lkS, lkO, lkL, slF, slL, leC, leUs, leUo, leN, PyData.int.injEq, PyData.bool.injEq, PyData.str.injEq, PyData.tuple.injEq, PyData.list.injEq, Prod.mk.injEq, List.cons.injEq, Sum.inl.injEq, Option.some.injEq, leS, leO, leL, ow?, retD, varD, hvar, rAdd, rAddL, rAddT, rAddS, rSub, rMul, rPow, aAdd, aSub, aAddS, cLt, cLe, cGt, cGe, cEqI, cNeI, cEqB, cNeB, truI, truB, truL, truT, truN, intI, ixL, ixT, atN, atL, atM, atPlus, atPlus2, fdiv_pos, mod_pos, Int.reduceLT, Int.reduceLE, Int.reduceEq, Int.reduceMod, Int.reduceDiv, Nat.reduceLT, fnLenL, fnLenT, fnLenF, fnLenS, fnAbs, fnInt, fnList, fnListT, fnTuple, fnTupleT, fnMax2, fnMin2, fnSumL, fnSumT, fnMaxL, fnMaxT, fnMinL, fnMinT, fnAllL, fnAnyL, fnIsNone, fnNotNone, fnIsInt, fnIsBool, fnIsStr, fnIsTup, nN, nI, nB, nS, nL, nT, itmL, itmT, itmS, enmL', enmS', lckV, slcT, slcL, slcS, rgD_nat, rgD_pred, rgD_succ, setIxE, intsOf_ints, boolsOf_bools, strsOf_strs, List.getElem?_cons_succ, List.getElem?_cons_zero, List.set_cons_succ, List.set_cons_zero, List.getElem?_map, List.length_map, List.length_cons, List.length_nil, List.length_append, List.map_append, Option.bind_some, Option.bind_none, Option.map_some, Option.map_none, if_true, if_false, ite_true, ite_false, if_false_right, decide_eq_true_eq, Bool.not_eq_true', decide_eq_false_iff_not, Bool.not_eq_true, reduceCtorEq, reduceIte, ne_eq, not_false_eq_true, not_true_eq_false, true_and, and_true, false_and, and_false, implies_true, Bool.false_eq_true, List.isEmpty_cons, List.isEmpty_nil, Bool.not_true, Bool.not_false, List.map_cons, List.map_nil, List.cons_append, List.nil_append, List.replicate_succ, List.replicate_zero, Nat.reduceSub, Nat.reduceAdd, Nat.reduceMul, Int.reduceSub, Int.reduceNeg, Int.reduceAdd, Int.reduceMul, Int.reducePow, Int.reduceToNat, Nat.reduceLeDiff, lock, unls, unl, wip, rsto, fzO, frz, noal, lfree, lfrees, lfrees_ints, aft, Bool.and_self, Bool.and_true, Bool.true_and, r]
    · intro j hj
      have hj := List.mem_range.mp hj
      simp -implicitDefEqProofs only [↓Wp_def, Wp_some, Wp_none, Wp_bind, Wp_ite, Wp_map, wNil, wEx, wAsg, wApp, wSto, wAug, augD, augK_some, augK_none, stE, wAugs, wRetV, wRet, wRetn, wIfe, FQ_nx, FQ_rt, eCon, eVar, eBin, eNeg, eNott, eAndd, eOrr, eCmp, eChain, eChain3, eIte, eTup, eLst, eIdx, eIdxm, eLenset, eJoin, eSlc, eRev, eCall, eFn, ePop, ePopAt, tVal, tAndd, tOrr, tNott, toNone, toSome, oNone, oSome, esNil, esCons, hsNil, hsCons, hVar, hCon, hBin, hNeg, hNott, hAndd, hOrr, hCmp, hChain, hChain3, hIte, hTup, hLst, hIdx, hIdxm, hLenset, hJoin, hSlc, hRev, hCall, hFn, hLc, hGq, hPop, hPopAt, iSeq, iRng1, iRng2, iEnm, iZip, RV.fetch, fetchs, asn1, asnT, asnN, asnC, lkU, lkS, lkO, lkL, slF, slL, leC, leUs, leUo, leN, PyData.int.injEq, PyData.bool.injEq, PyData.str.injEq, PyData.tuple.injEq, PyData.list.injEq, Prod.mk.injEq, List.cons.injEq, Sum.inl.injEq, Option.some.injEq, leS, leO, leL, ow?, retD, varD, hvar, rAdd, rAddL, rAddT, rAddS, rSub, rMul, rPow, aAdd, aSub, aAddS, cLt, cLe, cGt, cGe, cEqI, cNeI, cEqB, cNeB, truI, truB, truL, truT, truN, intI, ixL, ixT, atN, atL, atM, atPlus, atPlus2, fdiv_pos, mod_pos, Int.reduceLT, Int.reduceLE, Int.reduceEq, Int.reduceMod, Int.reduceDiv, Nat.reduceLT, fnLenL, fnLenT, fnLenF, fnLenS, fnAbs, fnInt, fnList, fnListT, fnTuple, fnTupleT, fnMax2, fnMin2, fnSumL, fnSumT, fnMaxL, fnMaxT, fnMinL, fnMinT, fnAllL, fnAnyL, fnIsNone, fnNotNone, fnIsInt, fnIsBool, fnIsStr, fnIsTup, nN, nI, nB, nS, nL, nT, itmL, itmT, itmS, enmL', enmS', lckV, slcT, slcL, slcS, rgD_nat, rgD_pred, rgD_succ, setIxE, intsOf_ints, boolsOf_bools, strsOf_strs, List.getElem?_cons_succ, List.getElem?_cons_zero, List.set_cons_succ, List.set_cons_zero, List.getElem?_map, List.length_map, List.length_cons, List.length_nil, List.length_append, List.map_append, Option.bind_some, Option.bind_none, Option.map_some, Option.map_none, if_true, if_false, ite_true, ite_false, if_false_right, decide_eq_true_eq, Bool.not_eq_true', decide_eq_false_iff_not, Bool.not_eq_true, reduceCtorEq, reduceIte, ne_eq, not_false_eq_true, not_true_eq_false, true_and, and_true, false_and, and_false, implies_true, Bool.false_eq_true, List.isEmpty_cons, List.isEmpty_nil, Bool.not_true, Bool.not_false, List.map_cons, List.map_nil, List.cons_append, List.nil_append, List.replicate_succ, List.replicate_zero, Nat.reduceSub, Nat.reduceAdd, Nat.reduceMul, Int.reduceSub, Int.reduceNeg, Int.reduceAdd, Int.reduceMul, Int.reducePow, Int.reduceToNat, Nat.reduceLeDiff, lock, unls, unl, wip, rsto, fzO, frz, noal, lfree, lfrees, lfrees_ints, aft, Bool.and_self, Bool.and_true, Bool.true_and, List.getElem?_eq_getElem hj, is_ok hS hI m ds[j] (hd _ (List.getElem_mem hj)) k (by omega), aft]
    · have : (List.range ds.length).map (fun _ => PyData.bool true) = List.replicate ds.length (.bool true) := by rw [List.map_const', List.length_range]
      simp -implicitDefEqProofs only [↓Wp_def, Wp_some, Wp_none, Wp_bind, Wp_ite, Wp_map, wNil, wEx, wAsg, wApp, wSto, wAug, augD, augK_some, augK_none, stE, wAugs, wRetV, wRet, wRetn, wIfe, FQ_nx, FQ_rt, eCon, eVar, eBin, eNeg, eNott, eAndd, eOrr, eCmp, eChain, eChain3, eIte, eTup, eLst, eIdx, eIdxm, eLenset, eJoin, eSlc, eRev, eCall, eFn, ePop, ePopAt, tVal, tAndd, tOrr, tNott, toNone, toSome, oNone, oSome, esNil, esCons, hsNil, hsCons, hVar, hCon, hBin, hNeg, hNott, hAndd, hOrr, hCmp, hChain, hChain3, hIte, hTup, hLst, hIdx, hIdxm, hLenset, hJoin, hSlc, hRev, hCall, hFn, hLc, hGq, hPop, hPopAt, iSeq, iRng1, iRng2, iEnm, iZip, RV.fetch, fetchs, asn1, asnT, asnN, asnC, lkU, lkS, lkO, lkL, slF, slL, leC, leUs, leUo, leN, PyData.int.injEq, PyData.bool.injEq, PyData.str.injEq, PyData.tuple.injEq, PyData.list.injEq, Prod.mk.injEq, List.cons.injEq, Sum.inl.injEq, Option.some.injEq, leS, leO, leL, ow?, retD, varD, hvar, rAdd, rAddL, rAddT, rAddS, rSub, rMul, rPow, aAdd, aSub, aAddS, cLt, cLe, cGt, cGe, cEqI, cNeI, cEqB, cNeB, truI, truB, truL, truT, truN, intI, ixL, ixT, atN, atL, atM, atPlus, atPlus2, fdiv_pos, mod_pos, Int.reduceLT, Int.reduceLE, Int.reduceEq, Int.reduceMod, Int.reduceDiv, Nat.reduceLT, fnLenL, fnLenT, fnLenF, fnLenS, fnAbs, fnInt, fnList, fnListT, fnTuple, fnTupleT, fnMax2, fnMin2, fnSumL, fnSumT, fnMaxL, fnMaxT, fnMinL, fnMinT, fnAllL, fnAnyL, fnIsNone, fnNotNone, fnIsInt, fnIsBool, fnIsStr, fnIsTup, nN, nI, nB, nS, nL, nT, itmL, itmT, itmS, enmL', enmS', lckV, slcT, slcL, slcS, rgD_nat, rgD_pred, rgD_succ, setIxE, intsOf_ints, boolsOf_bools, strsOf_strs, List.getElem?_cons_succ, List.getElem?_cons_zero, List.set_cons_succ, List.set_cons_zero, List.getElem?_map, List.length_map, List.length_cons, List.length_nil, List.length_append, List.map_append, Option.bind_some, Option.bind_none, Option.map_some, Option.map_none, if_true, if_false, ite_true, ite_false, if_false_right, decide_eq_true_eq, Bool.not_eq_true', decide_eq_false_iff_not, Bool.not_eq_true, reduceCtorEq, reduceIte, ne_eq, not_false_eq_true, not_true_eq_false, true_and, and_true, false_and, and_false, implies_true, Bool.false_eq_true, List.isEmpty_cons, List.isEmpty_nil, Bool.not_true, Bool.not_false, List.map_cons, List.map_nil, List.cons_append, List.nil_append, List.replicate_succ, List.replicate_zero, Nat.reduceSub, Nat.reduceAdd, Nat.reduceMul, Int.reduceSub, Int.reduceNeg, Int.reduceAdd, Int.reduceMul, Int.reducePow, Int.reduceToNat, Nat.reduceLeDiff, lock, unls, unl, wip, rsto, fzO, frz, noal, lfree, lfrees, lfrees_ints, aft, Bool.and_self, Bool.and_true, Bool.true_and, this, allT, all_rep]
theorem isInts_ok (hp : prog[i]? = some (cIsInts iI)) (hI : prog[iI]? = some cIsInt) {k : Nat} (hk : 2 ≤ k) (ns : List Int) (hl : ns.length ≤ 1000000) : run prog wf k i [.tuple (ns.map .int)] = some (.bool true, false) := by
  refine run_eq (d := 1) hp hk fun k hk => Wp.fn rfl ?_
  unfold cIsInts
  simp -implicitDefEqProofs only [↓Wp_def, Wp_some, Wp_none, Wp_bind, Wp_ite, Wp_map, wNil, wEx, wAsg, wApp, wSto, wAug, augD, augK_some, augK_none, stE, wAugs, wRetV, wRet, wRetn, wIfe, FQ_nx, FQ_rt, eCon, eVar, eBin, eNeg, eNott, eAndd, eOrr, eCmp, eChain, eChain3, eIte, eTup, eLst, eIdx, eIdxm, eLenset, eJoin, eSlc, eRev, eCall, eFn, ePop, ePopAt, tVal, tAndd, tOrr, tNott, toNone, toSome, oNone, oSome, esNil, esCons, hsNil, hsCons, hVar, hCon, hBin, hNeg, hNott, hAndd, hOrr, hCmp, hChain, hChain3, hIte, hTup, hLst, hIdx, hIdxm, hLenset, hJoin, hSlc, hRev, hCall, hFn, hLc, hGq, hPop, hPopAt, iSeq, iRng1, iRng2, iEnm, iZip, RV.fetch, fetchs, asn1, asnT, asnN, asnC, lkU, lkS, lkO, lkL, slF, slL, leC, leUs, leUo, leN, PyData.int.injEq, PyData.bool.injEq, PyData.str.injEq, PyData.tuple.injEq, PyData.list.injEq, Prod.mk.injEq, List.cons.injEq, Sum.inl.injEq, Option.some.injEq, leS, leO, leL, ow?, retD, varD, hvar, rAdd, rAddL, rAddT, rAddS, rSub, rMul, rPow, aAdd, aSub, aAddS, cLt, cLe, cGt, cGe, cEqI, cNeI, cEqB, cNeB, truI, truB, truL, truT, truN, intI, ixL, ixT, atN, atL, atM, atPlus, atPlus2, fdiv_pos, mod_pos, Int.reduceLT, Int.reduceLE, Int.reduceEq, Int.reduceMod, Int.reduceDiv, Nat.reduceLT, fnLenL, fnLenT, fnLenF, fnLenS, fnAbs, fnInt, fnList, fnListT, fnTuple, fnTupleT, fnMax2, fnMin2, fnSumL, fnSumT, fnMaxL, fnMaxT, fnMinL, fnMinT, fnAllL, fnAnyL, fnIsNone, fnNotNone, fnIsInt, fnIsBool, fnIsStr, fnIsTup, nN, nI, nB, nS, nL, nT, itmL, itmT, itmS, enmL', enmS', lckV, slcT, slcL, slcS, rgD_nat, rgD_pred, rgD_succ, setIxE, intsOf_ints, boolsOf_bools, strsOf_strs, List.getElem?_cons_succ, List.getElem?_cons_zero, List.set_cons_succ, List.set_cons_zero, List.getElem?_map, List.length_map, List.length_cons, List.length_nil, List.length_append, List.map_append, Option.bind_some, Option.bind_none, Option.map_some, Option.map_none, if_true, if_false, ite_true, ite_false, if_false_right, decide_eq_true_eq, Bool.not_eq_true', decide_eq_false_iff_not, Bool.not_eq_true, reduceCtorEq, reduceIte, ne_eq, not_false_eq_true, not_true_eq_false, true_and, and_true, false_and, and_false, implies_true, Bool.false_eq_true, List.isEmpty_cons, List.isEmpty_nil, Bool.not_true, Bool.not_false, List.map_cons, List.map_nil, List.cons_append, List.nil_append, List.replicate_succ, List.replicate_zero, Nat.reduceSub, Nat.reduceAdd, Nat.reduceMul, Int.reduceSub, Int.reduceNeg, Int.reduceAdd, Int.reduceMul, Int.reducePow, Int.reduceToNat, Nat.reduceLeDiff, lock, unls, unl, wip, rsto, fzO, frz, noal, lfree, lfrees, lfrees_ints, aft, Bool.and_self, Bool.and_true, Bool.true_and, isT_tup]
  refine Wp.lcM (as := ns) (enc := .int) (fun _ => .bool true) [.sh (.tuple (ns.map .int)), .un] [.sh (.tuple (ns.map .int)), .un] ?_ (by omega) ?_ ?_
  · simp -implicitDefEqProofs only [↓Wp_def, Wp_some, Wp_none, Wp_bind, Wp_ite, Wp_map, wNil, wEx, wAsg, wApp, wSto, wAug, augD, augK_some, augK_none, stE, wAugs, wRetV, wRet, wRetn, wIfe, FQ_nx, FQ_rt, eCon, eVar, eBin, eNeg, eNott, eAndd, eOrr, eCmp, eChain, eChain3, eIte, eTup, eLst, eIdx, eIdxm, eLenset, eJoin, eSlc, eRev, eCall, eFn, ePop, ePopAt, tVal, tAndd, tOrr, tNott, toNone, toSome, oNone, oSome, esNil, esCons, hsNil, hsCons, hVar, hCon, hBin, hNeg, hNott, hAndd, hOrr, hCmp, hChain, hChain3, hIte, hTup, hLst, hIdx, hIdxm, hLenset, hJoin, hSlc, hRev, hCall, hFn, hLc, hGq, hPop, hPopAt, iSeq, iRng1, iRng2, iEnm, iZip, RV.fetch, fetchs, asn1, asnT, asnN, asnC, lkU, lkS, lkO, lkL, slF, slL, leC, leUs, leUo, leN, PyData.int.injEq, PyData.bool.injEq, PyData.str.injEq, PyData.tuple.injEq, PyData.list.injEq, Prod.mk.injEq, List.cons.injEq, Sum.inl.injEq, Option.some.injEq, leS, leO, leL, ow?, retD, varD, hvar, rAdd, rAddL, rAddT, rAddS, rSub, rMul, rPow, aAdd, aSub, aAddS, cLt, cLe, cGt, cGe, cEqI, cNeI, cEqB, cNeB, truI, truB, truL, truT, truN, intI, ixL, ixT, atN, atL, atM, atPlus, atPlus2, fdiv_pos, mod_pos, Int.reduceLT, Int.reduceLE, Int.reduceEq, Int.reduceMod, Int.reduceDiv, Nat.reduceLT, fnLenL, fnLenT, fnLenF, fnLenS, fnAbs, fnInt, fnList, fnListT, fnTuple, fnTupleT, fnMax2, fnMin2, fnSumL, fnSumT, fnMaxL, fnMaxT, fnMinL, fnMinT, fnAllL, fnAnyL, fnIsNone, fnNotNone, fnIsInt, fnIsBool, fnIsStr, fnIsTup, nN, nI, nB, nS, nL, nT, itmL, itmT, itmS, enmL', enmS', lckV, slcT, slcL, slcS, rgD_nat, rgD_pred, rgD_succ, setIxE, intsOf_ints, boolsOf_bools, strsOf_strs, List.getElem?_cons_succ, List.getElem?_cons_zero, List.set_cons_succ, List.set_cons_zero, List.getElem?_map, List.length_map, List.length_cons, List.length_nil, List.length_append, List.map_append, Option.bind_some, Option.bind_none, Option.map_some, Option.map_none, if_true, if_false, ite_true, ite_false, if_false_right, decide_eq_true_eq, Bool.not_eq_true', decide_eq_false_iff_not, Bool.not_eq_true, reduceCtorEq, reduceIte, ne_eq, not_false_eq_true, not_true_eq_false, true_and, and_true, false_and, and_false, implies_true, Bool.false_eq_true, List.isEmpty_cons, List.isEmpty_nil, Bool.not_true, Bool.not_false, List.map_cons, List.map_nil, List.cons_append, List.nil_append, List.replicate_succ, List.replicate_zero, Nat.reduceSub, Nat.reduceAdd, Nat.reduceMul, Int.reduceSub, Int.reduceNeg, Int.reduceAdd, Int.reduceMul, Int.reducePow, Int.reduceToNat, Nat.reduceLeDiff, lock, unls, unl, wip, rsto, fzO, frz, noal, lfree, lfrees, lfrees_ints, aft, Bool.and_self, Bool.and_true, Bool.true_and]
  · intro z hz
    simp -implicitDefEqProofs only [↓Wp_def, Wp_some, Wp_none, Wp_bind, Wp_ite, Wp_map, wNil, wEx, wAsg, wApp, wSto, wAug, augD, augK_some, augK_none, stE, wAugs, wRetV, wRet, wRetn, wIfe, FQ_nx, FQ_rt, eCon, eVar, eBin, eNeg, eNott, eAndd, eOrr, eCmp, eChain, eChain3, eIte, eTup, eLst, eIdx, eIdxm, eLenset, eJoin, eSlc, eRev, eCall, eFn, ePop, ePopAt, tVal, tAndd, tOrr, tNott, toNone, toSome, oNone, oSome, esNil, esCons, hsNil, hsCons, hVar, hCon, hBin, hNeg, hNott, hAndd, hOrr, hCmp, hChain, hChain3, hIte, hTup, hLst, hIdx, hIdxm, hLenset, hJoin, hSlc, hRev, hCall, hFn, hLc, hGq, hPop, hPopAt, iSeq, iRng1, iRng2, iEnm, iZip, RV.fetch, fetchs, asn1, asnT, asnN, asnC, lkU, lkS, lkO, lkL, slF, slL, leC, leUs, leUo, leN, PyData.int.injEq, PyData.bool.injEq, PyData.str.injEq, PyData.tuple.injEq, PyData.list.injEq, Prod.mk.injEq, List.cons.injEq, Sum.inl.injEq, Option.some.injEq, leS, leO, leL, ow?, retD, varD, hvar, rAdd, rAddL, rAddT, rAddS, rSub, rMul, rPow, aAdd, aSub, aAddS, cLt, cLe, cGt, cGe, cEqI, cNeI, cEqB, cNeB, truI, truB, truL, truT, truN, intI, ixL, ixT, atN, atL, atM, atPlus, atPlus2, fdiv_pos, mod_pos, Int.reduceLT, Int.reduceLE, Int.reduceEq, Int.reduceMod, Int.reduceDiv, Nat.reduceLT, fnLenL, fnLenT, fnLenF, fnLenS, fnAbs, fnInt, fnList, fnListT, fnTuple, fnTupleT, fnMax2, fnMin2, fnSumL, fnSumT, fnMaxL, fnMaxT, fnMinL, fnMinT, fnAllL, fnAnyL, fnIsNone, fnNotNone, fnIsInt, fnIsBool, fnIsStr, fnIsTup, nN, nI, nB, nS, nL, nT, itmL, itmT, itmS, enmL', enmS', lckV, slcT, slcL, slcS, rgD_nat, rgD_pred, rgD_succ, setIxE, intsOf_ints, boolsOf_bools, strsOf_strs, List.getElem?_cons_succ, List.getElem?_cons_zero, List.set_cons_succ, List.set_cons_zero, List.getElem?_map, List.length_map, List.length_cons, List.length_nil, List.length_append, List.map_append, Option.bind_some, Option.bind_none, Option.map_some, Option.map_none, if_true, if_false, ite_true, ite_false, if_false_right, decide_eq_true_eq, Bool.not_eq_true', decide_eq_false_iff_not, Bool.not_eq_true, reduceCtorEq, reduceIte, ne_eq, not_false_eq_true, not_true_eq_false, true_and, and_true, false_and, and_false, implies_true, Bool.false_eq_true, List.isEmpty_cons, List.isEmpty_nil, Bool.not_true, Bool.not_false, List.map_cons, List.map_nil, List.cons_append, List.nil_append, List.replicate_succ, List.replicate_zero, Nat.reduceSub, Nat.reduceAdd, Nat.reduceMul, Int.reduceSub, Int.reduceNeg, Int.reduceAdd, Int.reduceMul, Int.reducePow, Int.reduceToNat, Nat.reduceLeDiff, lock, unls, unl, wip, rsto, fzO, frz, noal, lfree, lfrees, lfrees_ints, aft, Bool.and_self, Bool.and_true, Bool.true_and, isInt_ok hI hk, aft]
  · have : ns.map (fun _ => PyData.bool true) = List.replicate ns.length (.bool true) := by rw [List.map_const']
    simp -implicitDefEqProofs only [↓Wp_def, Wp_some, Wp_none, Wp_bind, Wp_ite, Wp_map, wNil, wEx, wAsg, wApp, wSto, wAug, augD, augK_some, augK_none, stE, wAugs, wRetV, wRet, wRetn, wIfe, FQ_nx, FQ_rt, eCon, eVar, eBin, eNeg, eNott, eAndd, eOrr, eCmp, eChain, eChain3, eIte, eTup, eLst, eIdx, eIdxm, eLenset, eJoin, eSlc, eRev, eCall, eFn, ePop, ePopAt, tVal, tAndd, tOrr, tNott, toNone, toSome, oNone, oSome, esNil, esCons, hsNil, hsCons, hVar, hCon, hBin, hNeg, hNott, hAndd, hOrr, hCmp, hChain, hChain3, hIte, hTup, hLst, hIdx, hIdxm, hLenset, hJoin, hSlc, hRev, hCall, hFn, hLc, hGq, hPop, hPopAt, iSeq, iRng1, iRng2, iEnm, iZip, RV.fetch, fetchs, asn1, asnT, asnN, asnC, lkU, lkS, lkO, lkL, slF, slL, leC, leUs, leUo, leN, PyData.int.injEq, PyData.bool.injEq, PyData.str.injEq, PyData.tuple.injEq, PyData.list.injEq, Prod.mk.injEq, List.cons.injEq, Sum.inl.injEq, Option.some.injEq, leS, leO, leL, ow?, retD, varD, hvar, rAdd, rAddL, rAddT, rAddS, rSub, rMul, rPow, aAdd, aSub, aAddS, cLt, cLe, cGt, cGe, cEqI, cNeI, cEqB, cNeB, truI, truB, truL, truT, truN, intI, ixL, ixT, atN, atL, atM, atPlus, atPlus2, fdiv_pos, mod_pos, Int.reduceLT, Int.reduceLE, Int.reduceEq, Int.reduceMod, Int.reduceDiv, Nat.reduceLT, fnLenL, fnLenT, fnLenF, fnLenS, fnAbs, fnInt, fnList, fnListT, fnTuple, fnTupleT, fnMax2, fnMin2, fnSumL, fnSumT, fnMaxL, fnMaxT, fnMinL, fnMinT, fnAllL, fnAnyL, fnIsNone, fnNotNone, fnIsInt, fnIsBool, fnIsStr, fnIsTup, nN, nI, nB, nS, nL, nT, itmL, itmT, itmS, enmL', enmS', lckV, slcT, slcL, slcS, rgD_nat, rgD_pred, rgD_succ, setIxE, intsOf_ints, boolsOf_bools, strsOf_strs, List.getElem?_cons_succ, List.getElem?_cons_zero, List.set_cons_succ, List.set_cons_zero, List.getElem?_map, List.length_map, List.length_cons, List.length_nil, List.length_append, List.map_append, Option.bind_some, Option.bind_none, Option.map_some, Option.map_none, if_true, if_false, ite_true, ite_false, if_false_right, decide_eq_true_eq, Bool.not_eq_true', decide_eq_false_iff_not, Bool.not_eq_true, reduceCtorEq, reduceIte, ne_eq, not_false_eq_true, not_true_eq_false, true_and, and_true, false_and, and_false, implies_true, Bool.false_eq_true, List.isEmpty_cons, List.isEmpty_nil, Bool.not_true, Bool.not_false, List.map_cons, List.map_nil, List.cons_append, List.nil_append, List.replicate_succ, List.replicate_zero, Nat.reduceSub, Nat.reduceAdd, Nat.reduceMul, Int.reduceSub, Int.reduceNeg, Int.reduceAdd, Int.reduceMul, Int.reducePow, Int.reduceToNat, Nat.reduceLeDiff, lock, unls, unl, wip, rsto, fzO, frz, noal, lfree, lfrees, lfrees_ints, aft, Bool.and_self, Bool.and_true, Bool.true_and, this, allT, all_rep]
def prI (p : Int × Int) : PyData := .tuple [.int p.1, .int p.2]
theorem lfree_prI (p : Int × Int) : lfree (prI p) = true := by simp [prI, lfree, lfrees]
theorem lfrees_prs (l : List (Int × Int)) : lfrees (l.map prI) = true := lfrees_map _ _ lfree_prI
theorem isPairs_ok (hp : prog[i]? = some (cIsPairs iS)) (hS : prog[iS]? = some (cIsInts iI)) (hI : prog[iI]? = some cIsInt) {k : Nat} (hk : 3 ≤ k) (ps : List (Int × Int)) (hl : ps.length ≤ 1000000) : run prog wf k i [.tuple (ps.map prI)] = some (.bool true, false) := by
  refine run_eq (d := 2) hp hk fun k hk => Wp.fn rfl ?_
  unfold cIsPairs
  simp -implicitDefEqProofs only [↓Wp_def, Wp_some, Wp_none, Wp_bind, Wp_ite, Wp_map, wNil, wEx, wAsg, wApp, wSto, wAug, augD, augK_some, augK_none, stE, wAugs, wRetV, wRet, wRetn, wIfe, FQ_nx, FQ_rt, eCon, eVar, eBin, eNeg, eNott, eAndd, eOrr, eCmp, eChain, eChain3, eIte, eTup, eLst, eIdx, eIdxm, eLenset, eJoin, eSlc, eRev, eCall, eFn, ePop, ePopAt, tVal, tAndd, tOrr, tNott, toNone, toSome, oNone, oSome, esNil, esCons, hsNil, hsCons, hVar, hCon, hBin, hNeg, hNott, hAndd, hOrr, hCmp, hChain, hChain3, hIte, hTup, hLst, hIdx, hIdxm, hLenset, hJoin, hSlc, hRev, hCall, hFn, hLc, hGq, hPop, hPopAt, iSeq, iRng1, iRng2, iEnm, iZip, RV.fetch, fetchs, asn1, asnT, asnN, asnC, lkU, lkS, lkO, lkL, slF, slL, leC, leUs, leUo, leN, PyData.int.injEq, PyData.bool.injEq, PyData.str.injEq, PyData.tuple.injEq, PyData.list.injEq, Prod.mk.injEq, List.cons.injEq, Sum.inl.injEq, Option.some.injEq, leS, leO, leL, ow?, retD, varD, hvar, rAdd, rAddL, rAddT, rAddS, rSub, rMul, rPow, aAdd, aSub, aAddS, cLt, cLe, cGt, cGe, cEqI, cNeI, cEqB, cNeB, truI, truB, truL, truT, truN, intI, ixL, ixT, atN, atL, atM, atPlus, atPlus2, fdiv_pos, mod_pos, Int.reduceLT, Int.reduceLE, Int.reduceEq, Int.reduceMod, Int.reduceDiv, Nat.reduceLT, fnLenL, fnLenT, fnLenF, fnLenS, fnAbs, fnInt, fnList, fnListT, fnTuple, fnTupleT, fnMax2, fnMin2, fnSumL, fnSumT, fnMaxL, fnMaxT, fnMinL, fnMinT, fnAllL, fnAnyL, fnIsNone, fnNotNone, fnIsInt, fnIsBool, fnIsStr, fnIsTup, nN, nI, nB, nS, nL, nT, itmL, itmT, itmS, enmL', enmS', lckV, slcT, slcL, slcS, rgD_nat, rgD_pred, rgD_succ, setIxE, intsOf_ints, boolsOf_bools, strsOf_strs, List.getElem?_cons_succ, List.getElem?_cons_zero, List.set_cons_succ, List.set_cons_zero, List.getElem?_map, List.length_map, List.length_cons, List.length_nil, List.length_append, List.map_append, Option.bind_some, Option.bind_none, Option.map_some, Option.map_none, if_true, if_false, ite_true, ite_false, if_false_right, decide_eq_true_eq, Bool.not_eq_true', decide_eq_false_iff_not, Bool.not_eq_true, reduceCtorEq, reduceIte, ne_eq, not_false_eq_true, not_true_eq_false, true_and, and_true, false_and, and_false, implies_true, Bool.false_eq_true, List.isEmpty_cons, List.isEmpty_nil, Bool.not_true, Bool.not_false, List.map_cons, List.map_nil, List.cons_append, List.nil_append, List.replicate_succ, List.replicate_zero, Nat.reduceSub, Nat.reduceAdd, Nat.reduceMul, Int.reduceSub, Int.reduceNeg, Int.reduceAdd, Int.reduceMul, Int.reducePow, Int.reduceToNat, Nat.reduceLeDiff, lock, unls, unl, wip, rsto, fzO, frz, noal, lfree, lfrees, lfrees_ints, aft, Bool.and_self, Bool.and_true, Bool.true_and, isT_tup]
  refine Wp.lcM (as := ps) (enc := prI) (fun _ => .bool true) [.sh (.tuple (ps.map prI)), .un] [.sh (.tuple (ps.map prI)), .un] ?_ (by omega) ?_ ?_
  · simp -implicitDefEqProofs only [↓Wp_def, Wp_some, Wp_none, Wp_bind, Wp_ite, Wp_map, wNil, wEx, wAsg, wApp, wSto, wAug, augD, augK_some, augK_none, stE, wAugs, wRetV, wRet, wRetn, wIfe, FQ_nx, FQ_rt, eCon, eVar, eBin, eNeg, eNott, eAndd, eOrr, eCmp, eChain, eChain3, eIte, eTup, eLst, eIdx, eIdxm, eLenset, eJoin, eSlc, eRev, eCall, eFn, ePop, ePopAt, tVal, tAndd, tOrr, tNott, toNone, toSome, oNone, oSome, esNil, esCons, hsNil, hsCons, hVar, hCon, hBin, hNeg, hNott, hAndd, hOrr, hCmp, hChain, hChain3, hIte, hTup, hLst, hIdx, hIdxm, hLenset, hJoin, hSlc, hRev, hCall, hFn, hLc, hGq, hPop, hPopAt, iSeq, iRng1, iRng2, iEnm, iZip, RV.fetch, fetchs, asn1, asnT, asnN, asnC, lkU, lkS, lkO, lkL, slF, slL, leC, leUs, leUo, leN, PyData.int.injEq, PyData.bool.injEq, PyData.str.injEq, PyData.tuple.injEq, PyData.list.injEq, Prod.mk.injEq, List.cons.injEq, Sum.inl.injEq, Option.some.injEq, leS, leO, leL, ow?, retD, varD, hvar, rAdd, rAddL, rAddT, rAddS, rSub, rMul, rPow, aAdd, aSub, aAddS, cLt, cLe, cGt, cGe, cEqI, cNeI, cEqB, cNeB, truI, truB, truL, truT, truN, intI, ixL, ixT, atN, atL, atM, atPlus, atPlus2, fdiv_pos, mod_pos, Int.reduceLT, Int.reduceLE, Int.reduceEq, Int.reduceMod, Int.reduceDiv, Nat.reduceLT, fnLenL, fnLenT, fnLenF, fnLenS, fnAbs, fnInt, fnList, fnListT, fnTuple, fnTupleT, fnMax2, fnMin2, fnSumL, fnSumT, fnMaxL, fnMaxT, fnMinL, fnMinT, fnAllL, fnAnyL, fnIsNone, fnNotNone, fnIsInt, fnIsBool, fnIsStr, fnIsTup, nN, nI, nB, nS, nL, nT, itmL, itmT, itmS, enmL', enmS', lckV, slcT, slcL, slcS, rgD_nat, rgD_pred, rgD_succ, setIxE, intsOf_ints, boolsOf_bools, strsOf_strs, List.getElem?_cons_succ, List.getElem?_cons_zero, List.set_cons_succ, List.set_cons_zero, List.getElem?_map, List.length_map, List.length_cons, List.length_nil, List.length_append, List.map_append, Option.bind_some, Option.bind_none, Option.map_some, Option.map_none, if_true, if_false, ite_true, ite_false, if_false_right, decide_eq_true_eq, Bool.not_eq_true', decide_eq_false_iff_not, Bool.not_eq_true, reduceCtorEq, reduceIte, ne_eq, not_false_eq_true, not_true_eq_false, true_and, and_true, false_and, and_false, implies_true, Bool.false_eq_true, List.isEmpty_cons, List.isEmpty_nil, Bool.not_true, Bool.not_false, List.map_cons, List.map_nil, List.cons_append, List.nil_append, List.replicate_succ, List.replicate_zero, Nat.reduceSub, Nat.reduceAdd, Nat.reduceMul, Int.reduceSub, Int.reduceNeg, Int.reduceAdd, Int.reduceMul, Int.reducePow, Int.reduceToNat, Nat.reduceLeDiff, lock, unls, unl, wip, rsto, fzO, frz, noal, lfree, lfrees, lfrees_ints, aft, Bool.and_self, Bool.and_true, Bool.true_and]
  · intro p hp
    have := isInts_ok (wf := wf) hS hI hk [p.1, p.2] (by simp)
    simp only [List.map_cons, List.map_nil] at this
    simp -implicitDefEqProofs only [↓Wp_def, Wp_some, Wp_none, Wp_bind, Wp_ite, Wp_map, wNil, wEx, wAsg, wApp, wSto, wAug, augD, augK_some, augK_none, stE, wAugs, wRetV, wRet, wRetn, wIfe, FQ_nx, FQ_rt, eCon, eVar, eBin, eNeg, eNott, eAndd, eOrr, eCmp, eChain, eChain3, eIte, eTup, eLst, eIdx, eIdxm, eLenset, eJoin, eSlc, eRev, eCall, eFn, ePop, ePopAt, tVal, tAndd, tOrr, tNott, toNone, toSome, oNone, oSome, esNil, esCons, hsNil, hsCons, hVar, hCon, hBin, hNeg, hNott, hAndd, hOrr, hCmp, hChain, hChain3, hIte, hTup, hLst, hIdx, hIdxm, hLenset, hJoin, hSlc, hRev, hCall, hFn, hLc, hGq, hPop, hPopAt, iSeq, iRng1, iRng2, iEnm, iZip, RV.fetch, fetchs, asn1, asnT, asnN, asnC, lkU, lkS, lkO, lkL, slF, slL, leC, leUs, leUo, leN, PyData.int.injEq, PyData.bool.injEq, PyData.str.injEq, PyData.tuple.injEq, PyData.list.injEq, Prod.mk.injEq, List.cons.injEq, Sum.inl.injEq, Option.some.injEq, leS, leO, leL, ow?, retD, varD, hvar, rAdd, rAddL, rAddT, rAddS, rSub, rMul, rPow, aAdd, aSub, aAddS, cLt, cLe, cGt, cGe, cEqI, cNeI, cEqB, cNeB, truI, truB, truL, truT, truN, intI, ixL, ixT, atN, atL, atM, atPlus, atPlus2, fdiv_pos, mod_pos, Int.reduceLT, Int.reduceLE, Int.reduceEq, Int.reduceMod, Int.reduceDiv, Nat.reduceLT, fnLenL, fnLenT, fnLenF, fnLenS, fnAbs, fnInt, fnList, fnListT, fnTuple, fnTupleT, fnMax2, fnMin2, fnSumL, fnSumT, fnMaxL, fnMaxT, fnMinL, fnMinT, fnAllL, fnAnyL, fnIsNone, fnNotNone, fnIsInt, fnIsBool, fnIsStr, fnIsTup, nN, nI, nB, nS, nL, nT, itmL, itmT, itmS, enmL', enmS', lckV, slcT, slcL, slcS, rgD_nat, rgD_pred, rgD_succ, setIxE, intsOf_ints, boolsOf_bools, strsOf_strs, List.getElem?_cons_succ, List.getElem?_cons_zero, List.set_cons_succ, List.set_cons_zero, List.getElem?_map, List.length_map, List.length_cons, List.length_nil, List.length_append, List.map_append, Option.bind_some, Option.bind_none, Option.map_some, Option.map_none, if_true, if_false, ite_true, ite_false, if_false_right, decide_eq_true_eq, Bool.not_eq_true', decide_eq_false_iff_not, Bool.not_eq_true, reduceCtorEq, reduceIte, ne_eq, not_false_eq_true, not_true_eq_false, true_and, and_true, false_and, and_false, implies_true, Bool.false_eq_true, List.isEmpty_cons, List.isEmpty_nil, Bool.not_true, Bool.not_false, List.map_cons, List.map_nil, List.cons_append, List.nil_append, List.replicate_succ, List.replicate_zero, Nat.reduceSub, Nat.reduceAdd, Nat.reduceMul, Int.reduceSub, Int.reduceNeg, Int.reduceAdd, Int.reduceMul, Int.reducePow, Int.reduceToNat, Nat.reduceLeDiff, lock, unls, unl, wip, rsto, fzO, frz, noal, lfree, lfrees, lfrees_ints, aft, Bool.and_self, Bool.and_true, Bool.true_and, prI, this, aft, show ((0 : Int) + 1 + 1) = 2 by decide, decide_true]
    rfl
  · have : ps.map (fun _ => PyData.bool true) = List.replicate ps.length (.bool true) := by rw [List.map_const']
    simp -implicitDefEqProofs only [↓Wp_def, Wp_some, Wp_none, Wp_bind, Wp_ite, Wp_map, wNil, wEx, wAsg, wApp, wSto, wAug, augD, augK_some, augK_none, stE, wAugs, wRetV, wRet, wRetn, wIfe, FQ_nx, FQ_rt, eCon, eVar, eBin, eNeg, eNott, eAndd, eOrr, eCmp, eChain, eChain3, eIte, eTup, eLst, eIdx, eIdxm, eLenset, eJoin, eSlc, eRev, eCall, eFn, ePop, ePopAt, tVal, tAndd, tOrr, tNott, toNone, toSome, oNone, oSome, esNil, esCons, hsNil, hsCons, hVar, hCon, hBin, hNeg, hNott, hAndd, hOrr, hCmp, hChain, hChain3, hIte, hTup, hLst, hIdx, hIdxm, hLenset, hJoin, hSlc, hRev, hCall, hFn, hLc, hGq, hPop, hPopAt, iSeq, iRng1, iRng2, iEnm, iZip, RV.fetch, fetchs, asn1, asnT, asnN, asnC, lkU, lkS, lkO, lkL, slF, slL, leC, leUs, leUo, leN, PyData.int.injEq, PyData.bool.injEq, PyData.str.injEq, PyData.tuple.injEq, PyData.list.injEq, Prod.mk.injEq, List.cons.injEq, Sum.inl.injEq, Option.some.injEq, leS, leO, leL, ow?, retD, varD, hvar, rAdd, rAddL, rAddT, rAddS, rSub, rMul, rPow, aAdd, aSub, aAddS, cLt, cLe, cGt, cGe, cEqI, cNeI, cEqB, cNeB, truI, truB, truL, truT, truN, intI, ixL, ixT, atN, atL, atM, atPlus, atPlus2, fdiv_pos, mod_pos, Int.reduceLT, Int.reduceLE, Int.reduceEq, Int.reduceMod, Int.reduceDiv, Nat.reduceLT, fnLenL, fnLenT, fnLenF, fnLenS, fnAbs, fnInt, fnList, fnListT, fnTuple, fnTupleT, fnMax2, fnMin2, fnSumL, fnSumT, fnMaxL, fnMaxT, fnMinL, fnMinT, fnAllL, fnAnyL, fnIsNone, fnNotNone, fnIsInt, fnIsBool, fnIsStr, fnIsTup, nN, nI, nB, nS, nL, nT, itmL, itmT, itmS, enmL', enmS', lckV, slcT, slcL, slcS, rgD_nat, rgD_pred, rgD_succ, setIxE, intsOf_ints, boolsOf_bools, strsOf_strs, List.getElem?_cons_succ, List.getElem?_cons_zero, List.set_cons_succ, List.set_cons_zero, List.getElem?_map, List.length_map, List.length_cons, List.length_nil, List.length_append, List.map_append, Option.bind_some, Option.bind_none, Option.map_some, Option.map_none, if_true, if_false, ite_true, ite_false, if_false_right, decide_eq_true_eq, Bool.not_eq_true', decide_eq_false_iff_not, Bool.not_eq_true, reduceCtorEq, reduceIte, ne_eq, not_false_eq_true, not_true_eq_false, true_and, and_true, false_and, and_false, implies_true, Bool.false_eq_true, List.isEmpty_cons, List.isEmpty_nil, Bool.not_true, Bool.not_false, List.map_cons, List.map_nil, List.cons_append, List.nil_append, List.replicate_succ, List.replicate_zero, Nat.reduceSub, Nat.reduceAdd, Nat.reduceMul, Int.reduceSub, Int.reduceNeg, Int.reduceAdd, Int.reduceMul, Int.reducePow, Int.reduceToNat, Nat.reduceLeDiff, lock, unls, unl, wip, rsto, fzO, frz, noal, lfree, lfrees, lfrees_ints, aft, Bool.and_self, Bool.and_true, Bool.true_and, this, allT, all_rep]
end
end RV

namespace RV
open PySem PyProof.Rows
/-! ### slices -/
theorem cut_from {α : Type} {xs : List α} {p : Nat} (h : p ≤ xs.length) : cutD xs (some (p : Int)) none = xs.drop p := by
  have e : HT.sIx xs.length 0 (some (p : Int)) = p := by
    rw [HT.sIx_nat]
    omega
  unfold cutD
  rw [e]
  show (xs.drop p).take (HT.sIx xs.length xs.length none - p) = _
  have e2 : HT.sIx xs.length xs.length none = xs.length := rfl
  rw [e2]
  exact List.take_of_length_le (by rw [List.length_drop]; omega)
theorem cut_to {α : Type} {xs : List α} {p : Nat} : cutD xs none (some (p : Int)) = xs.take p := by
  have e : HT.sIx xs.length xs.length (some (p : Int)) = min p xs.length := HT.sIx_nat ..
  unfold cutD
  rw [e]
  show (xs.drop (HT.sIx xs.length 0 none)).take (min p xs.length - HT.sIx xs.length 0 none) = _
  have e2 : HT.sIx xs.length 0 none = 0 := rfl
  rw [e2, List.drop_zero, Nat.sub_zero]
  by_cases h : p ≤ xs.length
  · rw [Nat.min_eq_left h]
  · rw [Nat.min_eq_right (by omega), List.take_length, List.take_of_length_le (by omega)]
theorem cut_toL {α : Type} {xs : List α} {p : Nat} : cutD xs none (some (no_index (OfNat.ofNat p) : Int)) = xs.take p := cut_to
theorem cut_fromL {α : Type} {xs : List α} {p : Nat} (h : p ≤ xs.length) : cutD xs (some (no_index (OfNat.ofNat p) : Int)) none = xs.drop p := cut_from h
theorem cut_init {α : Type} {xs : List α} : cutD xs none (some (-1)) = xs.dropLast := by
  have e : HT.sIx xs.length xs.length (some (-1 : Int)) = xs.length - 1 := by
    show (if (-1 : Int) < 0 then ((-1 : Int) + (xs.length : Int)).toNat else min (-1 : Int).toNat xs.length) = _
    rw [if_pos (by decide)]
    omega
  unfold cutD
  rw [e]
  show (xs.drop (HT.sIx xs.length 0 none)).take (xs.length - 1 - HT.sIx xs.length 0 none) = _
  have e2 : HT.sIx xs.length 0 none = 0 := rfl
  rw [e2, List.drop_zero, Nat.sub_zero, List.dropLast_eq_take]
/-! ### sorted lists -/
theorem sort_by {α : Type} {enc : α → PyData} {l s : List α} (hok : sortOk (l.map enc) = true) (hp : l.Perm s) (hs : s.Pairwise fun a b => PySem.W.dataLe false id (enc a) (enc b) = true) (anti : ∀ a ∈ l, ∀ b ∈ l, PySem.W.dataLe false id (enc a) (enc b) = true → PySem.W.dataLe false id (enc b) (enc a) = true → enc a = enc b) :
    fnD .sorted [.list (l.map enc)] = some (.list (s.map enc), true) := by
  have tl := PySem.W.sortLe_total (PyProof.Rows.listOrd itemOrd) false fun b : PyData => PySem.W.keyToks (id b)
  have e : (l.map enc).mergeSort (PySem.W.dataLe false id) = s.map enc := by
    refine List.Perm.eq_of_pairwise (le := fun a b => PySem.W.dataLe false id a b = true) (fun a b ha hb h1 h2 => ?_) (List.pairwise_mergeSort (fun a b c h1 h2 => tl.trans a b c h1 h2) (fun a b => by simpa using tl.total a b) _) ?_ ((List.mergeSort_perm _ _).trans (hp.map enc))
    · obtain ⟨x, hx, rfl⟩ := List.mem_map.mp ((List.mergeSort_perm _ _).mem_iff.mp ha)
      obtain ⟨y, hy, rfl⟩ := List.mem_map.mp hb
      exact anti x hx y (hp.mem_iff.mpr hy) h1 h2
    · rw [List.pairwise_map]
      exact hs
  rw [fnSorted, if_pos hok, e]
theorem int_le {a b : Int} (h : a ≤ b) : PySem.W.dataLe false id (.int a) (.int b) = true := by
  show (!PyProof.Rows.lexLt itemOrd (PySem.W.keyToks (.int b)) (PySem.W.keyToks (.int a))) = true
  have e : ∀ i : Int, PySem.W.keyToks (.int i) = [.inl i] := fun i => rfl
  have e1 : itemLt (.inl b) (.inl a) = false := by show decide (b < a) = false; exact decide_eq_false (by omega)
  rw [e, e]
  simp [PyProof.Rows.lexLt, itemOrd, e1]
theorem int_anti {a b : Int} (h1 : PySem.W.dataLe false id (.int a) (.int b) = true) (h2 : PySem.W.dataLe false id (.int b) (.int a) = true) : a = b := by
  have h1 : (!PyProof.Rows.lexLt itemOrd (PySem.W.keyToks (.int b)) (PySem.W.keyToks (.int a))) = true := h1
  have h2 : (!PyProof.Rows.lexLt itemOrd (PySem.W.keyToks (.int a)) (PySem.W.keyToks (.int b))) = true := h2
  have k := PyProof.Rows.lex_total _ _ (by simpa using h2) (by simpa using h1)
  have e : ∀ i : Int, PySem.W.keyToks (.int i) = [.inl i] := fun i => rfl
  rw [e, e] at k
  simpa using k
theorem sort_ints {l s : List Int} (hl : l.length ≤ 16777216) (hp : l.Perm s) (hs : s.Pairwise (· ≤ ·)) : fnD .sorted [.list (l.map .int)] = some (.list (s.map .int), true) := by
  refine sort_by ?_ hp (hs.imp fun h => int_le h) fun a _ b _ h1 h2 => by rw [int_anti h1 h2]
  have all : ∀ p : PyData → Bool, (∀ i, p (.int i) = true) → (l.map PyData.int).all p = true := fun p h => by
    rw [List.all_map]; exact List.all_eq_true.mpr fun t _ => h t
  simp only [sortOk, Bool.and_eq_true, Bool.or_eq_true]
  exact ⟨⟨⟨all _ fun i => all _ fun j => rfl, .inr (all _ fun i => rfl)⟩, all _ fun i => rfl⟩, by rw [List.length_map]; exact decide_eq_true hl⟩
/-- pairs by their first, then by their second -/
def leP (a b : Int × Int) : Prop := a.1 < b.1 ∨ (a.1 = b.1 ∧ a.2 ≤ b.2)
instance {a b : Int × Int} : Decidable (leP a b) := inferInstanceAs (Decidable (_ ∨ _))
theorem pr_toks (a : Int × Int) : PySem.W.keyToks (prI a) = [.inl 1, .inl a.1, .inl 1, .inl a.2, .inl 0] := rfl
theorem pr_le {a b : Int × Int} (h : leP a b) : PySem.W.dataLe false id (prI a) (prI b) = true := by
  show (!PyProof.Rows.lexLt itemOrd (PySem.W.keyToks (prI b)) (PySem.W.keyToks (prI a))) = true
  rw [pr_toks, pr_toks]
  have r : ∀ i : Int, itemLt (.inl i) (.inl i) = false := fun i => decide_eq_false (by omega)
  have l : ∀ {i j : Int}, i < j → itemLt (.inl i) (.inl j) = true := fun h => decide_eq_true h
  have g : ∀ {i j : Int}, i ≤ j → itemLt (.inl j) (.inl i) = false := fun h => decide_eq_false (by omega)
  rcases h with h | ⟨h1, h2⟩
  · simp [PyProof.Rows.lexLt, itemOrd, r, l h, g (Int.le_of_lt h)]
  · simp [PyProof.Rows.lexLt, itemOrd, r, h1, g h2]
theorem pr_anti {a b : Int × Int} (h1 : PySem.W.dataLe false id (prI a) (prI b) = true) (h2 : PySem.W.dataLe false id (prI b) (prI a) = true) : a = b := by
  have h1 : (!PyProof.Rows.lexLt itemOrd (PySem.W.keyToks (prI b)) (PySem.W.keyToks (prI a))) = true := h1
  have h2 : (!PyProof.Rows.lexLt itemOrd (PySem.W.keyToks (prI a)) (PySem.W.keyToks (prI b))) = true := h2
  have k := PyProof.Rows.lex_total _ _ (by simpa using h2) (by simpa using h1)
  rw [pr_toks, pr_toks] at k
  simp only [List.cons.injEq, Sum.inl.injEq, true_and, and_true] at k
  exact Prod.ext k.1 k.2
theorem sort_pairs {l s : List (Int × Int)} (hl : l.length ≤ 16777216) (hp : l.Perm s) (hs : s.Pairwise leP) : fnD .sorted [.list (l.map prI)] = some (.list (s.map prI), true) := by
  refine sort_by ?_ hp (hs.imp fun h => pr_le h) fun a _ b _ h1 h2 => by rw [pr_anti h1 h2]
  have all : ∀ p : PyData → Bool, (∀ i, p (prI i) = true) → (l.map prI).all p = true := fun p h => by
    rw [List.all_map]; exact List.all_eq_true.mpr fun t _ => h t
  simp only [sortOk, Bool.and_eq_true, Bool.or_eq_true]
  exact ⟨⟨⟨all _ fun i => all _ fun j => rfl, .inl (all _ fun i => rfl)⟩, all _ fun i => rfl⟩, by rw [List.length_map]; exact decide_eq_true hl⟩
/-- a sorted copy -/
theorem sorted_copy (l : List (Int × Int)) : ∃ s, l.Perm s ∧ s.Pairwise leP := by
  refine ⟨l.mergeSort fun a b => decide (leP a b), (List.mergeSort_perm _ _).symm, ?_⟩
  have := List.pairwise_mergeSort (le := fun a b => decide (leP a b)) (fun a b c h1 h2 => ?_) (fun a b => ?_) l
  · exact this.imp fun h => of_decide_eq_true h
  · have h1 := of_decide_eq_true h1
    have h2 := of_decide_eq_true h2
    refine decide_eq_true ?_
    unfold leP at *
    omega
  · rw [Bool.or_eq_true, decide_eq_true_iff, decide_eq_true_iff]
    unfold leP
    omega

end RV

namespace RV
open PySem
/-! ### beginnings' sums -/
def psums (l : List Int) : List Int := (List.range l.length).map fun k => (l.take (k + 1)).sum
theorem psums_snoc (l : List Int) (a : Int) : psums (l ++ [a]) = psums l ++ [l.sum + a] := by
  unfold psums
  rw [List.length_append, List.length_cons, List.length_nil, List.range_succ, List.map_append]
  congr 1
  · refine List.map_congr_left fun k hk => ?_
    have := List.mem_range.mp hk
    rw [List.take_append_of_le_length (by omega)]
  · rw [List.map_cons, List.take_of_length_le (by simp), List.sum_append]
    simp
theorem psums_nil : psums [] = [] := rfl
theorem psums_len (l : List Int) : (psums l).length = l.length := by simp [psums]
/-! ### climbs: true is u -/
def chrB (b : Bool) : Nat := if b then 117 else 100
def letB (b : Bool) : Str := ⟨#[chrB b]⟩
def strB (l : List Bool) : Str := ⟨(l.map chrB).toArray⟩
def sg (b : Bool) : Int := if b then 1 else -1
theorem ok_letB (b : Bool) : PyData.strOk (letB b) = true := by cases b <;> decide +kernel
theorem ok_u : PyData.strOk "u" = true := by decide +kernel
theorem ok_d : PyData.strOk "d" = true := by decide +kernel
theorem u_eq : ("u" : Str) = letB true := by decide +kernel
theorem d_eq : ("d" : Str) = letB false := by decide +kernel
theorem eq_u (b : Bool) : cmpD .eq (.str (letB b)) (.str "u") = some b := by
  rw [eq_str (ok_letB b) ok_u, u_eq]
  cases b <;> rfl
theorem eq_d (b : Bool) : cmpD .eq (.str (letB b)) (.str "d") = some (!b) := by
  rw [eq_str (ok_letB b) ok_d, d_eq]
  cases b <;> rfl
theorem itmB (l : List Bool) : itemsOf (.str (strB l)) = some (l.map fun b => .str (letB b)) := by
  rw [itmS]
  unfold strB
  rw [List.toList_toArray, List.map_map]
  rfl
theorem enmB (l : List Bool) : enmOf (.str (strB l)) = some (l.map fun b => .str (letB b)) := by
  rw [enmS']
  unfold strB
  rw [List.toList_toArray, List.map_map]
  rfl
theorem lenB (l : List Bool) : (strB l).length = l.length := by
  show (strB l).cps.size = _
  simp [strB]
theorem mapIdx_enum {α : Type} (f : α → PyData) (l : List α) : (l.map f).mapIdx (fun (i : Nat) d => PyData.tuple [.int i, d]) = l.zipIdx.map fun x => PyData.tuple [.int x.2, f x.1] := by
  refine List.ext_getElem? fun i => ?_
  rw [List.getElem?_mapIdx, List.getElem?_map, List.getElem?_map, List.getElem?_zipIdx]
  cases l[i]? <;> simp
theorem zip_split {α : Type} {l : List α} {p q : List (α × Nat)} {a : α × Nat} (h : l.zipIdx = p ++ a :: q) : a.2 = p.length ∧ l = p.map (·.1) ++ a.1 :: q.map (·.1) := by
  have e1 := congrArg (List.map Prod.fst) h
  rw [List.zipIdx_map_fst, List.map_append, List.map_cons] at e1
  refine ⟨?_, e1⟩
  have e2 := congrArg (fun l => l[p.length]?) h
  simp only [List.getElem?_zipIdx] at e2
  rw [List.getElem?_append_right (Nat.le_refl _), Nat.sub_self, List.getElem?_cons_zero] at e2
  obtain ⟨x, _, hx⟩ := Option.map_eq_some_iff.mp e2
  rw [← hx]
  simp
theorem ixStr (l : List Bool) (i : Nat) (hl : l.length ≤ 16777216) : idxD (.str (strB l)) (.int (i : Int)) = (l[i]?).map fun b => .str (letB b) := by
  show (if (strB l).length ≤ sizeLine then (L2.atI (strB l).cps.toList (i : Int)).bind fun c => some (PyData.str ⟨#[c]⟩) else none) = _
  rw [if_pos (by rw [lenB]; exact hl), atN]
  unfold strB
  rw [List.toList_toArray, List.getElem?_map]
  cases l[i]? <;> rfl
section
variable {prog : List CD} {wf i iH iD : Nat}
def cHeights : CD := ⟨1, 4, [
  .asg (.nm 1) (.con (.int 0)),
  .asg (.nm 2) (.lst []),
  .forr (.nm 3) (.seq (.var 0)) [
    .aug 1 .add (.ite (.val (.cmp .eq (.var 3) (.con (.str "u")))) (.con (.int 1)) (.neg (.con (.int 1)))),
    .app 2 (.var 1)],
  .ret (.var 2)]⟩
def cDip (iH : Nat) : CD := ⟨1, 3, [
  .forr (.tup [(.nm 1), (.nm 2)]) (.enm (.call iH [(.var 0)])) [
    .ife (.val (.cmp .lt (.var 2) (.con (.int 0)))) [
      .ret (.var 1)] [
]],
  .ret (.con .none)]⟩
def cLofty (iD : Nat) : CD := ⟨1, 1, [
  .ret (.fn .isNone [(.call iD [(.var 0)])])]⟩
def cMatch : CD := ⟨1, 5, [
  .asg (.nm 1) (.lst []),
  .asg (.nm 2) (.lst []),
  .forr (.tup [(.nm 3), (.nm 4)]) (.enm (.var 0)) [
    .ife (.val (.cmp .eq (.var 4) (.con (.str "u")))) [
      .app 2 (.var 3)] [
      .ife (.val (.cmp .eq (.fn .len [(.var 2)]) (.con (.int 0)))) [
        .ret (.con .none)] [
        .app 1 (.tup [(.pop 2), (.var 3)])]]],
  .ret (.fn .tuple [(.fn .sorted [(.var 1)])])]⟩
theorem pre_len {α : Type} {l p q : List α} {a : α} (h : l = p ++ a :: q) : p.length < l.length := by rw [h]; simp
theorem heights_ok (hp : prog[i]? = some cHeights) {k : Nat} (hk : 1 ≤ k) (l : List Bool) (hl : l.length ≤ 16777216) : run prog wf k i [.str (strB l)] = some (.list ((psums (l.map sg)).map .int), true) := by
  refine run_eq (d := 0) hp hk fun k _ => Wp.fn rfl ?_
  unfold cHeights
  simp -implicitDefEqProofs only [↓Wp_def, Wp_some, Wp_none, Wp_bind, Wp_ite, Wp_map, wNil, wEx, wAsg, wApp, wSto, wAug, augD, augK_some, augK_none, stE, wAugs, wRetV, wRet, wRetn, wIfe, FQ_nx, FQ_rt, eCon, eVar, eBin, eNeg, eNott, eAndd, eOrr, eCmp, eChain, eChain3, eIte, eTup, eLst, eIdx, eIdxm, eLenset, eJoin, eSlc, eRev, eCall, eFn, ePop, ePopAt, tVal, tAndd, tOrr, tNott, toNone, toSome, oNone, oSome, esNil, esCons, hsNil, hsCons, hVar, hCon, hBin, hNeg, hNott, hAndd, hOrr, hCmp, hChain, hChain3, hIte, hTup, hLst, hIdx, hIdxm, hLenset, hJoin, hSlc, hRev, hCall, hFn, hLc, hGq, hPop, hPopAt, iSeq, iRng1, iRng2, iEnm, iZip, RV.fetch, fetchs, asn1, asnT, asnN, asnC, lkU, lkS, lkO, lkL, slF, slL, leC, leUs, leUo, leN, PyData.int.injEq, PyData.bool.injEq, PyData.str.injEq, PyData.tuple.injEq, PyData.list.injEq, Prod.mk.injEq, List.cons.injEq, Sum.inl.injEq, Option.some.injEq, leS, leO, leL, ow?, retD, varD, hvar, rAdd, rAddL, rAddT, rAddS, rSub, rMul, rPow, aAdd, aSub, aAddS, cLt, cLe, cGt, cGe, cEqI, cNeI, cEqB, cNeB, truI, truB, truL, truT, truN, intI, ixL, ixT, atN, atL, atM, atPlus, atPlus2, fdiv_pos, mod_pos, Int.reduceLT, Int.reduceLE, Int.reduceEq, Int.reduceMod, Int.reduceDiv, Nat.reduceLT, fnLenL, fnLenT, fnLenF, fnLenS, fnAbs, fnInt, fnList, fnListT, fnTuple, fnTupleT, fnMax2, fnMin2, fnSumL, fnSumT, fnMaxL, fnMaxT, fnMinL, fnMinT, fnAllL, fnAnyL, fnIsNone, fnNotNone, fnIsInt, fnIsBool, fnIsStr, fnIsTup, nN, nI, nB, nS, nL, nT, itmL, itmT, itmS, enmL', enmS', lckV, slcT, slcL, slcS, rgD_nat, rgD_pred, rgD_succ, setIxE, intsOf_ints, boolsOf_bools, strsOf_strs, List.getElem?_cons_succ, List.getElem?_cons_zero, List.set_cons_succ, List.set_cons_zero, List.getElem?_map, List.length_map, List.length_cons, List.length_nil, List.length_append, List.map_append, Option.bind_some, Option.bind_none, Option.map_some, Option.map_none, if_true, if_false, ite_true, ite_false, if_false_right, decide_eq_true_eq, Bool.not_eq_true', decide_eq_false_iff_not, Bool.not_eq_true, reduceCtorEq, reduceIte, ne_eq, not_false_eq_true, not_true_eq_false, true_and, and_true, false_and, and_false, implies_true, Bool.false_eq_true, List.isEmpty_cons, List.isEmpty_nil, Bool.not_true, Bool.not_false, List.map_cons, List.map_nil, List.cons_append, List.nil_append, List.replicate_succ, List.replicate_zero, Nat.reduceSub, Nat.reduceAdd, Nat.reduceMul, Int.reduceSub, Int.reduceNeg, Int.reduceAdd, Int.reduceMul, Int.reducePow, Int.reduceToNat, Nat.reduceLeDiff, lock, unls, unl, wip, rsto, fzO, frz, noal, lfree, lfrees, lfrees_ints, aft, Bool.and_self, Bool.and_true, Bool.true_and, show (0 : Nat) ≤ sizeLine by decide]
  refine Wp.forP (as := l) (enc := fun b => .str (letB b)) [] (fun _ => True) (fun p => [.sh (.str (strB l)), .sh (.int (p.map sg).sum), .ow ((psums (p.map sg)).map .int), .un]) ?_ ?_ ?_ cl_const
  · simp -implicitDefEqProofs only [↓Wp_def, Wp_some, Wp_none, Wp_bind, Wp_ite, Wp_map, wNil, wEx, wAsg, wApp, wSto, wAug, augD, augK_some, augK_none, stE, wAugs, wRetV, wRet, wRetn, wIfe, FQ_nx, FQ_rt, eCon, eVar, eBin, eNeg, eNott, eAndd, eOrr, eCmp, eChain, eChain3, eIte, eTup, eLst, eIdx, eIdxm, eLenset, eJoin, eSlc, eRev, eCall, eFn, ePop, ePopAt, tVal, tAndd, tOrr, tNott, toNone, toSome, oNone, oSome, esNil, esCons, hsNil, hsCons, hVar, hCon, hBin, hNeg, hNott, hAndd, hOrr, hCmp, hChain, hChain3, hIte, hTup, hLst, hIdx, hIdxm, hLenset, hJoin, hSlc, hRev, hCall, hFn, hLc, hGq, hPop, hPopAt, iSeq, iRng1, iRng2, iEnm, iZip, RV.fetch, fetchs, asn1, asnT, asnN, asnC, lkU, lkS, lkO, lkL, slF, slL, leC, leUs, leUo, leN, PyData.int.injEq, PyData.bool.injEq, PyData.str.injEq, PyData.tuple.injEq, PyData.list.injEq, Prod.mk.injEq, List.cons.injEq, Sum.inl.injEq, Option.some.injEq, leS, leO, leL, ow?, retD, varD, hvar, rAdd, rAddL, rAddT, rAddS, rSub, rMul, rPow, aAdd, aSub, aAddS, cLt, cLe, cGt, cGe, cEqI, cNeI, cEqB, cNeB, truI, truB, truL, truT, truN, intI, ixL, ixT, atN, atL, atM, atPlus, atPlus2, fdiv_pos, mod_pos, Int.reduceLT, Int.reduceLE, Int.reduceEq, Int.reduceMod, Int.reduceDiv, Nat.reduceLT, fnLenL, fnLenT, fnLenF, fnLenS, fnAbs, fnInt, fnList, fnListT, fnTuple, fnTupleT, fnMax2, fnMin2, fnSumL, fnSumT, fnMaxL, fnMaxT, fnMinL, fnMinT, fnAllL, fnAnyL, fnIsNone, fnNotNone, fnIsInt, fnIsBool, fnIsStr, fnIsTup, nN, nI, nB, nS, nL, nT, itmL, itmT, enmL', enmS', lckV, slcT, slcL, slcS, rgD_nat, rgD_pred, rgD_succ, setIxE, intsOf_ints, boolsOf_bools, strsOf_strs, List.getElem?_cons_succ, List.getElem?_cons_zero, List.set_cons_succ, List.set_cons_zero, List.getElem?_map, List.length_map, List.length_cons, List.length_nil, List.length_append, List.map_append, Option.bind_some, Option.bind_none, Option.map_some, Option.map_none, if_true, if_false, ite_true, ite_false, if_false_right, decide_eq_true_eq, Bool.not_eq_true', decide_eq_false_iff_not, Bool.not_eq_true, reduceCtorEq, reduceIte, ne_eq, not_false_eq_true, not_true_eq_false, true_and, and_true, false_and, and_false, implies_true, Bool.false_eq_true, List.isEmpty_cons, List.isEmpty_nil, Bool.not_true, Bool.not_false, List.map_cons, List.map_nil, List.cons_append, List.nil_append, List.replicate_succ, List.replicate_zero, Nat.reduceSub, Nat.reduceAdd, Nat.reduceMul, Int.reduceSub, Int.reduceNeg, Int.reduceAdd, Int.reduceMul, Int.reducePow, Int.reduceToNat, Nat.reduceLeDiff, lock, unls, unl, wip, rsto, fzO, frz, noal, lfree, lfrees, lfrees_ints, aft, Bool.and_self, Bool.and_true, Bool.true_and, itmB, psums_nil, List.sum_nil]
  · intro p b q hpq _
    have hz : p.length < sizeLine := szL (by have := pre_len hpq; omega)
    have e : sg b = if b = true then 1 else -1 := rfl
    simp -implicitDefEqProofs only [↓Wp_def, Wp_some, Wp_none, Wp_bind, Wp_ite, Wp_map, wNil, wEx, wAsg, wApp, wSto, wAug, augD, augK_some, augK_none, stE, wAugs, wRetV, wRet, wRetn, wIfe, FQ_nx, FQ_rt, eCon, eVar, eBin, eNeg, eNott, eAndd, eOrr, eCmp, eChain, eChain3, eIte, eTup, eLst, eIdx, eIdxm, eLenset, eJoin, eSlc, eRev, eCall, eFn, ePop, ePopAt, tVal, tAndd, tOrr, tNott, toNone, toSome, oNone, oSome, esNil, esCons, hsNil, hsCons, hVar, hCon, hBin, hNeg, hNott, hAndd, hOrr, hCmp, hChain, hChain3, hIte, hTup, hLst, hIdx, hIdxm, hLenset, hJoin, hSlc, hRev, hCall, hFn, hLc, hGq, hPop, hPopAt, iSeq, iRng1, iRng2, iEnm, iZip, RV.fetch, fetchs, asn1, asnT, asnN, asnC, lkU, lkS, lkO, lkL, slF, slL, leC, leUs, leUo, leN, PyData.int.injEq, PyData.bool.injEq, PyData.str.injEq, PyData.tuple.injEq, PyData.list.injEq, Prod.mk.injEq, List.cons.injEq, Sum.inl.injEq, Option.some.injEq, leS, leO, leL, ow?, retD, varD, hvar, rAdd, rAddL, rAddT, rAddS, rSub, rMul, rPow, aAdd, aSub, aAddS, cLt, cLe, cGt, cGe, cEqI, cNeI, cEqB, cNeB, truI, truB, truL, truT, truN, intI, ixL, ixT, atN, atL, atM, atPlus, atPlus2, fdiv_pos, mod_pos, Int.reduceLT, Int.reduceLE, Int.reduceEq, Int.reduceMod, Int.reduceDiv, Nat.reduceLT, fnLenL, fnLenT, fnLenF, fnLenS, fnAbs, fnInt, fnList, fnListT, fnTuple, fnTupleT, fnMax2, fnMin2, fnSumL, fnSumT, fnMaxL, fnMaxT, fnMinL, fnMinT, fnAllL, fnAnyL, fnIsNone, fnNotNone, fnIsInt, fnIsBool, fnIsStr, fnIsTup, nN, nI, nB, nS, nL, nT, itmL, itmT, itmS, enmL', enmS', lckV, slcT, slcL, slcS, rgD_nat, rgD_pred, rgD_succ, setIxE, intsOf_ints, boolsOf_bools, strsOf_strs, List.getElem?_cons_succ, List.getElem?_cons_zero, List.set_cons_succ, List.set_cons_zero, List.getElem?_map, List.length_map, List.length_cons, List.length_nil, List.length_append, List.map_append, Option.bind_some, Option.bind_none, Option.map_some, Option.map_none, if_true, if_false, ite_true, ite_false, if_false_right, decide_eq_true_eq, Bool.not_eq_true', decide_eq_false_iff_not, Bool.not_eq_true, reduceCtorEq, reduceIte, ne_eq, not_false_eq_true, not_true_eq_false, true_and, and_true, false_and, and_false, implies_true, Bool.false_eq_true, List.isEmpty_cons, List.isEmpty_nil, Bool.not_true, Bool.not_false, List.map_cons, List.map_nil, List.cons_append, List.nil_append, List.replicate_succ, List.replicate_zero, Nat.reduceSub, Nat.reduceAdd, Nat.reduceMul, Int.reduceSub, Int.reduceNeg, Int.reduceAdd, Int.reduceMul, Int.reducePow, Int.reduceToNat, Nat.reduceLeDiff, lock, unls, unl, wip, rsto, fzO, frz, noal, lfree, lfrees, lfrees_ints, aft, Bool.and_self, Bool.and_true, Bool.true_and, eq_u, psums_len, hz, psums_snoc, List.sum_append, List.sum_cons, List.sum_nil, Int.add_zero, e]
    cases b <;> simp -implicitDefEqProofs only [↓Wp_def, Wp_some, Wp_none, Wp_bind, Wp_ite, Wp_map, wNil, wEx, wAsg, wApp, wSto, wAug, augD, augK_some, augK_none, stE, wAugs, wRetV, wRet, wRetn, wIfe, FQ_nx, FQ_rt, eCon, eVar, eBin, eNeg, eNott, eAndd, eOrr, eCmp, eChain, eChain3, eIte, eTup, eLst, eIdx, eIdxm, eLenset, eJoin, eSlc, eRev, eCall, eFn, ePop, ePopAt, tVal, tAndd, tOrr, tNott, toNone, toSome, oNone, oSome, esNil, esCons, hsNil, hsCons, hVar, hCon, hBin, hNeg, hNott, hAndd, hOrr, hCmp, hChain, hChain3, hIte, hTup, hLst, hIdx, hIdxm, hLenset, hJoin, hSlc, hRev, hCall, hFn, hLc, hGq, hPop, hPopAt, iSeq, iRng1, iRng2, iEnm, iZip, RV.fetch, fetchs, asn1, asnT, asnN, asnC, lkU, lkS, lkO, lkL, slF, slL, leC, leUs, leUo, leN, PyData.int.injEq, PyData.bool.injEq, PyData.str.injEq, PyData.tuple.injEq, PyData.list.injEq, Prod.mk.injEq, List.cons.injEq, Sum.inl.injEq, Option.some.injEq, leS, leO, leL, ow?, retD, varD, hvar, rAdd, rAddL, rAddT, rAddS, rSub, rMul, rPow, aAdd, aSub, aAddS, cLt, cLe, cGt, cGe, cEqI, cNeI, cEqB, cNeB, truI, truB, truL, truT, truN, intI, ixL, ixT, atN, atL, atM, atPlus, atPlus2, fdiv_pos, mod_pos, Int.reduceLT, Int.reduceLE, Int.reduceEq, Int.reduceMod, Int.reduceDiv, Nat.reduceLT, fnLenL, fnLenT, fnLenF, fnLenS, fnAbs, fnInt, fnList, fnListT, fnTuple, fnTupleT, fnMax2, fnMin2, fnSumL, fnSumT, fnMaxL, fnMaxT, fnMinL, fnMinT, fnAllL, fnAnyL, fnIsNone, fnNotNone, fnIsInt, fnIsBool, fnIsStr, fnIsTup, nN, nI, nB, nS, nL, nT, itmL, itmT, itmS, enmL', enmS', lckV, slcT, slcL, slcS, rgD_nat, rgD_pred, rgD_succ, setIxE, intsOf_ints, boolsOf_bools, strsOf_strs, List.getElem?_cons_succ, List.getElem?_cons_zero, List.set_cons_succ, List.set_cons_zero, List.getElem?_map, List.length_map, List.length_cons, List.length_nil, List.length_append, List.map_append, Option.bind_some, Option.bind_none, Option.map_some, Option.map_none, if_true, if_false, ite_true, ite_false, if_false_right, decide_eq_true_eq, Bool.not_eq_true', decide_eq_false_iff_not, Bool.not_eq_true, reduceCtorEq, reduceIte, ne_eq, not_false_eq_true, not_true_eq_false, true_and, and_true, false_and, and_false, implies_true, Bool.false_eq_true, List.isEmpty_cons, List.isEmpty_nil, Bool.not_true, Bool.not_false, List.map_cons, List.map_nil, List.cons_append, List.nil_append, List.replicate_succ, List.replicate_zero, Nat.reduceSub, Nat.reduceAdd, Nat.reduceMul, Int.reduceSub, Int.reduceNeg, Int.reduceAdd, Int.reduceMul, Int.reducePow, Int.reduceToNat, Nat.reduceLeDiff, lock, unls, unl, wip, rsto, fzO, frz, noal, lfree, lfrees, lfrees_ints, aft, Bool.and_self, Bool.and_true, Bool.true_and]
  · intro _
    simp -implicitDefEqProofs only [↓Wp_def, Wp_some, Wp_none, Wp_bind, Wp_ite, Wp_map, wNil, wEx, wAsg, wApp, wSto, wAug, augD, augK_some, augK_none, stE, wAugs, wRetV, wRet, wRetn, wIfe, FQ_nx, FQ_rt, eCon, eVar, eBin, eNeg, eNott, eAndd, eOrr, eCmp, eChain, eChain3, eIte, eTup, eLst, eIdx, eIdxm, eLenset, eJoin, eSlc, eRev, eCall, eFn, ePop, ePopAt, tVal, tAndd, tOrr, tNott, toNone, toSome, oNone, oSome, esNil, esCons, hsNil, hsCons, hVar, hCon, hBin, hNeg, hNott, hAndd, hOrr, hCmp, hChain, hChain3, hIte, hTup, hLst, hIdx, hIdxm, hLenset, hJoin, hSlc, hRev, hCall, hFn, hLc, hGq, hPop, hPopAt, iSeq, iRng1, iRng2, iEnm, iZip, RV.fetch, fetchs, asn1, asnT, asnN, asnC, lkU, lkS, lkO, lkL, slF, slL, leC, leUs, leUo, leN, PyData.int.injEq, PyData.bool.injEq, PyData.str.injEq, PyData.tuple.injEq, PyData.list.injEq, Prod.mk.injEq, List.cons.injEq, Sum.inl.injEq, Option.some.injEq, leS, leO, leL, ow?, retD, varD, hvar, rAdd, rAddL, rAddT, rAddS, rSub, rMul, rPow, aAdd, aSub, aAddS, cLt, cLe, cGt, cGe, cEqI, cNeI, cEqB, cNeB, truI, truB, truL, truT, truN, intI, ixL, ixT, atN, atL, atM, atPlus, atPlus2, fdiv_pos, mod_pos, Int.reduceLT, Int.reduceLE, Int.reduceEq, Int.reduceMod, Int.reduceDiv, Nat.reduceLT, fnLenL, fnLenT, fnLenF, fnLenS, fnAbs, fnInt, fnList, fnListT, fnTuple, fnTupleT, fnMax2, fnMin2, fnSumL, fnSumT, fnMaxL, fnMaxT, fnMinL, fnMinT, fnAllL, fnAnyL, fnIsNone, fnNotNone, fnIsInt, fnIsBool, fnIsStr, fnIsTup, nN, nI, nB, nS, nL, nT, itmL, itmT, itmS, enmL', enmS', lckV, slcT, slcL, slcS, rgD_nat, rgD_pred, rgD_succ, setIxE, intsOf_ints, boolsOf_bools, strsOf_strs, List.getElem?_cons_succ, List.getElem?_cons_zero, List.set_cons_succ, List.set_cons_zero, List.getElem?_map, List.length_map, List.length_cons, List.length_nil, List.length_append, List.map_append, Option.bind_some, Option.bind_none, Option.map_some, Option.map_none, if_true, if_false, ite_true, ite_false, if_false_right, decide_eq_true_eq, Bool.not_eq_true', decide_eq_false_iff_not, Bool.not_eq_true, reduceCtorEq, reduceIte, ne_eq, not_false_eq_true, not_true_eq_false, true_and, and_true, false_and, and_false, implies_true, Bool.false_eq_true, List.isEmpty_cons, List.isEmpty_nil, Bool.not_true, Bool.not_false, List.map_cons, List.map_nil, List.cons_append, List.nil_append, List.replicate_succ, List.replicate_zero, Nat.reduceSub, Nat.reduceAdd, Nat.reduceMul, Int.reduceSub, Int.reduceNeg, Int.reduceAdd, Int.reduceMul, Int.reducePow, Int.reduceToNat, Nat.reduceLeDiff, lock, unls, unl, wip, rsto, fzO, frz, noal, lfree, lfrees, lfrees_ints, aft, Bool.and_self, Bool.and_true, Bool.true_and]
/-- the first place at which the height is below 0 -/
def dipN (l : List Bool) : Option Nat := (psums (l.map sg)).findIdx? fun h => decide (h < 0)
def optN : Option Nat → PyData
  | none => .none
  | some i => .int i
theorem dip_ok (hp : prog[i]? = some (cDip iH)) (hH : prog[iH]? = some cHeights) {k : Nat} (hk : 2 ≤ k) (l : List Bool) (hl : l.length ≤ 16777216) : run prog wf k i [.str (strB l)] = some (optN (dipN l), false) := by
  refine run_eq (d := 1) hp hk fun k hk => Wp.fn rfl ?_
  unfold cDip
  refine Wp.forP (as := (psums (l.map sg)).zipIdx) (enc := fun x => .tuple [.int x.2, .int x.1]) [] (fun p => ∀ x ∈ p, ¬ x.1 < 0) (fun p => [.sh (.str (strB l)), .un, .un]) ?_ ?_ ?_ cl_const
  · simp -implicitDefEqProofs only [↓Wp_def, Wp_some, Wp_none, Wp_bind, Wp_ite, Wp_map, wNil, wEx, wAsg, wApp, wSto, wAug, augD, augK_some, augK_none, stE, wAugs, wRetV, wRet, wRetn, wIfe, FQ_nx, FQ_rt, eCon, eVar, eBin, eNeg, eNott, eAndd, eOrr, eCmp, eChain, eChain3, eIte, eTup, eLst, eIdx, eIdxm, eLenset, eJoin, eSlc, eRev, eCall, eFn, ePop, ePopAt, tVal, tAndd, tOrr, tNott, toNone, toSome, oNone, oSome, esNil, esCons, hsNil, hsCons, hVar, hCon, hBin, hNeg, hNott, hAndd, hOrr, hCmp, hChain, hChain3, hIte, hTup, hLst, hIdx, hIdxm, hLenset, hJoin, hSlc, hRev, hCall, hFn, hLc, hGq, hPop, hPopAt, iSeq, iRng1, iRng2, iEnm, iZip, RV.fetch, fetchs, asn1, asnT, asnN, asnC, lkU, lkS, lkO, lkL, slF, slL, leC, leUs, leUo, leN, PyData.int.injEq, PyData.bool.injEq, PyData.str.injEq, PyData.tuple.injEq, PyData.list.injEq, Prod.mk.injEq, List.cons.injEq, Sum.inl.injEq, Option.some.injEq, leS, leO, leL, ow?, retD, varD, hvar, rAdd, rAddL, rAddT, rAddS, rSub, rMul, rPow, aAdd, aSub, aAddS, cLt, cLe, cGt, cGe, cEqI, cNeI, cEqB, cNeB, truI, truB, truL, truT, truN, intI, ixL, ixT, atN, atL, atM, atPlus, atPlus2, fdiv_pos, mod_pos, Int.reduceLT, Int.reduceLE, Int.reduceEq, Int.reduceMod, Int.reduceDiv, Nat.reduceLT, fnLenL, fnLenT, fnLenF, fnLenS, fnAbs, fnInt, fnList, fnListT, fnTuple, fnTupleT, fnMax2, fnMin2, fnSumL, fnSumT, fnMaxL, fnMaxT, fnMinL, fnMinT, fnAllL, fnAnyL, fnIsNone, fnNotNone, fnIsInt, fnIsBool, fnIsStr, fnIsTup, nN, nI, nB, nS, nL, nT, itmL, itmT, itmS, enmL', enmS', lckV, slcT, slcL, slcS, rgD_nat, rgD_pred, rgD_succ, setIxE, intsOf_ints, boolsOf_bools, strsOf_strs, List.getElem?_cons_succ, List.getElem?_cons_zero, List.set_cons_succ, List.set_cons_zero, List.getElem?_map, List.length_map, List.length_cons, List.length_nil, List.length_append, List.map_append, Option.bind_some, Option.bind_none, Option.map_some, Option.map_none, if_true, if_false, ite_true, ite_false, if_false_right, decide_eq_true_eq, Bool.not_eq_true', decide_eq_false_iff_not, Bool.not_eq_true, reduceCtorEq, reduceIte, ne_eq, not_false_eq_true, not_true_eq_false, true_and, and_true, false_and, and_false, implies_true, Bool.false_eq_true, List.isEmpty_cons, List.isEmpty_nil, Bool.not_true, Bool.not_false, List.map_cons, List.map_nil, List.cons_append, List.nil_append, List.replicate_succ, List.replicate_zero, Nat.reduceSub, Nat.reduceAdd, Nat.reduceMul, Int.reduceSub, Int.reduceNeg, Int.reduceAdd, Int.reduceMul, Int.reducePow, Int.reduceToNat, Nat.reduceLeDiff, lock, unls, unl, wip, rsto, fzO, frz, noal, lfree, lfrees, lfrees_ints, aft, Bool.and_self, Bool.and_true, Bool.true_and, heights_ok hH hk l hl, aft, mapIdx_enum]
    exact fun x hx => by cases hx
  · intro p x q hpq hpre
    obtain ⟨h1, h2⟩ := zip_split hpq
    simp -implicitDefEqProofs only [↓Wp_def, Wp_some, Wp_none, Wp_bind, Wp_ite, Wp_map, wNil, wEx, wAsg, wApp, wSto, wAug, augD, augK_some, augK_none, stE, wAugs, wRetV, wRet, wRetn, wIfe, FQ_nx, FQ_rt, eCon, eVar, eBin, eNeg, eNott, eAndd, eOrr, eCmp, eChain, eChain3, eIte, eTup, eLst, eIdx, eIdxm, eLenset, eJoin, eSlc, eRev, eCall, eFn, ePop, ePopAt, tVal, tAndd, tOrr, tNott, toNone, toSome, oNone, oSome, esNil, esCons, hsNil, hsCons, hVar, hCon, hBin, hNeg, hNott, hAndd, hOrr, hCmp, hChain, hChain3, hIte, hTup, hLst, hIdx, hIdxm, hLenset, hJoin, hSlc, hRev, hCall, hFn, hLc, hGq, hPop, hPopAt, iSeq, iRng1, iRng2, iEnm, iZip, RV.fetch, fetchs, asn1, asnT, asnN, asnC, lkU, lkS, lkO, lkL, slF, slL, leC, leUs, leUo, leN, PyData.int.injEq, PyData.bool.injEq, PyData.str.injEq, PyData.tuple.injEq, PyData.list.injEq, Prod.mk.injEq, List.cons.injEq, Sum.inl.injEq, Option.some.injEq, leS, leO, leL, ow?, retD, varD, hvar, rAdd, rAddL, rAddT, rAddS, rSub, rMul, rPow, aAdd, aSub, aAddS, cLt, cLe, cGt, cGe, cEqI, cNeI, cEqB, cNeB, truI, truB, truL, truT, truN, intI, ixL, ixT, atN, atL, atM, atPlus, atPlus2, fdiv_pos, mod_pos, Int.reduceLT, Int.reduceLE, Int.reduceEq, Int.reduceMod, Int.reduceDiv, Nat.reduceLT, fnLenL, fnLenT, fnLenF, fnLenS, fnAbs, fnInt, fnList, fnListT, fnTuple, fnTupleT, fnMax2, fnMin2, fnSumL, fnSumT, fnMaxL, fnMaxT, fnMinL, fnMinT, fnAllL, fnAnyL, fnIsNone, fnNotNone, fnIsInt, fnIsBool, fnIsStr, fnIsTup, nN, nI, nB, nS, nL, nT, itmL, itmT, itmS, enmL', enmS', lckV, slcT, slcL, slcS, rgD_nat, rgD_pred, rgD_succ, setIxE, intsOf_ints, boolsOf_bools, strsOf_strs, List.getElem?_cons_succ, List.getElem?_cons_zero, List.set_cons_succ, List.set_cons_zero, List.getElem?_map, List.length_map, List.length_cons, List.length_nil, List.length_append, List.map_append, Option.bind_some, Option.bind_none, Option.map_some, Option.map_none, if_true, if_false, ite_true, ite_false, if_false_right, decide_eq_true_eq, Bool.not_eq_true', decide_eq_false_iff_not, Bool.not_eq_true, reduceCtorEq, reduceIte, ne_eq, not_false_eq_true, not_true_eq_false, true_and, and_true, false_and, and_false, implies_true, Bool.false_eq_true, List.isEmpty_cons, List.isEmpty_nil, Bool.not_true, Bool.not_false, List.map_cons, List.map_nil, List.cons_append, List.nil_append, List.replicate_succ, List.replicate_zero, Nat.reduceSub, Nat.reduceAdd, Nat.reduceMul, Int.reduceSub, Int.reduceNeg, Int.reduceAdd, Int.reduceMul, Int.reducePow, Int.reduceToNat, Nat.reduceLeDiff, lock, unls, unl, wip, rsto, fzO, frz, noal, lfree, lfrees, lfrees_ints, aft, Bool.and_self, Bool.and_true, Bool.true_and]
    by_cases hx : x.1 < 0
    · simp -implicitDefEqProofs only [↓Wp_def, Wp_some, Wp_none, Wp_bind, Wp_ite, Wp_map, wNil, wEx, wAsg, wApp, wSto, wAug, augD, augK_some, augK_none, stE, wAugs, wRetV, wRet, wRetn, wIfe, FQ_nx, FQ_rt, eCon, eVar, eBin, eNeg, eNott, eAndd, eOrr, eCmp, eChain, eChain3, eIte, eTup, eLst, eIdx, eIdxm, eLenset, eJoin, eSlc, eRev, eCall, eFn, ePop, ePopAt, tVal, tAndd, tOrr, tNott, toNone, toSome, oNone, oSome, esNil, esCons, hsNil, hsCons, hVar, hCon, hBin, hNeg, hNott, hAndd, hOrr, hCmp, hChain, hChain3, hIte, hTup, hLst, hIdx, hIdxm, hLenset, hJoin, hSlc, hRev, hCall, hFn, hLc, hGq, hPop, hPopAt, iSeq, iRng1, iRng2, iEnm, iZip, RV.fetch, fetchs, asn1, asnT, asnN, asnC, lkU, lkS, lkO, lkL, slF, slL, leC, leUs, leUo, leN, PyData.int.injEq, PyData.bool.injEq, PyData.str.injEq, PyData.tuple.injEq, PyData.list.injEq, Prod.mk.injEq, List.cons.injEq, Sum.inl.injEq, Option.some.injEq, leS, leO, leL, ow?, retD, varD, hvar, rAdd, rAddL, rAddT, rAddS, rSub, rMul, rPow, aAdd, aSub, aAddS, cLt, cLe, cGt, cGe, cEqI, cNeI, cEqB, cNeB, truI, truB, truL, truT, truN, intI, ixL, ixT, atN, atL, atM, atPlus, atPlus2, fdiv_pos, mod_pos, Int.reduceLT, Int.reduceLE, Int.reduceEq, Int.reduceMod, Int.reduceDiv, Nat.reduceLT, fnLenL, fnLenT, fnLenF, fnLenS, fnAbs, fnInt, fnList, fnListT, fnTuple, fnTupleT, fnMax2, fnMin2, fnSumL, fnSumT, fnMaxL, fnMaxT, fnMinL, fnMinT, fnAllL, fnAnyL, fnIsNone, fnNotNone, fnIsInt, fnIsBool, fnIsStr, fnIsTup, nN, nI, nB, nS, nL, nT, itmL, itmT, itmS, enmL', enmS', lckV, slcT, slcL, slcS, rgD_nat, rgD_pred, rgD_succ, setIxE, intsOf_ints, boolsOf_bools, strsOf_strs, List.getElem?_cons_succ, List.getElem?_cons_zero, List.set_cons_succ, List.set_cons_zero, List.getElem?_map, List.length_map, List.length_cons, List.length_nil, List.length_append, List.map_append, Option.bind_some, Option.bind_none, Option.map_some, Option.map_none, if_true, if_false, ite_true, ite_false, if_false_right, decide_eq_true_eq, Bool.not_eq_true', decide_eq_false_iff_not, Bool.not_eq_true, reduceCtorEq, reduceIte, ne_eq, not_false_eq_true, not_true_eq_false, true_and, and_true, false_and, and_false, implies_true, Bool.false_eq_true, List.isEmpty_cons, List.isEmpty_nil, Bool.not_true, Bool.not_false, List.map_cons, List.map_nil, List.cons_append, List.nil_append, List.replicate_succ, List.replicate_zero, Nat.reduceSub, Nat.reduceAdd, Nat.reduceMul, Int.reduceSub, Int.reduceNeg, Int.reduceAdd, Int.reduceMul, Int.reducePow, Int.reduceToNat, Nat.reduceLeDiff, lock, unls, unl, wip, rsto, fzO, frz, noal, lfree, lfrees, lfrees_ints, aft, Bool.and_self, Bool.and_true, Bool.true_and, hx]
      have : dipN l = some p.length := by
        unfold dipN
        rw [h2, List.findIdx?_append]
        have : (p.map (·.1)).findIdx? (fun h => decide (h < 0)) = none := by
          rw [List.findIdx?_eq_none_iff]
          intro y hy
          obtain ⟨z, hz, rfl⟩ := List.mem_map.mp hy
          exact decide_eq_false (hpre z hz)
        rw [this, List.findIdx?_cons, if_pos (decide_eq_true hx)]
        simp
      rw [this, h1]
      rfl
    · simp -implicitDefEqProofs only [↓Wp_def, Wp_some, Wp_none, Wp_bind, Wp_ite, Wp_map, wNil, wEx, wAsg, wApp, wSto, wAug, augD, augK_some, augK_none, stE, wAugs, wRetV, wRet, wRetn, wIfe, FQ_nx, FQ_rt, eCon, eVar, eBin, eNeg, eNott, eAndd, eOrr, eCmp, eChain, eChain3, eIte, eTup, eLst, eIdx, eIdxm, eLenset, eJoin, eSlc, eRev, eCall, eFn, ePop, ePopAt, tVal, tAndd, tOrr, tNott, toNone, toSome, oNone, oSome, esNil, esCons, hsNil, hsCons, hVar, hCon, hBin, hNeg, hNott, hAndd, hOrr, hCmp, hChain, hChain3, hIte, hTup, hLst, hIdx, hIdxm, hLenset, hJoin, hSlc, hRev, hCall, hFn, hLc, hGq, hPop, hPopAt, iSeq, iRng1, iRng2, iEnm, iZip, RV.fetch, fetchs, asn1, asnT, asnN, asnC, lkU, lkS, lkO, lkL, slF, slL, leC, leUs, leUo, leN, PyData.int.injEq, PyData.bool.injEq, PyData.str.injEq, PyData.tuple.injEq, PyData.list.injEq, Prod.mk.injEq, List.cons.injEq, Sum.inl.injEq, Option.some.injEq, leS, leO, leL, ow?, retD, varD, hvar, rAdd, rAddL, rAddT, rAddS, rSub, rMul, rPow, aAdd, aSub, aAddS, cLt, cLe, cGt, cGe, cEqI, cNeI, cEqB, cNeB, truI, truB, truL, truT, truN, intI, ixL, ixT, atN, atL, atM, atPlus, atPlus2, fdiv_pos, mod_pos, Int.reduceLT, Int.reduceLE, Int.reduceEq, Int.reduceMod, Int.reduceDiv, Nat.reduceLT, fnLenL, fnLenT, fnLenF, fnLenS, fnAbs, fnInt, fnList, fnListT, fnTuple, fnTupleT, fnMax2, fnMin2, fnSumL, fnSumT, fnMaxL, fnMaxT, fnMinL, fnMinT, fnAllL, fnAnyL, fnIsNone, fnNotNone, fnIsInt, fnIsBool, fnIsStr, fnIsTup, nN, nI, nB, nS, nL, nT, itmL, itmT, itmS, enmL', enmS', lckV, slcT, slcL, slcS, rgD_nat, rgD_pred, rgD_succ, setIxE, intsOf_ints, boolsOf_bools, strsOf_strs, List.getElem?_cons_succ, List.getElem?_cons_zero, List.set_cons_succ, List.set_cons_zero, List.getElem?_map, List.length_map, List.length_cons, List.length_nil, List.length_append, List.map_append, Option.bind_some, Option.bind_none, Option.map_some, Option.map_none, if_true, if_false, ite_true, ite_false, if_false_right, decide_eq_true_eq, Bool.not_eq_true', decide_eq_false_iff_not, Bool.not_eq_true, reduceCtorEq, reduceIte, ne_eq, not_false_eq_true, not_true_eq_false, true_and, and_true, false_and, and_false, implies_true, Bool.false_eq_true, List.isEmpty_cons, List.isEmpty_nil, Bool.not_true, Bool.not_false, List.map_cons, List.map_nil, List.cons_append, List.nil_append, List.replicate_succ, List.replicate_zero, Nat.reduceSub, Nat.reduceAdd, Nat.reduceMul, Int.reduceSub, Int.reduceNeg, Int.reduceAdd, Int.reduceMul, Int.reducePow, Int.reduceToNat, Nat.reduceLeDiff, lock, unls, unl, wip, rsto, fzO, frz, noal, lfree, lfrees, lfrees_ints, aft, Bool.and_self, Bool.and_true, Bool.true_and, hx]
      intro y hy
      rcases List.mem_append.mp hy with hy | hy
      · exact hpre y hy
      · rw [List.mem_singleton.mp hy]; exact hx
  · intro hall
    have : dipN l = none := by
      unfold dipN
      rw [List.findIdx?_eq_none_iff]
      intro y hy
      obtain ⟨n, hn⟩ := List.mem_iff_getElem.mp hy
      obtain ⟨hn, rfl⟩ := hn
      refine decide_eq_false (hall ((psums (l.map sg))[n], n) ?_)
      rw [List.mem_iff_getElem?]
      exact ⟨n, by rw [List.getElem?_zipIdx, List.getElem?_eq_getElem hn]; simp⟩
    simp -implicitDefEqProofs only [↓Wp_def, Wp_some, Wp_none, Wp_bind, Wp_ite, Wp_map, wNil, wEx, wAsg, wApp, wSto, wAug, augD, augK_some, augK_none, stE, wAugs, wRetV, wRet, wRetn, wIfe, FQ_nx, FQ_rt, eCon, eVar, eBin, eNeg, eNott, eAndd, eOrr, eCmp, eChain, eChain3, eIte, eTup, eLst, eIdx, eIdxm, eLenset, eJoin, eSlc, eRev, eCall, eFn, ePop, ePopAt, tVal, tAndd, tOrr, tNott, toNone, toSome, oNone, oSome, esNil, esCons, hsNil, hsCons, hVar, hCon, hBin, hNeg, hNott, hAndd, hOrr, hCmp, hChain, hChain3, hIte, hTup, hLst, hIdx, hIdxm, hLenset, hJoin, hSlc, hRev, hCall, hFn, hLc, hGq, hPop, hPopAt, iSeq, iRng1, iRng2, iEnm, iZip, RV.fetch, fetchs, asn1, asnT, asnN, asnC, lkU, lkS, lkO, lkL, slF, slL, leC, leUs, leUo, leN, PyData.int.injEq, PyData.bool.injEq, PyData.str.injEq, PyData.tuple.injEq, PyData.list.injEq, Prod.mk.injEq, List.cons.injEq, Sum.inl.injEq, Option.some.injEq, leS, leO, leL, ow?, retD, varD, hvar, rAdd, rAddL, rAddT, rAddS, rSub, rMul, rPow, aAdd, aSub, aAddS, cLt, cLe, cGt, cGe, cEqI, cNeI, cEqB, cNeB, truI, truB, truL, truT, truN, intI, ixL, ixT, atN, atL, atM, atPlus, atPlus2, fdiv_pos, mod_pos, Int.reduceLT, Int.reduceLE, Int.reduceEq, Int.reduceMod, Int.reduceDiv, Nat.reduceLT, fnLenL, fnLenT, fnLenF, fnLenS, fnAbs, fnInt, fnList, fnListT, fnTuple, fnTupleT, fnMax2, fnMin2, fnSumL, fnSumT, fnMaxL, fnMaxT, fnMinL, fnMinT, fnAllL, fnAnyL, fnIsNone, fnNotNone, fnIsInt, fnIsBool, fnIsStr, fnIsTup, nN, nI, nB, nS, nL, nT, itmL, itmT, itmS, enmL', enmS', lckV, slcT, slcL, slcS, rgD_nat, rgD_pred, rgD_succ, setIxE, intsOf_ints, boolsOf_bools, strsOf_strs, List.getElem?_cons_succ, List.getElem?_cons_zero, List.set_cons_succ, List.set_cons_zero, List.getElem?_map, List.length_map, List.length_cons, List.length_nil, List.length_append, List.map_append, Option.bind_some, Option.bind_none, Option.map_some, Option.map_none, if_true, if_false, ite_true, ite_false, if_false_right, decide_eq_true_eq, Bool.not_eq_true', decide_eq_false_iff_not, Bool.not_eq_true, reduceCtorEq, reduceIte, ne_eq, not_false_eq_true, not_true_eq_false, true_and, and_true, false_and, and_false, implies_true, Bool.false_eq_true, List.isEmpty_cons, List.isEmpty_nil, Bool.not_true, Bool.not_false, List.map_cons, List.map_nil, List.cons_append, List.nil_append, List.replicate_succ, List.replicate_zero, Nat.reduceSub, Nat.reduceAdd, Nat.reduceMul, Int.reduceSub, Int.reduceNeg, Int.reduceAdd, Int.reduceMul, Int.reducePow, Int.reduceToNat, Nat.reduceLeDiff, lock, unls, unl, wip, rsto, fzO, frz, noal, lfree, lfrees, lfrees_ints, aft, Bool.and_self, Bool.and_true, Bool.true_and, this, optN]
/-- none of its beginnings has more d than u -/
def lofty (l : List Bool) : Prop := ∀ k, k < l.length → 0 ≤ ((l.take (k + 1)).map sg).sum
instance {l : List Bool} : Decidable (lofty l) := inferInstanceAs (Decidable (∀ k, k < l.length → _))
theorem lofty_iff (l : List Bool) : dipN l = none ↔ lofty l := by
  unfold dipN lofty psums
  rw [List.findIdx?_eq_none_iff]
  simp only [List.mem_map, List.mem_range, List.length_map, List.map_take, forall_exists_index, and_imp, decide_eq_false_iff_not]
  constructor
  · intro h k hk; have := h _ k hk rfl; omega
  · intro h y k hk e; have := h k hk; omega
theorem lofty_ok (hp : prog[i]? = some (cLofty iD)) (hD : prog[iD]? = some (cDip iH)) (hH : prog[iH]? = some cHeights) {k : Nat} (hk : 3 ≤ k) (l : List Bool) (hl : l.length ≤ 16777216) : run prog wf k i [.str (strB l)] = some (.bool (dipN l).isNone, false) := by
  refine run_eq (d := 2) hp hk fun k hk => Wp.fn rfl ?_
  unfold cLofty
  cases h : dipN l with
  | none => simp -implicitDefEqProofs only [↓Wp_def, Wp_some, Wp_none, Wp_bind, Wp_ite, Wp_map, wNil, wEx, wAsg, wApp, wSto, wAug, augD, augK_some, augK_none, stE, wAugs, wRetV, wRet, wRetn, wIfe, FQ_nx, FQ_rt, eCon, eVar, eBin, eNeg, eNott, eAndd, eOrr, eCmp, eChain, eChain3, eIte, eTup, eLst, eIdx, eIdxm, eLenset, eJoin, eSlc, eRev, eCall, eFn, ePop, ePopAt, tVal, tAndd, tOrr, tNott, toNone, toSome, oNone, oSome, esNil, esCons, hsNil, hsCons, hVar, hCon, hBin, hNeg, hNott, hAndd, hOrr, hCmp, hChain, hChain3, hIte, hTup, hLst, hIdx, hIdxm, hLenset, hJoin, hSlc, hRev, hCall, hFn, hLc, hGq, hPop, hPopAt, iSeq, iRng1, iRng2, iEnm, iZip, RV.fetch, fetchs, asn1, asnT, asnN, asnC, lkU, lkS, lkO, lkL, slF, slL, leC, leUs, leUo, leN, PyData.int.injEq, PyData.bool.injEq, PyData.str.injEq, PyData.tuple.injEq, PyData.list.injEq, Prod.mk.injEq, List.cons.injEq, Sum.inl.injEq, Option.some.injEq, leS, leO, leL, ow?, retD, varD, hvar, rAdd, rAddL, rAddT, rAddS, rSub, rMul, rPow, aAdd, aSub, aAddS, cLt, cLe, cGt, cGe, cEqI, cNeI, cEqB, cNeB, truI, truB, truL, truT, truN, intI, ixL, ixT, atN, atL, atM, atPlus, atPlus2, fdiv_pos, mod_pos, Int.reduceLT, Int.reduceLE, Int.reduceEq, Int.reduceMod, Int.reduceDiv, Nat.reduceLT, fnLenL, fnLenT, fnLenF, fnLenS, fnAbs, fnInt, fnList, fnListT, fnTuple, fnTupleT, fnMax2, fnMin2, fnSumL, fnSumT, fnMaxL, fnMaxT, fnMinL, fnMinT, fnAllL, fnAnyL, fnIsNone, fnNotNone, fnIsInt, fnIsBool, fnIsStr, fnIsTup, nN, nI, nB, nS, nL, nT, itmL, itmT, itmS, enmL', enmS', lckV, slcT, slcL, slcS, rgD_nat, rgD_pred, rgD_succ, setIxE, intsOf_ints, boolsOf_bools, strsOf_strs, List.getElem?_cons_succ, List.getElem?_cons_zero, List.set_cons_succ, List.set_cons_zero, List.getElem?_map, List.length_map, List.length_cons, List.length_nil, List.length_append, List.map_append, Option.bind_some, Option.bind_none, Option.map_some, Option.map_none, if_true, if_false, ite_true, ite_false, if_false_right, decide_eq_true_eq, Bool.not_eq_true', decide_eq_false_iff_not, Bool.not_eq_true, reduceCtorEq, reduceIte, ne_eq, not_false_eq_true, not_true_eq_false, true_and, and_true, false_and, and_false, implies_true, Bool.false_eq_true, List.isEmpty_cons, List.isEmpty_nil, Bool.not_true, Bool.not_false, List.map_cons, List.map_nil, List.cons_append, List.nil_append, List.replicate_succ, List.replicate_zero, Nat.reduceSub, Nat.reduceAdd, Nat.reduceMul, Int.reduceSub, Int.reduceNeg, Int.reduceAdd, Int.reduceMul, Int.reducePow, Int.reduceToNat, Nat.reduceLeDiff, lock, unls, unl, wip, rsto, fzO, frz, noal, lfree, lfrees, lfrees_ints, aft, Bool.and_self, Bool.and_true, Bool.true_and, dip_ok hD hH hk l hl, aft, h, optN]; rfl
  | some n => simp -implicitDefEqProofs only [↓Wp_def, Wp_some, Wp_none, Wp_bind, Wp_ite, Wp_map, wNil, wEx, wAsg, wApp, wSto, wAug, augD, augK_some, augK_none, stE, wAugs, wRetV, wRet, wRetn, wIfe, FQ_nx, FQ_rt, eCon, eVar, eBin, eNeg, eNott, eAndd, eOrr, eCmp, eChain, eChain3, eIte, eTup, eLst, eIdx, eIdxm, eLenset, eJoin, eSlc, eRev, eCall, eFn, ePop, ePopAt, tVal, tAndd, tOrr, tNott, toNone, toSome, oNone, oSome, esNil, esCons, hsNil, hsCons, hVar, hCon, hBin, hNeg, hNott, hAndd, hOrr, hCmp, hChain, hChain3, hIte, hTup, hLst, hIdx, hIdxm, hLenset, hJoin, hSlc, hRev, hCall, hFn, hLc, hGq, hPop, hPopAt, iSeq, iRng1, iRng2, iEnm, iZip, RV.fetch, fetchs, asn1, asnT, asnN, asnC, lkU, lkS, lkO, lkL, slF, slL, leC, leUs, leUo, leN, PyData.int.injEq, PyData.bool.injEq, PyData.str.injEq, PyData.tuple.injEq, PyData.list.injEq, Prod.mk.injEq, List.cons.injEq, Sum.inl.injEq, Option.some.injEq, leS, leO, leL, ow?, retD, varD, hvar, rAdd, rAddL, rAddT, rAddS, rSub, rMul, rPow, aAdd, aSub, aAddS, cLt, cLe, cGt, cGe, cEqI, cNeI, cEqB, cNeB, truI, truB, truL, truT, truN, intI, ixL, ixT, atN, atL, atM, atPlus, atPlus2, fdiv_pos, mod_pos, Int.reduceLT, Int.reduceLE, Int.reduceEq, Int.reduceMod, Int.reduceDiv, Nat.reduceLT, fnLenL, fnLenT, fnLenF, fnLenS, fnAbs, fnInt, fnList, fnListT, fnTuple, fnTupleT, fnMax2, fnMin2, fnSumL, fnSumT, fnMaxL, fnMaxT, fnMinL, fnMinT, fnAllL, fnAnyL, fnIsNone, fnNotNone, fnIsInt, fnIsBool, fnIsStr, fnIsTup, nN, nI, nB, nS, nL, nT, itmL, itmT, itmS, enmL', enmS', lckV, slcT, slcL, slcS, rgD_nat, rgD_pred, rgD_succ, setIxE, intsOf_ints, boolsOf_bools, strsOf_strs, List.getElem?_cons_succ, List.getElem?_cons_zero, List.set_cons_succ, List.set_cons_zero, List.getElem?_map, List.length_map, List.length_cons, List.length_nil, List.length_append, List.map_append, Option.bind_some, Option.bind_none, Option.map_some, Option.map_none, if_true, if_false, ite_true, ite_false, if_false_right, decide_eq_true_eq, Bool.not_eq_true', decide_eq_false_iff_not, Bool.not_eq_true, reduceCtorEq, reduceIte, ne_eq, not_false_eq_true, not_true_eq_false, true_and, and_true, false_and, and_false, implies_true, Bool.false_eq_true, List.isEmpty_cons, List.isEmpty_nil, Bool.not_true, Bool.not_false, List.map_cons, List.map_nil, List.cons_append, List.nil_append, List.replicate_succ, List.replicate_zero, Nat.reduceSub, Nat.reduceAdd, Nat.reduceMul, Int.reduceSub, Int.reduceNeg, Int.reduceAdd, Int.reduceMul, Int.reducePow, Int.reduceToNat, Nat.reduceLeDiff, lock, unls, unl, wip, rsto, fzO, frz, noal, lfree, lfrees, lfrees_ints, aft, Bool.and_self, Bool.and_true, Bool.true_and, dip_ok hD hH hk l hl, aft, h, optN]; rfl
/-! ### matchings -/
/-- the places of a letter -/
def pos (b : Bool) (l : List Bool) : List Int := ((List.range l.length).filter fun k => l[k]? == some b).map fun (k : Nat) => (k : Int)
theorem pos_snoc (b c : Bool) (l : List Bool) : pos b (l ++ [c]) = pos b l ++ if c = b then [(l.length : Int)] else [] := by
  unfold pos
  rw [List.length_append, List.length_cons, List.length_nil, List.range_succ, List.filter_append, List.map_append]
  congr 1
  · congr 1
    refine List.filter_congr fun k hk => ?_
    have := List.mem_range.mp hk
    rw [List.getElem?_append_left this]
  · have : (l ++ [c])[l.length + 0]? = some c := by simp
    rw [Nat.add_zero] at this
    by_cases h : c = b
    · rw [if_pos h, List.filter_cons_of_pos (by rw [this, h]; simp)]
      rfl
    · rw [if_neg h, List.filter_cons_of_neg (by rw [this]; simpa using h)]
      rfl
theorem mem_pos {b : Bool} {l : List Bool} {x : Int} : x ∈ pos b l ↔ ∃ k : Nat, x = k ∧ k < l.length ∧ l[k]? = some b := by
  unfold pos
  simp only [List.mem_map, List.mem_filter, List.mem_range, beq_iff_eq]
  constructor
  · intro ⟨k, ⟨h1, h2⟩, h3⟩; exact ⟨k, h3.symm, h1, h2⟩
  · intro ⟨k, h1, h2, h3⟩; exact ⟨k, ⟨h2, h3⟩, h1.symm⟩
theorem pos_sorted (b : Bool) (l : List Bool) : (pos b l).Pairwise (· < ·) := by
  unfold pos
  rw [List.pairwise_map]
  refine (List.Pairwise.filter _ (List.pairwise_lt_range)).imp fun h => ?_
  omega
theorem pos_nodup (b : Bool) (l : List Bool) : (pos b l).Nodup := (pos_sorted b l).imp fun h => by omega
theorem count_pos (l : List Bool) : ((pos true l).length : Int) - (pos false l).length = (l.map sg).sum := by
  refine snoc_ind (P := fun l => ((pos true l).length : Int) - (pos false l).length = (l.map sg).sum) rfl (fun l c ih => ?_) l
  · rw [pos_snoc, pos_snoc, List.map_append, List.sum_append, ← ih]
    cases c <;> simp [sg] <;> omega
/-- the pairs made and the free places behind the beginning l -/
structure MInv (l : List Bool) (ps : List (Int × Int)) (fr : List Int) : Prop where
  snd : ps.map (·.2) = pos false l
  fst : (ps.map (·.1) ++ fr).Perm (pos true l)
  lt : ∀ p ∈ ps, p.1 < p.2
theorem MInv.count {l ps fr} (h : MInv l ps fr) : (fr.length : Int) = (l.map sg).sum := by
  have h1 := congrArg List.length h.snd
  have h2 := h.fst.length_eq
  have h3 := count_pos l
  rw [List.length_map] at h1
  rw [List.length_append, List.length_map] at h2
  omega
theorem MInv.start : MInv [] [] [] := ⟨rfl, .refl _, fun p hp => by cases hp⟩
theorem MInv.up {l ps fr} (h : MInv l ps fr) : MInv (l ++ [true]) ps (fr ++ [(l.length : Int)]) where
  snd := by rw [h.snd, pos_snoc]; simp
  fst := by rw [pos_snoc, if_pos rfl, ← List.append_assoc]; exact h.fst.append_right _
  lt := h.lt
theorem MInv.down {l ps fr x} (h : MInv l ps (fr ++ [x])) : MInv (l ++ [false]) (ps ++ [(x, (l.length : Int))]) fr where
  snd := by rw [List.map_append, h.snd, pos_snoc, if_pos rfl]; rfl
  fst := by
    rw [pos_snoc, if_neg (by decide), List.append_nil]
    refine List.Perm.trans ?_ h.fst
    rw [List.map_append, List.append_assoc]
    exact (List.perm_append_comm).append_left _
  lt := fun p hp => by
    rcases List.mem_append.mp hp with hp | hp
    · exact h.lt p hp
    · rw [List.mem_singleton.mp hp]
      have : x ∈ pos true l := h.fst.mem_iff.mp (by simp)
      obtain ⟨k, rfl, hk, _⟩ := mem_pos.mp this
      show ((k : Nat) : Int) < _
      omega
/-- a matching of l -/
structure Mat (l : List Bool) (s : List (Int × Int)) : Prop where
  ord : s.Pairwise leP
  lt : ∀ p ∈ s, p.1 < p.2
  up : ∀ p ∈ s, p.1 ∈ pos true l
  down : ∀ p ∈ s, p.2 ∈ pos false l
  nd : (s.map (·.1)).Nodup
  all : (s.map (·.2)).Perm (pos false l)
theorem MInv.mat {l ps fr s} (h : MInv l ps fr) (hp : ps.Perm s) (ho : s.Pairwise leP) : Mat l s where
  ord := ho
  lt := fun p hq => h.lt p (hp.mem_iff.mpr hq)
  up := fun p hq => h.fst.mem_iff.mp (List.mem_append_left _ (List.mem_map_of_mem (hp.mem_iff.mpr hq)))
  down := fun p hq => by rw [← h.snd]; exact List.mem_map_of_mem (hp.mem_iff.mpr hq)
  nd := by
    have := (h.fst.nodup_iff).mpr (pos_nodup true l)
    exact ((hp.map (·.1)).nodup_iff).mp (List.nodup_append.mp this).1
  all := by rw [← h.snd]; exact (hp.map _).symm
theorem popLast (fr : List Int) (x : Int) : (List.map PyData.int (fr ++ [x])).getLast? = some (.int x) := by simp
theorem match_ok (hp : prog[i]? = some cMatch) {k : Nat} (hk : 1 ≤ k) (l : List Bool) (hl : l.length ≤ 1000000) : (lofty l → ∃ s, Mat l s ∧ run prog wf k i [.str (strB l)] = some (.tuple (s.map prI), false)) ∧ (¬ lofty l → run prog wf k i [.str (strB l)] = some (.none, false)) := by
  have main : Wp (run prog wf k i [.str (strB l)]) fun x => if lofty l then ∃ s, Mat l s ∧ x = (.tuple (s.map prI), false) else x = (.none, false) := by
    refine run_wp (d := 0) hp hk fun k _ => Wp.fn rfl ?_
    unfold cMatch
    simp -implicitDefEqProofs only [↓Wp_def, Wp_some, Wp_none, Wp_bind, Wp_ite, Wp_map, wNil, wEx, wAsg, wApp, wSto, wAug, augD, augK_some, augK_none, stE, wAugs, wRetV, wRet, wRetn, wIfe, FQ_nx, FQ_rt, eCon, eVar, eBin, eNeg, eNott, eAndd, eOrr, eCmp, eChain, eChain3, eIte, eTup, eLst, eIdx, eIdxm, eLenset, eJoin, eSlc, eRev, eCall, eFn, ePop, ePopAt, tVal, tAndd, tOrr, tNott, toNone, toSome, oNone, oSome, esNil, esCons, hsNil, hsCons, hVar, hCon, hBin, hNeg, hNott, hAndd, hOrr, hCmp, hChain, hChain3, hIte, hTup, hLst, hIdx, hIdxm, hLenset, hJoin, hSlc, hRev, hCall, hFn, hLc, hGq, hPop, hPopAt, iSeq, iRng1, iRng2, iEnm, iZip, RV.fetch, fetchs, asn1, asnT, asnN, asnC, lkU, lkS, lkO, lkL, slF, slL, leC, leUs, leUo, leN, PyData.int.injEq, PyData.bool.injEq, PyData.str.injEq, PyData.tuple.injEq, PyData.list.injEq, Prod.mk.injEq, List.cons.injEq, Sum.inl.injEq, Option.some.injEq, leS, leO, leL, ow?, retD, varD, hvar, rAdd, rAddL, rAddT, rAddS, rSub, rMul, rPow, aAdd, aSub, aAddS, cLt, cLe, cGt, cGe, cEqI, cNeI, cEqB, cNeB, truI, truB, truL, truT, truN, intI, ixL, ixT, atN, atL, atM, atPlus, atPlus2, fdiv_pos, mod_pos, Int.reduceLT, Int.reduceLE, Int.reduceEq, Int.reduceMod, Int.reduceDiv, Nat.reduceLT, fnLenL, fnLenT, fnLenF, fnLenS, fnAbs, fnInt, fnList, fnListT, fnTuple, fnTupleT, fnMax2, fnMin2, fnSumL, fnSumT, fnMaxL, fnMaxT, fnMinL, fnMinT, fnAllL, fnAnyL, fnIsNone, fnNotNone, fnIsInt, fnIsBool, fnIsStr, fnIsTup, nN, nI, nB, nS, nL, nT, itmL, itmT, itmS, enmL', enmS', lckV, slcT, slcL, slcS, rgD_nat, rgD_pred, rgD_succ, setIxE, intsOf_ints, boolsOf_bools, strsOf_strs, List.getElem?_cons_succ, List.getElem?_cons_zero, List.set_cons_succ, List.set_cons_zero, List.getElem?_map, List.length_map, List.length_cons, List.length_nil, List.length_append, List.map_append, Option.bind_some, Option.bind_none, Option.map_some, Option.map_none, if_true, if_false, ite_true, ite_false, if_false_right, decide_eq_true_eq, Bool.not_eq_true', decide_eq_false_iff_not, Bool.not_eq_true, reduceCtorEq, reduceIte, ne_eq, not_false_eq_true, not_true_eq_false, true_and, and_true, false_and, and_false, implies_true, Bool.false_eq_true, List.isEmpty_cons, List.isEmpty_nil, Bool.not_true, Bool.not_false, List.map_cons, List.map_nil, List.cons_append, List.nil_append, List.replicate_succ, List.replicate_zero, Nat.reduceSub, Nat.reduceAdd, Nat.reduceMul, Int.reduceSub, Int.reduceNeg, Int.reduceAdd, Int.reduceMul, Int.reducePow, Int.reduceToNat, Nat.reduceLeDiff, lock, unls, unl, wip, rsto, fzO, frz, noal, lfree, lfrees, lfrees_ints, aft, Bool.and_self, Bool.and_true, Bool.true_and, show (0 : Nat) ≤ sizeLine by decide]
    refine Wp.forS (as := l.zipIdx) (enc := fun x => .tuple [.int x.2, .str (letB x.1)]) (σ := List (Int × Int) × List Int) [] (fun p s => MInv (p.map (·.1)) s.1 s.2 ∧ lofty (p.map (·.1)))
      (fun _ s => [.sh (.str (strB l)), .ow (s.1.map prI), .ow (s.2.map .int), .un, .un]) ([], []) ?_ ?_ ?_ cl_const
    · simp -implicitDefEqProofs only [↓Wp_def, Wp_some, Wp_none, Wp_bind, Wp_ite, Wp_map, wNil, wEx, wAsg, wApp, wSto, wAug, augD, augK_some, augK_none, stE, wAugs, wRetV, wRet, wRetn, wIfe, FQ_nx, FQ_rt, eCon, eVar, eBin, eNeg, eNott, eAndd, eOrr, eCmp, eChain, eChain3, eIte, eTup, eLst, eIdx, eIdxm, eLenset, eJoin, eSlc, eRev, eCall, eFn, ePop, ePopAt, tVal, tAndd, tOrr, tNott, toNone, toSome, oNone, oSome, esNil, esCons, hsNil, hsCons, hVar, hCon, hBin, hNeg, hNott, hAndd, hOrr, hCmp, hChain, hChain3, hIte, hTup, hLst, hIdx, hIdxm, hLenset, hJoin, hSlc, hRev, hCall, hFn, hLc, hGq, hPop, hPopAt, iSeq, iRng1, iRng2, iEnm, iZip, RV.fetch, fetchs, asn1, asnT, asnN, asnC, lkU, lkS, lkO, lkL, slF, slL, leC, leUs, leUo, leN, PyData.int.injEq, PyData.bool.injEq, PyData.str.injEq, PyData.tuple.injEq, PyData.list.injEq, Prod.mk.injEq, List.cons.injEq, Sum.inl.injEq, Option.some.injEq, leS, leO, leL, ow?, retD, varD, hvar, rAdd, rAddL, rAddT, rAddS, rSub, rMul, rPow, aAdd, aSub, aAddS, cLt, cLe, cGt, cGe, cEqI, cNeI, cEqB, cNeB, truI, truB, truL, truT, truN, intI, ixL, ixT, atN, atL, atM, atPlus, atPlus2, fdiv_pos, mod_pos, Int.reduceLT, Int.reduceLE, Int.reduceEq, Int.reduceMod, Int.reduceDiv, Nat.reduceLT, fnLenL, fnLenT, fnLenF, fnLenS, fnAbs, fnInt, fnList, fnListT, fnTuple, fnTupleT, fnMax2, fnMin2, fnSumL, fnSumT, fnMaxL, fnMaxT, fnMinL, fnMinT, fnAllL, fnAnyL, fnIsNone, fnNotNone, fnIsInt, fnIsBool, fnIsStr, fnIsTup, nN, nI, nB, nS, nL, nT, itmL, itmT, itmS, enmL', lckV, slcT, slcL, slcS, rgD_nat, rgD_pred, rgD_succ, setIxE, intsOf_ints, boolsOf_bools, strsOf_strs, List.getElem?_cons_succ, List.getElem?_cons_zero, List.set_cons_succ, List.set_cons_zero, List.getElem?_map, List.length_map, List.length_cons, List.length_nil, List.length_append, List.map_append, Option.bind_some, Option.bind_none, Option.map_some, Option.map_none, if_true, if_false, ite_true, ite_false, if_false_right, decide_eq_true_eq, Bool.not_eq_true', decide_eq_false_iff_not, Bool.not_eq_true, reduceCtorEq, reduceIte, ne_eq, not_false_eq_true, not_true_eq_false, true_and, and_true, false_and, and_false, implies_true, Bool.false_eq_true, List.isEmpty_cons, List.isEmpty_nil, Bool.not_true, Bool.not_false, List.map_cons, List.map_nil, List.cons_append, List.nil_append, List.replicate_succ, List.replicate_zero, Nat.reduceSub, Nat.reduceAdd, Nat.reduceMul, Int.reduceSub, Int.reduceNeg, Int.reduceAdd, Int.reduceMul, Int.reducePow, Int.reduceToNat, Nat.reduceLeDiff, lock, unls, unl, wip, rsto, fzO, frz, noal, lfree, lfrees, lfrees_ints, aft, Bool.and_self, Bool.and_true, Bool.true_and, enmB, mapIdx_enum]
      exact ⟨.start, fun k hk => by simp at hk⟩
    · intro p x q ⟨ps, fr⟩ hpq ⟨hI, hlo⟩
      obtain ⟨h1, h2⟩ := zip_split hpq
      have hpl : p.length < l.length := by
        have := congrArg List.length h2
        simp at this
        omega
      have hc := hI.count
      simp only at hI hc
      have hps : ps.length < sizeLine := szL (by
        have := congrArg List.length hI.snd
        rw [List.length_map] at this
        have h3 : (pos false (p.map (·.1))).length ≤ p.length := by
          unfold pos
          rw [List.length_map]
          refine Nat.le_trans (List.length_filter_le _ _) ?_
          simp
        omega)
      have hfr : fr.length < sizeLine := szL (by
        have := hI.fst.length_eq
        rw [List.length_append] at this
        have h3 : (pos true (p.map (·.1))).length ≤ p.length := by
          unfold pos
          rw [List.length_map]
          refine Nat.le_trans (List.length_filter_le _ _) ?_
          simp
        omega)
      obtain ⟨b, n⟩ := x
      simp only at h1 h2
      subst h1
      have e1 : (p ++ [(b, p.length)]).map (·.1) = p.map (·.1) ++ [b] := by simp
      have hlen : (p.map (·.1)).length = p.length := by simp
      have lo : ∀ c, 0 ≤ (((p.map (·.1)) ++ [c]).map sg).sum → lofty (p.map (·.1) ++ [c]) := fun c h k hk => by
        rw [List.length_append] at hk
        simp only [List.length_cons, List.length_nil] at hk
        by_cases hk2 : k < (p.map (·.1)).length
        · rw [List.take_append_of_le_length (by omega)]
          exact hlo k hk2
        · rw [List.take_of_length_le (by simp at hk hk2 ⊢; omega)]
          exact h
      cases b with
      | true =>
        simp -implicitDefEqProofs only [↓Wp_def, Wp_some, Wp_none, Wp_bind, Wp_ite, Wp_map, wNil, wEx, wAsg, wApp, wSto, wAug, augD, augK_some, augK_none, stE, wAugs, wRetV, wRet, wRetn, wIfe, FQ_nx, FQ_rt, eCon, eVar, eBin, eNeg, eNott, eAndd, eOrr, eCmp, eChain, eChain3, eIte, eTup, eLst, eIdx, eIdxm, eLenset, eJoin, eSlc, eRev, eCall, eFn, ePop, ePopAt, tVal, tAndd, tOrr, tNott, toNone, toSome, oNone, oSome, esNil, esCons, hsNil, hsCons, hVar, hCon, hBin, hNeg, hNott, hAndd, hOrr, hCmp, hChain, hChain3, hIte, hTup, hLst, hIdx, hIdxm, hLenset, hJoin, hSlc, hRev, hCall, hFn, hLc, hGq, hPop, hPopAt, iSeq, iRng1, iRng2, iEnm, iZip, RV.fetch, fetchs, asn1, asnT, asnN, asnC, lkU, lkS, lkO, lkL, slF, slL, leC, leUs, leUo, leN, PyData.int.injEq, PyData.bool.injEq, PyData.str.injEq, PyData.tuple.injEq, PyData.list.injEq, Prod.mk.injEq, List.cons.injEq, Sum.inl.injEq, Option.some.injEq, leS, leO, leL, ow?, retD, varD, hvar, rAdd, rAddL, rAddT, rAddS, rSub, rMul, rPow, aAdd, aSub, aAddS, cLt, cLe, cGt, cGe, cEqI, cNeI, cEqB, cNeB, truI, truB, truL, truT, truN, intI, ixL, ixT, atN, atL, atM, atPlus, atPlus2, fdiv_pos, mod_pos, Int.reduceLT, Int.reduceLE, Int.reduceEq, Int.reduceMod, Int.reduceDiv, Nat.reduceLT, fnLenL, fnLenT, fnLenF, fnLenS, fnAbs, fnInt, fnList, fnListT, fnTuple, fnTupleT, fnMax2, fnMin2, fnSumL, fnSumT, fnMaxL, fnMaxT, fnMinL, fnMinT, fnAllL, fnAnyL, fnIsNone, fnNotNone, fnIsInt, fnIsBool, fnIsStr, fnIsTup, nN, nI, nB, nS, nL, nT, itmL, itmT, itmS, enmL', enmS', lckV, slcT, slcL, slcS, rgD_nat, rgD_pred, rgD_succ, setIxE, intsOf_ints, boolsOf_bools, strsOf_strs, List.getElem?_cons_succ, List.getElem?_cons_zero, List.set_cons_succ, List.set_cons_zero, List.getElem?_map, List.length_map, List.length_cons, List.length_nil, List.length_append, List.map_append, Option.bind_some, Option.bind_none, Option.map_some, Option.map_none, if_true, if_false, ite_true, ite_false, if_false_right, decide_eq_true_eq, Bool.not_eq_true', decide_eq_false_iff_not, Bool.not_eq_true, reduceCtorEq, reduceIte, ne_eq, not_false_eq_true, not_true_eq_false, true_and, and_true, false_and, and_false, implies_true, Bool.false_eq_true, List.isEmpty_cons, List.isEmpty_nil, Bool.not_true, Bool.not_false, List.map_cons, List.map_nil, List.cons_append, List.nil_append, List.replicate_succ, List.replicate_zero, Nat.reduceSub, Nat.reduceAdd, Nat.reduceMul, Int.reduceSub, Int.reduceNeg, Int.reduceAdd, Int.reduceMul, Int.reducePow, Int.reduceToNat, Nat.reduceLeDiff, lock, unls, unl, wip, rsto, fzO, frz, noal, lfree, lfrees, lfrees_ints, aft, Bool.and_self, Bool.and_true, Bool.true_and, eq_u, hfr]
        refine ⟨(ps, fr ++ [(p.length : Int)]), ⟨?_, ?_⟩, ?_⟩
        · have := hI.up
          rw [hlen] at this
          exact this
        · refine lo true ?_
          rw [List.map_append, List.sum_append, ← hc]
          simp [sg]
          omega
        · simp -implicitDefEqProofs only [↓Wp_def, Wp_some, Wp_none, Wp_bind, Wp_ite, Wp_map, wNil, wEx, wAsg, wApp, wSto, wAug, augD, augK_some, augK_none, stE, wAugs, wRetV, wRet, wRetn, wIfe, FQ_nx, FQ_rt, eCon, eVar, eBin, eNeg, eNott, eAndd, eOrr, eCmp, eChain, eChain3, eIte, eTup, eLst, eIdx, eIdxm, eLenset, eJoin, eSlc, eRev, eCall, eFn, ePop, ePopAt, tVal, tAndd, tOrr, tNott, toNone, toSome, oNone, oSome, esNil, esCons, hsNil, hsCons, hVar, hCon, hBin, hNeg, hNott, hAndd, hOrr, hCmp, hChain, hChain3, hIte, hTup, hLst, hIdx, hIdxm, hLenset, hJoin, hSlc, hRev, hCall, hFn, hLc, hGq, hPop, hPopAt, iSeq, iRng1, iRng2, iEnm, iZip, RV.fetch, fetchs, asn1, asnT, asnN, asnC, lkU, lkS, lkO, lkL, slF, slL, leC, leUs, leUo, leN, PyData.int.injEq, PyData.bool.injEq, PyData.str.injEq, PyData.tuple.injEq, PyData.list.injEq, Prod.mk.injEq, List.cons.injEq, Sum.inl.injEq, Option.some.injEq, leS, leO, leL, ow?, retD, varD, hvar, rAdd, rAddL, rAddT, rAddS, rSub, rMul, rPow, aAdd, aSub, aAddS, cLt, cLe, cGt, cGe, cEqI, cNeI, cEqB, cNeB, truI, truB, truL, truT, truN, intI, ixL, ixT, atN, atL, atM, atPlus, atPlus2, fdiv_pos, mod_pos, Int.reduceLT, Int.reduceLE, Int.reduceEq, Int.reduceMod, Int.reduceDiv, Nat.reduceLT, fnLenL, fnLenT, fnLenF, fnLenS, fnAbs, fnInt, fnList, fnListT, fnTuple, fnTupleT, fnMax2, fnMin2, fnSumL, fnSumT, fnMaxL, fnMaxT, fnMinL, fnMinT, fnAllL, fnAnyL, fnIsNone, fnNotNone, fnIsInt, fnIsBool, fnIsStr, fnIsTup, nN, nI, nB, nS, nL, nT, itmL, itmT, itmS, enmL', enmS', lckV, slcT, slcL, slcS, rgD_nat, rgD_pred, rgD_succ, setIxE, intsOf_ints, boolsOf_bools, strsOf_strs, List.getElem?_cons_succ, List.getElem?_cons_zero, List.set_cons_succ, List.set_cons_zero, List.getElem?_map, List.length_map, List.length_cons, List.length_nil, List.length_append, List.map_append, Option.bind_some, Option.bind_none, Option.map_some, Option.map_none, if_true, if_false, ite_true, ite_false, if_false_right, decide_eq_true_eq, Bool.not_eq_true', decide_eq_false_iff_not, Bool.not_eq_true, reduceCtorEq, reduceIte, ne_eq, not_false_eq_true, not_true_eq_false, true_and, and_true, false_and, and_false, implies_true, Bool.false_eq_true, List.isEmpty_cons, List.isEmpty_nil, Bool.not_true, Bool.not_false, List.map_cons, List.map_nil, List.cons_append, List.nil_append, List.replicate_succ, List.replicate_zero, Nat.reduceSub, Nat.reduceAdd, Nat.reduceMul, Int.reduceSub, Int.reduceNeg, Int.reduceAdd, Int.reduceMul, Int.reducePow, Int.reduceToNat, Nat.reduceLeDiff, lock, unls, unl, wip, rsto, fzO, frz, noal, lfree, lfrees, lfrees_ints, aft, Bool.and_self, Bool.and_true, Bool.true_and]
      | false =>
        simp -implicitDefEqProofs only [↓Wp_def, Wp_some, Wp_none, Wp_bind, Wp_ite, Wp_map, wNil, wEx, wAsg, wApp, wSto, wAug, augD, augK_some, augK_none, stE, wAugs, wRetV, wRet, wRetn, wIfe, FQ_nx, FQ_rt, eCon, eVar, eBin, eNeg, eNott, eAndd, eOrr, eCmp, eChain, eChain3, eIte, eTup, eLst, eIdx, eIdxm, eLenset, eJoin, eSlc, eRev, eCall, eFn, ePop, ePopAt, tVal, tAndd, tOrr, tNott, toNone, toSome, oNone, oSome, esNil, esCons, hsNil, hsCons, hVar, hCon, hBin, hNeg, hNott, hAndd, hOrr, hCmp, hChain, hChain3, hIte, hTup, hLst, hIdx, hIdxm, hLenset, hJoin, hSlc, hRev, hCall, hFn, hLc, hGq, hPop, hPopAt, iSeq, iRng1, iRng2, iEnm, iZip, RV.fetch, fetchs, asn1, asnT, asnN, asnC, lkU, lkS, lkO, lkL, slF, slL, leC, leUs, leUo, leN, PyData.int.injEq, PyData.bool.injEq, PyData.str.injEq, PyData.tuple.injEq, PyData.list.injEq, Prod.mk.injEq, List.cons.injEq, Sum.inl.injEq, Option.some.injEq, leS, leO, leL, ow?, retD, varD, hvar, rAdd, rAddL, rAddT, rAddS, rSub, rMul, rPow, aAdd, aSub, aAddS, cLt, cLe, cGt, cGe, cEqI, cNeI, cEqB, cNeB, truI, truB, truL, truT, truN, intI, ixL, ixT, atN, atL, atM, atPlus, atPlus2, fdiv_pos, mod_pos, Int.reduceLT, Int.reduceLE, Int.reduceEq, Int.reduceMod, Int.reduceDiv, Nat.reduceLT, fnLenL, fnLenT, fnLenF, fnLenS, fnAbs, fnInt, fnList, fnListT, fnTuple, fnTupleT, fnMax2, fnMin2, fnSumL, fnSumT, fnMaxL, fnMaxT, fnMinL, fnMinT, fnAllL, fnAnyL, fnIsNone, fnNotNone, fnIsInt, fnIsBool, fnIsStr, fnIsTup, nN, nI, nB, nS, nL, nT, itmL, itmT, itmS, enmL', enmS', lckV, slcT, slcL, slcS, rgD_nat, rgD_pred, rgD_succ, setIxE, intsOf_ints, boolsOf_bools, strsOf_strs, List.getElem?_cons_succ, List.getElem?_cons_zero, List.set_cons_succ, List.set_cons_zero, List.getElem?_map, List.length_map, List.length_cons, List.length_nil, List.length_append, List.map_append, Option.bind_some, Option.bind_none, Option.map_some, Option.map_none, if_true, if_false, ite_true, ite_false, if_false_right, decide_eq_true_eq, Bool.not_eq_true', decide_eq_false_iff_not, Bool.not_eq_true, reduceCtorEq, reduceIte, ne_eq, not_false_eq_true, not_true_eq_false, true_and, and_true, false_and, and_false, implies_true, Bool.false_eq_true, List.isEmpty_cons, List.isEmpty_nil, Bool.not_true, Bool.not_false, List.map_cons, List.map_nil, List.cons_append, List.nil_append, List.replicate_succ, List.replicate_zero, Nat.reduceSub, Nat.reduceAdd, Nat.reduceMul, Int.reduceSub, Int.reduceNeg, Int.reduceAdd, Int.reduceMul, Int.reducePow, Int.reduceToNat, Nat.reduceLeDiff, lock, unls, unl, wip, rsto, fzO, frz, noal, lfree, lfrees, lfrees_ints, aft, Bool.and_self, Bool.and_true, Bool.true_and, eq_u]
        by_cases hf : fr = []
        · subst hf
          have nl : ¬ lofty l := fun h => by
            have := h p.length hpl
            rw [h2, List.take_append, List.take_of_length_le (by simp), hlen, show p.length + 1 - p.length = 1 by omega] at this
            rw [List.map_append, List.sum_append, ← hc] at this
            simp [sg] at this
          simp -implicitDefEqProofs only [↓Wp_def, Wp_some, Wp_none, Wp_bind, Wp_ite, Wp_map, wNil, wEx, wAsg, wApp, wSto, wAug, augD, augK_some, augK_none, stE, wAugs, wRetV, wRet, wRetn, wIfe, FQ_nx, FQ_rt, eCon, eVar, eBin, eNeg, eNott, eAndd, eOrr, eCmp, eChain, eChain3, eIte, eTup, eLst, eIdx, eIdxm, eLenset, eJoin, eSlc, eRev, eCall, eFn, ePop, ePopAt, tVal, tAndd, tOrr, tNott, toNone, toSome, oNone, oSome, esNil, esCons, hsNil, hsCons, hVar, hCon, hBin, hNeg, hNott, hAndd, hOrr, hCmp, hChain, hChain3, hIte, hTup, hLst, hIdx, hIdxm, hLenset, hJoin, hSlc, hRev, hCall, hFn, hLc, hGq, hPop, hPopAt, iSeq, iRng1, iRng2, iEnm, iZip, RV.fetch, fetchs, asn1, asnT, asnN, asnC, lkU, lkS, lkO, lkL, slF, slL, leC, leUs, leUo, leN, PyData.int.injEq, PyData.bool.injEq, PyData.str.injEq, PyData.tuple.injEq, PyData.list.injEq, Prod.mk.injEq, List.cons.injEq, Sum.inl.injEq, Option.some.injEq, leS, leO, leL, ow?, retD, varD, hvar, rAdd, rAddL, rAddT, rAddS, rSub, rMul, rPow, aAdd, aSub, aAddS, cLt, cLe, cGt, cGe, cEqI, cNeI, cEqB, cNeB, truI, truB, truL, truT, truN, intI, ixL, ixT, atN, atL, atM, atPlus, atPlus2, fdiv_pos, mod_pos, Int.reduceLT, Int.reduceLE, Int.reduceEq, Int.reduceMod, Int.reduceDiv, Nat.reduceLT, fnLenL, fnLenT, fnLenF, fnLenS, fnAbs, fnInt, fnList, fnListT, fnTuple, fnTupleT, fnMax2, fnMin2, fnSumL, fnSumT, fnMaxL, fnMaxT, fnMinL, fnMinT, fnAllL, fnAnyL, fnIsNone, fnNotNone, fnIsInt, fnIsBool, fnIsStr, fnIsTup, nN, nI, nB, nS, nL, nT, itmL, itmT, itmS, enmL', enmS', lckV, slcT, slcL, slcS, rgD_nat, rgD_pred, rgD_succ, setIxE, intsOf_ints, boolsOf_bools, strsOf_strs, List.getElem?_cons_succ, List.getElem?_cons_zero, List.set_cons_succ, List.set_cons_zero, List.getElem?_map, List.length_map, List.length_cons, List.length_nil, List.length_append, List.map_append, Option.bind_some, Option.bind_none, Option.map_some, Option.map_none, if_true, if_false, ite_true, ite_false, if_false_right, decide_eq_true_eq, Bool.not_eq_true', decide_eq_false_iff_not, Bool.not_eq_true, reduceCtorEq, reduceIte, ne_eq, not_false_eq_true, not_true_eq_false, true_and, and_true, false_and, and_false, implies_true, Bool.false_eq_true, List.isEmpty_cons, List.isEmpty_nil, Bool.not_true, Bool.not_false, List.map_cons, List.map_nil, List.cons_append, List.nil_append, List.replicate_succ, List.replicate_zero, Nat.reduceSub, Nat.reduceAdd, Nat.reduceMul, Int.reduceSub, Int.reduceNeg, Int.reduceAdd, Int.reduceMul, Int.reducePow, Int.reduceToNat, Nat.reduceLeDiff, lock, unls, unl, wip, rsto, fzO, frz, noal, lfree, lfrees, lfrees_ints, aft, Bool.and_self, Bool.and_true, Bool.true_and, nl, Int.natCast_zero, decide_true]
        · obtain ⟨fr', y, rfl⟩ : ∃ fr' y, fr = fr' ++ [y] := ⟨fr.dropLast, fr.getLast hf, (List.dropLast_concat_getLast hf).symm⟩
          have two : (2 : Nat) ≤ sizeLine := by decide
          have nz : ¬ ((fr'.length : Int) + (0 + 1) = 0) := by omega
          have dl : (List.map PyData.int fr' ++ [PyData.int y]).dropLast = fr'.map PyData.int := by rw [List.dropLast_concat]
          have gl : (List.map PyData.int fr' ++ [PyData.int y]).getLast? = some (PyData.int y) := by simp
          simp -implicitDefEqProofs only [↓Wp_def, Wp_some, Wp_none, Wp_bind, Wp_ite, Wp_map, wNil, wEx, wAsg, wApp, wSto, wAug, augD, augK_some, augK_none, stE, wAugs, wRetV, wRet, wRetn, wIfe, FQ_nx, FQ_rt, eCon, eVar, eBin, eNeg, eNott, eAndd, eOrr, eCmp, eChain, eChain3, eIte, eTup, eLst, eIdx, eIdxm, eLenset, eJoin, eSlc, eRev, eCall, eFn, ePop, ePopAt, tVal, tAndd, tOrr, tNott, toNone, toSome, oNone, oSome, esNil, esCons, hsNil, hsCons, hVar, hCon, hBin, hNeg, hNott, hAndd, hOrr, hCmp, hChain, hChain3, hIte, hTup, hLst, hIdx, hIdxm, hLenset, hJoin, hSlc, hRev, hCall, hFn, hLc, hGq, hPop, hPopAt, iSeq, iRng1, iRng2, iEnm, iZip, RV.fetch, fetchs, asn1, asnT, asnN, asnC, lkU, lkS, lkO, lkL, slF, slL, leC, leUs, leUo, leN, PyData.int.injEq, PyData.bool.injEq, PyData.str.injEq, PyData.tuple.injEq, PyData.list.injEq, Prod.mk.injEq, List.cons.injEq, Sum.inl.injEq, Option.some.injEq, leS, leO, leL, ow?, retD, varD, hvar, rAdd, rAddL, rAddT, rAddS, rSub, rMul, rPow, aAdd, aSub, aAddS, cLt, cLe, cGt, cGe, cEqI, cNeI, cEqB, cNeB, truI, truB, truL, truT, truN, intI, ixL, ixT, atN, atL, atM, atPlus, atPlus2, fdiv_pos, mod_pos, Int.reduceLT, Int.reduceLE, Int.reduceEq, Int.reduceMod, Int.reduceDiv, Nat.reduceLT, fnLenL, fnLenT, fnLenF, fnLenS, fnAbs, fnInt, fnList, fnListT, fnTuple, fnTupleT, fnMax2, fnMin2, fnSumL, fnSumT, fnMaxL, fnMaxT, fnMinL, fnMinT, fnAllL, fnAnyL, fnIsNone, fnNotNone, fnIsInt, fnIsBool, fnIsStr, fnIsTup, nN, nI, nB, nS, nL, nT, itmL, itmT, itmS, enmL', enmS', lckV, slcT, slcL, slcS, rgD_nat, rgD_pred, rgD_succ, setIxE, intsOf_ints, boolsOf_bools, strsOf_strs, List.getElem?_cons_succ, List.getElem?_cons_zero, List.set_cons_succ, List.set_cons_zero, List.getElem?_map, List.length_map, List.length_cons, List.length_nil, List.length_append, List.map_append, Option.bind_some, Option.bind_none, Option.map_some, Option.map_none, if_true, if_false, ite_true, ite_false, if_false_right, decide_eq_true_eq, Bool.not_eq_true', decide_eq_false_iff_not, Bool.not_eq_true, reduceCtorEq, reduceIte, ne_eq, not_false_eq_true, not_true_eq_false, true_and, and_true, false_and, and_false, implies_true, Bool.false_eq_true, List.isEmpty_cons, List.isEmpty_nil, Bool.not_true, Bool.not_false, List.map_cons, List.map_nil, List.cons_append, List.nil_append, List.replicate_succ, List.replicate_zero, Nat.reduceSub, Nat.reduceAdd, Nat.reduceMul, Int.reduceSub, Int.reduceNeg, Int.reduceAdd, Int.reduceMul, Int.reducePow, Int.reduceToNat, Nat.reduceLeDiff, lock, unls, unl, wip, rsto, fzO, frz, noal, lfree, lfrees, lfrees_ints, aft, Bool.and_self, Bool.and_true, Bool.true_and, nz, two, hps, dl, gl, Int.natCast_add, Int.natCast_one, Int.natCast_zero]
          refine ⟨(ps ++ [(y, (p.length : Int))], fr'), ⟨?_, ?_⟩, ?_⟩
          · have := hI.down
            rw [hlen] at this
            exact this
          · refine lo false ?_
            rw [List.map_append, List.sum_append, ← hc]
            simp [sg]
            omega
          · simp -implicitDefEqProofs only [↓Wp_def, Wp_some, Wp_none, Wp_bind, Wp_ite, Wp_map, wNil, wEx, wAsg, wApp, wSto, wAug, augD, augK_some, augK_none, stE, wAugs, wRetV, wRet, wRetn, wIfe, FQ_nx, FQ_rt, eCon, eVar, eBin, eNeg, eNott, eAndd, eOrr, eCmp, eChain, eChain3, eIte, eTup, eLst, eIdx, eIdxm, eLenset, eJoin, eSlc, eRev, eCall, eFn, ePop, ePopAt, tVal, tAndd, tOrr, tNott, toNone, toSome, oNone, oSome, esNil, esCons, hsNil, hsCons, hVar, hCon, hBin, hNeg, hNott, hAndd, hOrr, hCmp, hChain, hChain3, hIte, hTup, hLst, hIdx, hIdxm, hLenset, hJoin, hSlc, hRev, hCall, hFn, hLc, hGq, hPop, hPopAt, iSeq, iRng1, iRng2, iEnm, iZip, RV.fetch, fetchs, asn1, asnT, asnN, asnC, lkU, lkS, lkO, lkL, slF, slL, leC, leUs, leUo, leN, PyData.int.injEq, PyData.bool.injEq, PyData.str.injEq, PyData.tuple.injEq, PyData.list.injEq, Prod.mk.injEq, List.cons.injEq, Sum.inl.injEq, Option.some.injEq, leS, leO, leL, ow?, retD, varD, hvar, rAdd, rAddL, rAddT, rAddS, rSub, rMul, rPow, aAdd, aSub, aAddS, cLt, cLe, cGt, cGe, cEqI, cNeI, cEqB, cNeB, truI, truB, truL, truT, truN, intI, ixL, ixT, atN, atL, atM, atPlus, atPlus2, fdiv_pos, mod_pos, Int.reduceLT, Int.reduceLE, Int.reduceEq, Int.reduceMod, Int.reduceDiv, Nat.reduceLT, fnLenL, fnLenT, fnLenF, fnLenS, fnAbs, fnInt, fnList, fnListT, fnTuple, fnTupleT, fnMax2, fnMin2, fnSumL, fnSumT, fnMaxL, fnMaxT, fnMinL, fnMinT, fnAllL, fnAnyL, fnIsNone, fnNotNone, fnIsInt, fnIsBool, fnIsStr, fnIsTup, nN, nI, nB, nS, nL, nT, itmL, itmT, itmS, enmL', enmS', lckV, slcT, slcL, slcS, rgD_nat, rgD_pred, rgD_succ, setIxE, intsOf_ints, boolsOf_bools, strsOf_strs, List.getElem?_cons_succ, List.getElem?_cons_zero, List.set_cons_succ, List.set_cons_zero, List.getElem?_map, List.length_map, List.length_cons, List.length_nil, List.length_append, List.map_append, Option.bind_some, Option.bind_none, Option.map_some, Option.map_none, if_true, if_false, ite_true, ite_false, if_false_right, decide_eq_true_eq, Bool.not_eq_true', decide_eq_false_iff_not, Bool.not_eq_true, reduceCtorEq, reduceIte, ne_eq, not_false_eq_true, not_true_eq_false, true_and, and_true, false_and, and_false, implies_true, Bool.false_eq_true, List.isEmpty_cons, List.isEmpty_nil, Bool.not_true, Bool.not_false, List.map_cons, List.map_nil, List.cons_append, List.nil_append, List.replicate_succ, List.replicate_zero, Nat.reduceSub, Nat.reduceAdd, Nat.reduceMul, Int.reduceSub, Int.reduceNeg, Int.reduceAdd, Int.reduceMul, Int.reducePow, Int.reduceToNat, Nat.reduceLeDiff, lock, unls, unl, wip, rsto, fzO, frz, noal, lfree, lfrees, lfrees_ints, aft, Bool.and_self, Bool.and_true, Bool.true_and, prI]
    · intro ⟨ps, fr⟩ ⟨hI, hlo⟩
      rw [List.zipIdx_map_fst] at hI hlo
      obtain ⟨s, hs1, hs2⟩ := sorted_copy ps
      have hps : ps.length ≤ 16777216 := by
        have := congrArg List.length hI.snd
        rw [List.length_map] at this
        have h3 : (pos false l).length ≤ l.length := by
          unfold pos
          rw [List.length_map]
          refine Nat.le_trans (List.length_filter_le _ _) ?_
          simp
        simp only at this
        omega
      simp -implicitDefEqProofs only [↓Wp_def, Wp_some, Wp_none, Wp_bind, Wp_ite, Wp_map, wNil, wEx, wAsg, wApp, wSto, wAug, augD, augK_some, augK_none, stE, wAugs, wRetV, wRet, wRetn, wIfe, FQ_nx, FQ_rt, eCon, eVar, eBin, eNeg, eNott, eAndd, eOrr, eCmp, eChain, eChain3, eIte, eTup, eLst, eIdx, eIdxm, eLenset, eJoin, eSlc, eRev, eCall, eFn, ePop, ePopAt, tVal, tAndd, tOrr, tNott, toNone, toSome, oNone, oSome, esNil, esCons, hsNil, hsCons, hVar, hCon, hBin, hNeg, hNott, hAndd, hOrr, hCmp, hChain, hChain3, hIte, hTup, hLst, hIdx, hIdxm, hLenset, hJoin, hSlc, hRev, hCall, hFn, hLc, hGq, hPop, hPopAt, iSeq, iRng1, iRng2, iEnm, iZip, RV.fetch, fetchs, asn1, asnT, asnN, asnC, lkU, lkS, lkO, lkL, slF, slL, leC, leUs, leUo, leN, PyData.int.injEq, PyData.bool.injEq, PyData.str.injEq, PyData.tuple.injEq, PyData.list.injEq, Prod.mk.injEq, List.cons.injEq, Sum.inl.injEq, Option.some.injEq, leS, leO, leL, ow?, retD, varD, hvar, rAdd, rAddL, rAddT, rAddS, rSub, rMul, rPow, aAdd, aSub, aAddS, cLt, cLe, cGt, cGe, cEqI, cNeI, cEqB, cNeB, truI, truB, truL, truT, truN, intI, ixL, ixT, atN, atL, atM, atPlus, atPlus2, fdiv_pos, mod_pos, Int.reduceLT, Int.reduceLE, Int.reduceEq, Int.reduceMod, Int.reduceDiv, Nat.reduceLT, fnLenL, fnLenT, fnLenF, fnLenS, fnAbs, fnInt, fnList, fnListT, fnTuple, fnTupleT, fnMax2, fnMin2, fnSumL, fnSumT, fnMaxL, fnMaxT, fnMinL, fnMinT, fnAllL, fnAnyL, fnIsNone, fnNotNone, fnIsInt, fnIsBool, fnIsStr, fnIsTup, nN, nI, nB, nS, nL, nT, itmL, itmT, itmS, enmL', enmS', lckV, slcT, slcL, slcS, rgD_nat, rgD_pred, rgD_succ, setIxE, intsOf_ints, boolsOf_bools, strsOf_strs, List.getElem?_cons_succ, List.getElem?_cons_zero, List.set_cons_succ, List.set_cons_zero, List.getElem?_map, List.length_map, List.length_cons, List.length_nil, List.length_append, List.map_append, Option.bind_some, Option.bind_none, Option.map_some, Option.map_none, if_true, if_false, ite_true, ite_false, if_false_right, decide_eq_true_eq, Bool.not_eq_true', decide_eq_false_iff_not, Bool.not_eq_true, reduceCtorEq, reduceIte, ne_eq, not_false_eq_true, not_true_eq_false, true_and, and_true, false_and, and_false, implies_true, Bool.false_eq_true, List.isEmpty_cons, List.isEmpty_nil, Bool.not_true, Bool.not_false, List.map_cons, List.map_nil, List.cons_append, List.nil_append, List.replicate_succ, List.replicate_zero, Nat.reduceSub, Nat.reduceAdd, Nat.reduceMul, Int.reduceSub, Int.reduceNeg, Int.reduceAdd, Int.reduceMul, Int.reducePow, Int.reduceToNat, Nat.reduceLeDiff, lock, unls, unl, wip, rsto, fzO, frz, noal, lfree, lfrees, lfrees_ints, aft, Bool.and_self, Bool.and_true, Bool.true_and, sort_pairs hps hs1 hs2, hlo]
      exact ⟨s, hI.mat hs1 hs2, rfl⟩
  obtain ⟨x, h1, h2⟩ := main.out
  constructor
  · intro h
    rw [if_pos h] at h2
    obtain ⟨s, h3, h4⟩ := h2
    exact ⟨s, h3, by rw [h1, h4]⟩
  · intro h
    rw [if_neg h] at h2
    rw [h1, h2]
end
end RV

namespace K73
/-! ### stacks and nudges -/
def S (l : List Int) (k : Nat) : Int := (l.take k).sum
theorem S_set : ∀ (l : List Int) (p k : Nat) (v : Int) (h : p < l.length), S (l.set p v) k = S l k + if p < k then v - l[p] else 0
  | a :: l, 0, 0, v, h => by simp [S]
  | a :: l, 0, k + 1, v, h => by simp [S]; omega
  | a :: l, p + 1, 0, v, h => by simp [S]
  | a :: l, p + 1, k + 1, v, h => by
    have := S_set l p k v (by simpa using h)
    simp only [S, List.set_cons_succ, List.take_succ_cons, List.sum_cons, List.getElem_cons_succ, Nat.add_lt_add_iff_right] at this ⊢
    omega
theorem S_succ (l : List Int) (k : Nat) (h : k < l.length) : S l (k + 1) = S l k + l[k] := by
  unfold S
  rw [List.take_add_one, List.getElem?_eq_getElem h, List.sum_append]
  simp
theorem S_zero (l : List Int) : S l 0 = 0 := by simp [S]
theorem S_all (l : List Int) (k : Nat) (h : l.length ≤ k) : S l k = l.sum := by rw [S, List.take_of_length_le h]
def lead (a b : List Int) (k : Nat) : Int := S a k - S b k
def ah (a b : List Int) : List Int := (List.range a.length).map fun k => lead a b (k + 1)
theorem zip_sum : ∀ (a b : List Int), a.length = b.length → ((a.zip b).map fun p => p.1 - p.2).sum = a.sum - b.sum
  | [], [], _ => by simp
  | x :: a, y :: b, h => by
    have := zip_sum a b (by simpa using h)
    simp only [List.zip_cons_cons, List.map_cons, List.sum_cons, this]
    omega
theorem ah_eq (a b : List Int) (h : a.length = b.length) : RV.psums ((a.zip b).map fun p => p.1 - p.2) = ah a b := by
  unfold RV.psums ah
  have hl : ((a.zip b).map fun p => p.1 - p.2).length = a.length := by simp [h]
  rw [hl]
  refine List.map_congr_left fun k hk => ?_
  rw [← List.map_take, List.zip_eq_zipWith, List.take_zipWith, ← List.zip_eq_zipWith, zip_sum _ _ (by simp [h])]
  rfl
theorem ah_len (a b : List Int) : (ah a b).length = a.length := by simp [ah]
theorem ah_get (a b : List Int) (k : Nat) (h : k < a.length) : (ah a b)[k]? = some (lead a b (k + 1)) := by simp [ah, h]
/-- one down at p, one up behind it -/
def nud (l : List Int) (p : Nat) : List Int := (l.set p ((l[p]?).getD 0 - 1)).set (p + 1) ((l[p + 1]?).getD 0 + 1)
theorem nud_len (l : List Int) (p : Nat) : (nud l p).length = l.length := by simp [nud]
theorem S_nud (l : List Int) (p k : Nat) (h : p + 1 < l.length) : S (nud l p) k = S l k - if k = p + 1 then 1 else 0 := by
  have h0 : p < l.length := by omega
  unfold nud
  rw [S_set _ _ _ _ (by simpa using h), S_set _ _ _ _ h0, List.getElem_set_ne (by omega), List.getElem?_eq_getElem h, List.getElem?_eq_getElem h0]
  simp only [Option.getD_some]
  by_cases h1 : p + 1 < k
  · rw [if_pos h1, if_pos (show p < k by omega), if_neg (show ¬ k = p + 1 by omega)]; omega
  · rw [if_neg h1]
    by_cases h2 : p < k
    · rw [if_pos h2, if_pos (show k = p + 1 by omega)]; omega
    · rw [if_neg h2, if_neg (show ¬ k = p + 1 by omega)]; omega
theorem lead_nud (l b : List Int) (p k : Nat) (h : p + 1 < l.length) : lead (nud l p) b k = lead l b k - if k = p + 1 then 1 else 0 := by
  unfold lead
  rw [S_nud _ _ _ h]
  omega
/-- the whole of the leads -/
def tot (a b : List Int) : Int := ((List.range a.length).map fun k => lead a b (k + 1)).sum
theorem sum_sub_one (f g : Nat → Int) (p : Nat) : ∀ n, p < n → (∀ k, g k = f k - if k = p then 1 else 0) → ((List.range n).map g).sum = ((List.range n).map f).sum - 1 := by
  intro n
  induction n with
  | zero => intro h; omega
  | succ n ih =>
    intro h hg
    rw [List.range_succ, List.map_append, List.map_append, List.sum_append, List.sum_append]
    by_cases hp : p < n
    · rw [ih hp hg]
      have := hg n
      rw [if_neg (by omega)] at this
      simp only [List.map_cons, List.map_nil, List.sum_cons, List.sum_nil, this]
      omega
    · have e : p = n := by omega
      subst e
      have h0 : (List.range p).map g = (List.range p).map f := List.map_congr_left fun k hk => by
        have := List.mem_range.mp hk
        rw [hg k, if_neg (by omega)]; omega
      have := hg p
      rw [if_pos rfl] at this
      simp only [h0, List.map_cons, List.map_nil, List.sum_cons, List.sum_nil, this]
      omega
theorem tot_nud (l b : List Int) (p : Nat) (h : p + 1 < l.length) : tot (nud l p) b = tot l b - 1 := by
  unfold tot
  rw [nud_len]
  refine sum_sub_one _ _ p l.length (by omega) fun k => ?_
  rw [lead_nud _ _ _ _ h]
  by_cases hk : k = p
  · rw [if_pos hk, if_pos (by omega)]
  · rw [if_neg hk, if_neg (by omega)]
/-- no lead is lost -/
def After (a b : List Int) : Prop := ∀ k, k ≤ a.length → 0 ≤ lead a b k
instance {a b : List Int} : Decidable (After a b) := decidable_of_iff (∀ k : Fin (a.length + 1), 0 ≤ lead a b k) ⟨fun h k hk => h ⟨k, by omega⟩, fun h k => h k (by omega)⟩
theorem eq_of_leads : ∀ (a b : List Int), a.length = b.length → (∀ k, k ≤ a.length → S a k = S b k) → a = b := fun a b hl h => by
  refine List.ext_getElem hl fun i h1 h2 => ?_
  have e1 := h i (by omega)
  have e2 := h (i + 1) (by omega)
  rw [S_succ a i h1, S_succ b i h2] at e2
  omega
/-- places told, walked -/
def led : List Int → List Int → Option (List Int)
  | now, [] => some now
  | now, p :: ps => if p < 0 ∨ (now.length : Int) ≤ p + 1 ∨ (now[p.toNat]?).getD 0 = 0 then none else led (nud now p.toNat) ps
theorem led_append : ∀ (now : List Int) (p q : List Int), led now (p ++ q) = (led now p).bind fun l => led l q
  | now, [], q => rfl
  | now, x :: p, q => by
    simp only [List.cons_append, led]
    split
    · rfl
    · exact led_append _ p q
theorem led_len : ∀ (now : List Int) (p l : List Int), led now p = some l → l.length = now.length
  | now, [], l, h => by cases h; rfl
  | now, x :: p, l, h => by
    simp only [led] at h
    split at h
    · cases h
    · rw [led_len _ p l h, nud_len]
/-- a state of the way from a to b -/
structure Way (b now : List Int) : Prop where
  len : now.length = b.length
  sum : now.sum = b.sum
  aft : After now b
theorem way_ne {b now : List Int} (w : Way b now) (hn : now ≠ b) : ∃ p rest, ((List.range now.length).filter fun k => decide (0 < lead now b (k + 1))) = p :: rest ∧ p + 1 < now.length ∧ 0 < lead now b (p + 1) ∧ (b[p]?).getD 0 < (now[p]?).getD 0 := by
  cases hf : (List.range now.length).filter fun k => decide (0 < lead now b (k + 1)) with
  | nil =>
    exfalso
    refine hn (eq_of_leads now b w.len fun k hk => ?_)
    have h0 := w.aft k hk
    unfold lead at h0
    cases k with
    | zero => rw [S_zero, S_zero]
    | succ k =>
      have := List.filter_eq_nil_iff.mp hf k (List.mem_range.mpr (by omega))
      have : ¬ 0 < lead now b (k + 1) := fun z => this (decide_eq_true z)
      unfold lead at this
      omega
  | cons p rest =>
    refine ⟨p, rest, rfl, ?_⟩
    have hp : p ∈ (List.range now.length).filter fun k => decide (0 < lead now b (k + 1)) := by rw [hf]; exact List.mem_cons_self
    obtain ⟨h1, h2⟩ := List.mem_filter.mp hp
    have h1 := List.mem_range.mp h1
    have h2 := of_decide_eq_true h2
    have last : lead now b now.length = 0 := by
      unfold lead
      rw [S_all now _ (Nat.le_refl _), S_all b _ (by rw [w.len]; exact Nat.le_refl _), w.sum]; omega
    have hlt : p + 1 < now.length := by
      rcases Nat.lt_or_ge (p + 1) now.length with h | h
      · exact h
      · have : p + 1 = now.length := by omega
        rw [this, last] at h2; omega
    have hprev : lead now b p ≤ 0 := by
      cases p with
      | zero => simp [lead, S_zero]
      | succ p =>
        have hnot : p ∉ (List.range now.length).filter fun k => decide (0 < lead now b (k + 1)) := fun hm => by
          have srt : ((List.range now.length).filter fun k => decide (0 < lead now b (k + 1))).Pairwise (· < ·) := List.Pairwise.filter _ List.pairwise_lt_range
          rw [hf] at srt hm
          rcases List.mem_cons.mp hm with e | hm
          · omega
          · have := (List.pairwise_cons.mp srt).1 p hm
            omega
        have : ¬ 0 < lead now b (p + 1) := fun z => hnot (List.mem_filter.mpr ⟨List.mem_range.mpr (by omega), decide_eq_true z⟩)
        omega
    refine ⟨hlt, h2, ?_⟩
    have hb : p < b.length := by rw [← w.len]; exact h1
    rw [List.getElem?_eq_getElem h1, List.getElem?_eq_getElem hb]
    simp only [Option.getD_some]
    unfold lead at h2 hprev
    rw [S_succ now p h1, S_succ b p hb] at h2
    omega
theorem way_nud {b now : List Int} (w : Way b now) {p : Nat} (hp : p + 1 < now.length) (hl : 0 < lead now b (p + 1)) : Way b (nud now p) where
  len := by rw [nud_len, w.len]
  sum := by
    have := S_nud now p now.length hp
    rw [S_all _ _ (by rw [nud_len]; exact Nat.le_refl _), S_all now _ (Nat.le_refl _), if_neg (by omega), Int.sub_zero] at this
    rw [this, w.sum]
  aft := fun k hk => by
    rw [nud_len] at hk
    rw [lead_nud _ _ _ _ hp]
    have := w.aft k hk
    split
    · rename_i e; subst e; omega
    · omega
theorem tot_nonneg {b now : List Int} (w : Way b now) : 0 ≤ tot now b := by
  unfold tot
  have : ∀ n, n ≤ now.length → 0 ≤ ((List.range n).map fun k => lead now b (k + 1)).sum := fun n => by
    induction n with
    | zero => intro _; simp
    | succ n ih =>
      intro hn
      rw [List.range_succ, List.map_append, List.sum_append]
      have h1 := ih (by omega)
      have h2 := w.aft (n + 1) hn
      simp only [List.map_cons, List.map_nil, List.sum_cons, List.sum_nil]
      omega
  exact this _ (Nat.le_refl _)
theorem tot_self (b : List Int) : tot b b = 0 := by
  unfold tot lead
  have : ((List.range b.length).map fun k => S b (k + 1) - S b (k + 1)) = (List.range b.length).map fun _ => (0 : Int) := List.map_congr_left fun k _ => by omega
  rw [this]
  induction b.length with
  | zero => rfl
  | succ n ih => rw [List.range_succ, List.map_append, List.sum_append, ih]; rfl
end K73

namespace KX
open PySem PySem.Spec PyProof.Rows L2 RV
/-! ### the program in the small language -/
-- ahead_by [first, second, whole, found, one, other]
def c0 : CD := ⟨2, 6, [
  .asg (.nm 2) (.con (.int 0)),
  .asg (.nm 3) (.lst []),
  .forr (.tup [(.nm 4), (.nm 5)]) (.zip (.var 0) (.var 1)) [
    .aug 2 .add (.bin .sub (.var 4) (.var 5)),
    .app 3 (.var 2)],
  .ret (.var 3)]⟩
-- comes_after [first, second, number]
def c1 : CD := ⟨2, 3, [
  .ret (.gq true (.cmp .ge (.var 2) (.con (.int 0))) (.nm 2) (.seq (.call 0 [(.var 0), (.var 1)])) none [2])]⟩
-- nudges_to [first, second, now, places, ahead, place, at, number]
def c2 : CD := ⟨2, 8, [
  .ife (.nott (.val (.call 1 [(.var 0), (.var 1)]))) [
    .ret (.con .none)] [
],
  .asg (.nm 2) (.fn .list [(.var 0)]),
  .asg (.nm 3) (.lst []),
  .whl (.val (.cmp .ne (.fn .tuple [(.var 2)]) (.var 1))) [
    .asg (.nm 4) (.call 0 [(.var 2), (.var 1)]),
    .asg (.nm 5) (.idx (.lc (.var 6) (.tup [(.nm 6), (.nm 7)]) (.enm (.var 4)) (some (.val (.cmp .gt (.var 7) (.con (.int 0))))) [6, 7]) (.con (.int 0))),
    .augs 2 (.var 5) .sub (.con (.int 1)),
    .augs 2 (.bin .add (.var 5) (.con (.int 1))) .add (.con (.int 1)),
    .app 3 (.var 5)],
  .ret (.fn .tuple [(.var 3)])]⟩
-- after_nudges [stacks, places, now, place]
def c3 : CD := ⟨2, 4, [
  .asg (.nm 2) (.fn .list [(.var 0)]),
  .forr (.nm 3) (.seq (.var 1)) [
    .ife (.orr (.nott (.val (.chain .le .lt (.con (.int 0)) (.var 3) (.bin .sub (.fn .len [(.var 2)]) (.con (.int 1)))))) (.val (.cmp .eq (.idx (.var 2) (.var 3)) (.con (.int 0))))) [
      .ret (.con .none)] [
],
    .augs 2 (.var 3) .sub (.con (.int 1)),
    .augs 2 (.bin .add (.var 3) (.con (.int 1))) .add (.con (.int 1))],
  .ret (.fn .tuple [(.var 2)])]⟩
-- early_count [first, second, at, number]
def c4 : CD := ⟨2, 4, [
  .forr (.tup [(.nm 2), (.nm 3)]) (.enm (.call 0 [(.var 0), (.var 1)])) [
    .ife (.val (.cmp .lt (.var 3) (.con (.int 0)))) [
      .ret (.bin .add (.var 2) (.con (.int 1)))] [
]],
  .ret (.con .none)]⟩
-- _law_cell [script, k]
def c5 : CD := ⟨2, 2, [
  .ife (.val (.cmp .lt (.var 1) (.fn .len [(.var 0)]))) [
    .ret (.idx (.var 0) (.var 1))] [
],
  .ret (.bin .add (.bin .mul (.con (.int 5)) (.var 1)) (.con (.int 3)))]⟩
-- _law_draws [cell, count, rest, digits, seed, draws, k, mixed]
def c6 : CD := ⟨2, 8, [
  .asg (.nm 2) (.fn .abs [(.fn .int [(.var 0)])]),
  .asg (.nm 3) (.cmp .ge (.var 2) (.bin .pow (.con (.int 10)) (.con (.int 18)))),
  .asg (.nm 4) (.var 2),
  .asg (.nm 5) (.lst []),
  .forr (.nm 6) (.rng1 (.var 1)) [
    .ife (.andd (.val (.var 3)) (.val (.cmp .gt (.var 2) (.con (.int 0))))) [
      .app 5 (.bin .mod (.fn .int [(.var 2)]) (.con (.int 5040))),
      .asg (.nm 2) (.bin .fdiv (.var 2) (.con (.int 5040)))] [
      .asg (.nm 7) (.bin .mod (.fn .int [(.bin .add (.bin .add (.bin .mul (.var 4) (.con (.int 48271))) (.bin .mul (.bin .add (.var 6) (.con (.int 1))) (.con (.int 69621)))) (.con (.int 11)))]) (.con (.int 2147483647))),
      .asg (.nm 7) (.bin .mod (.fn .int [(.bin .add (.bin .mul (.var 7) (.var 7)) (.bin .mul (.con (.int 40692)) (.bin .add (.var 6) (.con (.int 3)))))]) (.con (.int 2147483399))),
      .app 5 (.bin .mod (.fn .int [(.bin .fdiv (.var 7) (.con (.int 64)))]) (.con (.int 5040)))]],
  .ret (.var 5)]⟩
-- _law_is_integer [value]
def c7 : CD := ⟨1, 1, [
  .ret (.andd (.fn .isInt [(.var 0)]) (.nott (.fn .isBool [(.var 0)])))]⟩
-- _law_is [value, due, at]
def c8 : CD := ⟨2, 3, [
  .ife (.val (.fn .isNone [(.var 1)])) [
    .ret (.fn .isNone [(.var 0)])] [
],
  .ife (.val (.fn .isBool [(.var 1)])) [
    .ret (.andd (.fn .isBool [(.var 0)]) (.cmp .eq (.var 0) (.var 1)))] [
],
  .ife (.val (.fn .isInt [(.var 1)])) [
    .ret (.andd (.call 7 [(.var 0)]) (.cmp .eq (.var 0) (.var 1)))] [
],
  .ife (.val (.fn .isStr [(.var 1)])) [
    .ret (.andd (.fn .isStr [(.var 0)]) (.cmp .eq (.var 0) (.var 1)))] [
],
  .ife (.orr (.nott (.val (.fn .isTup [(.var 0)]))) (.val (.cmp .ne (.fn .len [(.var 0)]) (.fn .len [(.var 1)])))) [
    .ret (.con (.bool false))] [
],
  .ret (.fn .all [(.lc (.call 8 [(.idx (.var 0) (.var 2)), (.idx (.var 1) (.var 2))]) (.nm 2) (.rng1 (.fn .len [(.var 1)])) none [2])])]⟩
-- _law_is_integers [value, number]
def c9 : CD := ⟨1, 2, [
  .ret (.andd (.fn .isTup [(.var 0)]) (.fn .all [(.lc (.call 7 [(.var 1)]) (.nm 1) (.seq (.var 0)) none [1])]))]⟩
-- _law_bent [row, draws, most, way, at, odd]
def c10 : CD := ⟨3, 6, [
  .asg (.nm 3) (.bin .mod (.fn .int [(.idx (.var 1) (.con (.int 0)))]) (.con (.int 6))),
  .asg (.nm 4) (.bin .mod (.fn .int [(.idx (.var 1) (.con (.int 1)))]) (.bin .add (.fn .len [(.var 0)]) (.con (.int 1)))),
  .asg (.nm 5) (.idx (.tup [(.bin .sub (.bin .mod (.fn .int [(.idx (.var 1) (.con (.int 2)))]) (.bin .add (.var 2) (.con (.int 3)))) (.con (.int 1))), (.bin .pow (.con (.int 10)) (.con (.int 20))), (.bin .sub (.con (.int 0)) (.con (.int 1)))]) (.bin .fdiv (.bin .mod (.bin .fdiv (.fn .int [(.idx (.var 1) (.con (.int 2)))]) (.con (.int 60))) (.con (.int 14))) (.con (.int 6)))),
  .ife (.val (.cmp .eq (.var 3) (.con (.int 0)))) [
    .ret (.bin .add (.slc (.var 0) none (some (.var 4))) (.slc (.var 0) (some (.bin .add (.var 4) (.con (.int 1)))) none))] [
],
  .ife (.val (.cmp .eq (.var 3) (.con (.int 1)))) [
    .ret (.bin .add (.bin .add (.slc (.var 0) none (some (.var 4))) (.tup [(.var 5)])) (.slc (.var 0) (some (.var 4)) none))] [
],
  .ife (.val (.cmp .lt (.var 3) (.con (.int 4)))) [
    .ret (.bin .add (.bin .add (.slc (.var 0) none (some (.var 4))) (.tup [(.var 5)])) (.slc (.var 0) (some (.bin .add (.var 4) (.con (.int 1)))) none))] [
],
  .ret (.ite (.val (.cmp .eq (.var 3) (.con (.int 4)))) (.rev (.var 0)) (.bin .add (.slc (.var 0) none (some (.var 4))) (.slc (.var 0) (some (.fn .max [(.con (.int 0)), (.bin .sub (.var 4) (.con (.int 1)))])) none)))]⟩
-- _law_stacks [draws, size, wide, k]
def c11 : CD := ⟨2, 4, [
  .asg (.nm 2) (.idx (.tup [(.con (.int 3)), (.con (.int 10)), (.con (.int 6))]) (.bin .mod (.fn .int [(.idx (.var 0) (.con (.int 0)))]) (.con (.int 3)))),
  .ret (.fn .tuple [(.lc (.bin .mod (.fn .int [(.idx (.var 0) (.bin .add (.con (.int 1)) (.var 3)))]) (.var 2)) (.nm 3) (.rng1 (.var 1)) none [3])])]⟩
-- _law_moved [stacks, draws, now, k, at]
def c12 : CD := ⟨2, 5, [
  .asg (.nm 2) (.fn .list [(.var 0)]),
  .forr (.nm 3) (.rng1 (.bin .mod (.fn .int [(.idx (.var 1) (.con (.int 0)))]) (.con (.int 12)))) [
    .asg (.nm 4) (.bin .mod (.fn .int [(.idx (.var 1) (.bin .add (.con (.int 1)) (.var 3)))]) (.fn .len [(.var 2)])),
    .ife (.andd (.val (.cmp .lt (.bin .add (.var 4) (.con (.int 1))) (.fn .len [(.var 2)]))) (.andd (.val (.cmp .gt (.idx (.var 2) (.var 4)) (.con (.int 0)))) (.val (.cmp .lt (.idx (.var 2) (.bin .add (.var 4) (.con (.int 1)))) (.con (.int 15)))))) [
      .sto 2 (.var 4) (.bin .sub (.idx (.var 2) (.var 4)) (.con (.int 1))),
      .sto 2 (.bin .add (.var 4) (.con (.int 1))) (.bin .add (.idx (.var 2) (.bin .add (.var 4) (.con (.int 1)))) (.con (.int 1)))] [
]],
  .ret (.fn .tuple [(.var 2)])]⟩
-- _law_led [stacks, places, now, place]
def c13 : CD := ⟨2, 4, [
  .asg (.nm 2) (.fn .list [(.var 0)]),
  .forr (.nm 3) (.seq (.var 1)) [
    .ife (.orr (.val (.cmp .lt (.var 3) (.con (.int 0)))) (.orr (.val (.cmp .ge (.bin .add (.var 3) (.con (.int 1))) (.fn .len [(.var 2)]))) (.val (.cmp .eq (.idx (.var 2) (.var 3)) (.con (.int 0)))))) [
      .ret (.con .none)] [
],
    .sto 2 (.var 3) (.bin .sub (.idx (.var 2) (.var 3)) (.con (.int 1))),
    .sto 2 (.bin .add (.var 3) (.con (.int 1))) (.bin .add (.idx (.var 2) (.bin .add (.var 3) (.con (.int 1)))) (.con (.int 1)))],
  .ret (.fn .tuple [(.var 2)])]⟩
-- _law_pair [first, second, draws, leads, early, places, base, turn, asked, k]
def c14 : CD := ⟨3, 10, [
  .asg (.nm 3) (.lc (.bin .sub (.fn .sum [(.slc (.var 0) none (some (.var 9)))]) (.fn .sum [(.slc (.var 1) none (some (.var 9)))])) (.nm 9) (.rng1 (.bin .add (.fn .len [(.var 0)]) (.con (.int 1)))) none [9]),
  .asg (.nm 4) (.lc (.var 9) (.nm 9) (.rng1 (.fn .len [(.var 3)])) (some (.val (.cmp .lt (.idx (.var 3) (.var 9)) (.con (.int 0))))) [9]),
  .ife (.nott (.val (.call 8 [(.call 1 [(.var 0), (.var 1)]), (.cmp .eq (.fn .len [(.var 4)]) (.con (.int 0)))]))) [
    .ret (.con (.bool false))] [
],
  .ife (.nott (.val (.call 8 [(.call 4 [(.var 0), (.var 1)]), (.ite (.val (.cmp .gt (.fn .len [(.var 4)]) (.con (.int 0)))) (.idx (.var 4) (.con (.int 0))) (.con .none))]))) [
    .ret (.con (.bool false))] [
],
  .asg (.nm 5) (.call 2 [(.var 0), (.var 1)]),
  .ife (.val (.cmp .ne (.fn .notNone [(.var 5)]) (.cmp .eq (.fn .len [(.var 4)]) (.con (.int 0))))) [
    .ret (.con (.bool false))] [
],
  .ife (.val (.fn .notNone [(.var 5)])) [
    .ife (.orr (.nott (.val (.call 9 [(.var 5)]))) (.orr (.val (.cmp .ne (.fn .len [(.var 5)]) (.fn .sum [(.var 3)]))) (.val (.cmp .ne (.call 13 [(.var 0), (.var 5)]) (.var 1))))) [
      .ret (.con (.bool false))] [
]] [
],
  .asg (.nm 6) (.ite (.val (.fn .notNone [(.var 5)])) (.var 5) (.tup [(.con (.int 0)), (.con (.int 0)), (.con (.int 1))])),
  .forr (.nm 7) (.rng1 (.con (.int 6))) [
    .asg (.nm 8) (.ite (.val (.cmp .eq (.var 7) (.con (.int 0)))) (.var 6) (.call 10 [(.var 6), (.slc (.var 2) (some (.bin .mul (.con (.int 3)) (.var 7))) (some (.bin .add (.bin .mul (.con (.int 3)) (.var 7)) (.con (.int 3))))), (.fn .len [(.var 0)])])),
    .ife (.nott (.val (.call 8 [(.call 3 [(.var 0), (.var 8)]), (.call 13 [(.var 0), (.var 8)])]))) [
      .ret (.con (.bool false))] [
]],
  .ret (.con (.bool true))]⟩
-- law [script, k, draws, first, second, third]
def c15 : CD := ⟨1, 6, [
  .forr (.nm 1) (.rng1 (.con (.int 4))) [
    .asg (.nm 2) (.call 6 [(.call 5 [(.var 0), (.var 1)]), (.con (.int 60))]),
    .asg (.nm 3) (.call 11 [(.slc (.var 2) none (some (.con (.int 8)))), (.idx (.tup [(.con (.int 4)), (.con (.int 6)), (.con (.int 2)), (.con (.int 5)), (.con (.int 3)), (.con (.int 1))]) (.bin .mod (.fn .int [(.idx (.var 2) (.con (.int 8)))]) (.con (.int 6))))]),
    .asg (.nm 4) (.call 12 [(.var 3), (.slc (.var 2) (some (.con (.int 9))) (some (.con (.int 22))))]),
    .asg (.nm 5) (.call 12 [(.var 3), (.slc (.var 2) (some (.con (.int 22))) (some (.con (.int 35))))]),
    .ife (.orr (.nott (.val (.call 14 [(.var 3), (.var 4), (.slc (.var 2) (some (.con (.int 36))) none)]))) (.nott (.val (.call 14 [(.var 4), (.var 3), (.slc (.var 2) (some (.con (.int 37))) none)])))) [
      .ret (.con (.bool false))] [
],
    .ife (.nott (.val (.call 14 [(.var 4), (.var 5), (.slc (.var 2) (some (.con (.int 38))) none)]))) [
      .ret (.con (.bool false))] [
],
    .ife (.nott (.val (.call 14 [(.var 4), (.fn .tuple [(.fn .sorted [(.var 4)])]), (.slc (.var 2) (some (.con (.int 39))) none)]))) [
      .ret (.con (.bool false))] [
]],
  .ret (.andd (.call 8 [(.call 4 [(.tup [(.con (.int 0)), (.con (.int 2))]), (.tup [(.con (.int 1)), (.con (.int 1))])]), (.con (.int 1))]) (.call 8 [(.call 1 [(.tup [(.con (.int 1)), (.con (.int 1))]), (.tup [(.con (.int 0)), (.con (.int 2))])]), (.con (.bool true))]))]⟩
def prog : List CD := [c0, c1, c2, c3, c4, c5, c6, c7, c8, c9, c10, c11, c12, c13, c14, c15]
def wf : Nat := 10000
def frnI (ns : List Int) : PyData := .dict [(.none, .list (ns.map .int))]
end KX

namespace KX
open PySem RV K73
abbrev T (l : List Int) : PyData := .tuple (l.map .int)
theorem zipT (a b : List Int) : zipOf (.tuple (a.map .int)) (.tuple (b.map .int)) = some ((a.zip b).map prI) := by
  show some (List.zipWith _ (a.map PyData.int) (b.map PyData.int)) = _
  rw [List.zipWith_map, List.zip_eq_zipWith, List.map_zipWith]
  rfl
theorem zipM (a b : List Int) : zipOf (.list (a.map .int)) (.tuple (b.map .int)) = some ((a.zip b).map prI) := by
  show some (List.zipWith _ (a.map PyData.int) (b.map PyData.int)) = _
  rw [List.zipWith_map, List.zip_eq_zipWith, List.map_zipWith]
  rfl
def dd (p : Int × Int) : Int := p.1 - p.2
theorem ahead_ok {k : Nat} (hk : 1 ≤ k) (A : PyData) (a b : List Int) (hA : A = .tuple (a.map .int) ∨ A = .list (a.map .int)) (hl : a.length = b.length) (h1 : a.length ≤ 1000) : run prog wf k 0 [A, T b] = some (.list ((ah a b).map .int), true) := by
  have hz : zipOf A (T b) = some ((a.zip b).map prI) := by rcases hA with rfl | rfl; exact zipT a b; exact zipM a b
  refine run_eq (d := 0) (p := c0) rfl hk fun k _ => Wp.fn rfl ?_
  unfold c0
  simp -implicitDefEqProofs only [↓Wp_def, Wp_some, Wp_none, Wp_bind, Wp_ite, Wp_map, wNil, wEx, wAsg, wApp, wSto, wAug, augD, augK_some, augK_none, stE, wAugs, wRetV, wRet, wRetn, wIfe, FQ_nx, FQ_rt, eCon, eVar, eBin, eNeg, eNott, eAndd, eOrr, eCmp, eChain, eChain3, eIte, eTup, eLst, eIdx, eIdxm, eLenset, eJoin, eSlc, eRev, eCall, eFn, ePop, ePopAt, tVal, tAndd, tOrr, tNott, toNone, toSome, oNone, oSome, esNil, esCons, hsNil, hsCons, hVar, hCon, hBin, hNeg, hNott, hAndd, hOrr, hCmp, hChain, hChain3, hIte, hTup, hLst, hIdx, hIdxm, hLenset, hJoin, hSlc, hRev, hCall, hFn, hLc, hGq, hPop, hPopAt, iSeq, iRng1, iRng2, iEnm, iZip, RV.fetch, fetchs, asn1, asnT, asnN, asnC, lkU, lkS, lkO, lkL, slF, slL, leC, leUs, leUo, leN, PyData.int.injEq, PyData.bool.injEq, PyData.str.injEq, PyData.tuple.injEq, PyData.list.injEq, Prod.mk.injEq, List.cons.injEq, Sum.inl.injEq, Option.some.injEq, leS, leO, leL, ow?, retD, varD, hvar, rAdd, rAddL, rAddT, rAddS, rSub, rMul, rPow, aAdd, aSub, aAddS, cLt, cLe, cGt, cGe, cEqI, cNeI, cEqB, cNeB, truI, truB, truL, truT, truN, intI, ixL, ixT, atN, atL, atM, atPlus, atPlus2, fdiv_pos, mod_pos, Int.reduceLT, Int.reduceLE, Int.reduceEq, Int.reduceMod, Int.reduceDiv, Nat.reduceLT, fnLenL, fnLenT, fnLenF, fnLenS, fnAbs, fnInt, fnList, fnListT, fnTuple, fnTupleT, fnMax2, fnMin2, fnSumL, fnSumT, fnMaxL, fnMaxT, fnMinL, fnMinT, fnAllL, fnAnyL, fnIsNone, fnNotNone, fnIsInt, fnIsBool, fnIsStr, fnIsTup, nN, nI, nB, nS, nL, nT, itmL, itmT, itmS, enmL', enmS', lckV, slcT, slcL, slcS, rgD_nat, rgD_pred, rgD_succ, setIxE, intsOf_ints, boolsOf_bools, strsOf_strs, List.getElem?_cons_succ, List.getElem?_cons_zero, List.set_cons_succ, List.set_cons_zero, List.getElem?_map, List.length_map, List.length_cons, List.length_nil, List.length_append, List.map_append, Option.bind_some, Option.bind_none, Option.map_some, Option.map_none, if_true, if_false, ite_true, ite_false, if_false_right, decide_eq_true_eq, Bool.not_eq_true', decide_eq_false_iff_not, Bool.not_eq_true, reduceCtorEq, reduceIte, ne_eq, not_false_eq_true, not_true_eq_false, true_and, and_true, false_and, and_false, implies_true, Bool.false_eq_true, List.isEmpty_cons, List.isEmpty_nil, Bool.not_true, Bool.not_false, List.map_cons, List.map_nil, List.cons_append, List.nil_append, List.replicate_succ, List.replicate_zero, Nat.reduceSub, Nat.reduceAdd, Nat.reduceMul, Int.reduceSub, Int.reduceNeg, Int.reduceAdd, Int.reduceMul, Int.reducePow, Int.reduceToNat, Nat.reduceLeDiff, lock, unls, unl, wip, rsto, fzO, frz, noal, lfree, lfrees, lfrees_ints, aft, Bool.and_self, Bool.and_true, Bool.true_and, show (0 : Nat) ≤ sizeLine by decide]
  refine Wp.forP (as := a.zip b) (enc := prI) [] (fun _ => True) (fun q => [.sh A, .sh (T b), .sh (.int (q.map dd).sum), .ow ((psums (q.map dd)).map .int), .un, .un]) ?_ ?_ ?_ cl_const
  · simp -implicitDefEqProofs only [↓Wp_def, Wp_some, Wp_none, Wp_bind, Wp_ite, Wp_map, wNil, wEx, wAsg, wApp, wSto, wAug, augD, augK_some, augK_none, stE, wAugs, wRetV, wRet, wRetn, wIfe, FQ_nx, FQ_rt, eCon, eVar, eBin, eNeg, eNott, eAndd, eOrr, eCmp, eChain, eChain3, eIte, eTup, eLst, eIdx, eIdxm, eLenset, eJoin, eSlc, eRev, eCall, eFn, ePop, ePopAt, tVal, tAndd, tOrr, tNott, toNone, toSome, oNone, oSome, esNil, esCons, hsNil, hsCons, hVar, hCon, hBin, hNeg, hNott, hAndd, hOrr, hCmp, hChain, hChain3, hIte, hTup, hLst, hIdx, hIdxm, hLenset, hJoin, hSlc, hRev, hCall, hFn, hLc, hGq, hPop, hPopAt, iSeq, iRng1, iRng2, iEnm, iZip, RV.fetch, fetchs, asn1, asnT, asnN, asnC, lkU, lkS, lkO, lkL, slF, slL, leC, leUs, leUo, leN, PyData.int.injEq, PyData.bool.injEq, PyData.str.injEq, PyData.tuple.injEq, PyData.list.injEq, Prod.mk.injEq, List.cons.injEq, Sum.inl.injEq, Option.some.injEq, leS, leO, leL, ow?, retD, varD, hvar, rAdd, rAddL, rAddT, rAddS, rSub, rMul, rPow, aAdd, aSub, aAddS, cLt, cLe, cGt, cGe, cEqI, cNeI, cEqB, cNeB, truI, truB, truL, truT, truN, intI, ixL, ixT, atN, atL, atM, atPlus, atPlus2, fdiv_pos, mod_pos, Int.reduceLT, Int.reduceLE, Int.reduceEq, Int.reduceMod, Int.reduceDiv, Nat.reduceLT, fnLenL, fnLenT, fnLenF, fnLenS, fnAbs, fnInt, fnList, fnListT, fnTuple, fnTupleT, fnMax2, fnMin2, fnSumL, fnSumT, fnMaxL, fnMaxT, fnMinL, fnMinT, fnAllL, fnAnyL, fnIsNone, fnNotNone, fnIsInt, fnIsBool, fnIsStr, fnIsTup, nN, nI, nB, nS, nL, nT, itmL, itmT, itmS, enmL', enmS', lckV, slcT, slcL, slcS, rgD_nat, rgD_pred, rgD_succ, setIxE, intsOf_ints, boolsOf_bools, strsOf_strs, List.getElem?_cons_succ, List.getElem?_cons_zero, List.set_cons_succ, List.set_cons_zero, List.getElem?_map, List.length_map, List.length_cons, List.length_nil, List.length_append, List.map_append, Option.bind_some, Option.bind_none, Option.map_some, Option.map_none, if_true, if_false, ite_true, ite_false, if_false_right, decide_eq_true_eq, Bool.not_eq_true', decide_eq_false_iff_not, Bool.not_eq_true, reduceCtorEq, reduceIte, ne_eq, not_false_eq_true, not_true_eq_false, true_and, and_true, false_and, and_false, implies_true, Bool.false_eq_true, List.isEmpty_cons, List.isEmpty_nil, Bool.not_true, Bool.not_false, List.map_cons, List.map_nil, List.cons_append, List.nil_append, List.replicate_succ, List.replicate_zero, Nat.reduceSub, Nat.reduceAdd, Nat.reduceMul, Int.reduceSub, Int.reduceNeg, Int.reduceAdd, Int.reduceMul, Int.reducePow, Int.reduceToNat, Nat.reduceLeDiff, lock, unls, unl, wip, rsto, fzO, frz, noal, lfree, lfrees, lfrees_ints, aft, Bool.and_self, Bool.and_true, Bool.true_and, hz, psums_nil, List.sum_nil]
  · intro q p r hq _
    have hlen := congrArg List.length hq
    simp only [List.length_zip, List.length_append, List.length_cons] at hlen
    have hz : q.length < sizeLine := szL (by omega)
    simp -implicitDefEqProofs only [↓Wp_def, Wp_some, Wp_none, Wp_bind, Wp_ite, Wp_map, wNil, wEx, wAsg, wApp, wSto, wAug, augD, augK_some, augK_none, stE, wAugs, wRetV, wRet, wRetn, wIfe, FQ_nx, FQ_rt, eCon, eVar, eBin, eNeg, eNott, eAndd, eOrr, eCmp, eChain, eChain3, eIte, eTup, eLst, eIdx, eIdxm, eLenset, eJoin, eSlc, eRev, eCall, eFn, ePop, ePopAt, tVal, tAndd, tOrr, tNott, toNone, toSome, oNone, oSome, esNil, esCons, hsNil, hsCons, hVar, hCon, hBin, hNeg, hNott, hAndd, hOrr, hCmp, hChain, hChain3, hIte, hTup, hLst, hIdx, hIdxm, hLenset, hJoin, hSlc, hRev, hCall, hFn, hLc, hGq, hPop, hPopAt, iSeq, iRng1, iRng2, iEnm, iZip, RV.fetch, fetchs, asn1, asnT, asnN, asnC, lkU, lkS, lkO, lkL, slF, slL, leC, leUs, leUo, leN, PyData.int.injEq, PyData.bool.injEq, PyData.str.injEq, PyData.tuple.injEq, PyData.list.injEq, Prod.mk.injEq, List.cons.injEq, Sum.inl.injEq, Option.some.injEq, leS, leO, leL, ow?, retD, varD, hvar, rAdd, rAddL, rAddT, rAddS, rSub, rMul, rPow, aAdd, aSub, aAddS, cLt, cLe, cGt, cGe, cEqI, cNeI, cEqB, cNeB, truI, truB, truL, truT, truN, intI, ixL, ixT, atN, atL, atM, atPlus, atPlus2, fdiv_pos, mod_pos, Int.reduceLT, Int.reduceLE, Int.reduceEq, Int.reduceMod, Int.reduceDiv, Nat.reduceLT, fnLenL, fnLenT, fnLenF, fnLenS, fnAbs, fnInt, fnList, fnListT, fnTuple, fnTupleT, fnMax2, fnMin2, fnSumL, fnSumT, fnMaxL, fnMaxT, fnMinL, fnMinT, fnAllL, fnAnyL, fnIsNone, fnNotNone, fnIsInt, fnIsBool, fnIsStr, fnIsTup, nN, nI, nB, nS, nL, nT, itmL, itmT, itmS, enmL', enmS', lckV, slcT, slcL, slcS, rgD_nat, rgD_pred, rgD_succ, setIxE, intsOf_ints, boolsOf_bools, strsOf_strs, List.getElem?_cons_succ, List.getElem?_cons_zero, List.set_cons_succ, List.set_cons_zero, List.getElem?_map, List.length_map, List.length_cons, List.length_nil, List.length_append, List.map_append, Option.bind_some, Option.bind_none, Option.map_some, Option.map_none, if_true, if_false, ite_true, ite_false, if_false_right, decide_eq_true_eq, Bool.not_eq_true', decide_eq_false_iff_not, Bool.not_eq_true, reduceCtorEq, reduceIte, ne_eq, not_false_eq_true, not_true_eq_false, true_and, and_true, false_and, and_false, implies_true, Bool.false_eq_true, List.isEmpty_cons, List.isEmpty_nil, Bool.not_true, Bool.not_false, List.map_cons, List.map_nil, List.cons_append, List.nil_append, List.replicate_succ, List.replicate_zero, Nat.reduceSub, Nat.reduceAdd, Nat.reduceMul, Int.reduceSub, Int.reduceNeg, Int.reduceAdd, Int.reduceMul, Int.reducePow, Int.reduceToNat, Nat.reduceLeDiff, lock, unls, unl, wip, rsto, fzO, frz, noal, lfree, lfrees, lfrees_ints, aft, Bool.and_self, Bool.and_true, Bool.true_and, prI, psums_len, hz, psums_snoc, List.sum_append, List.sum_cons, List.sum_nil, Int.add_zero, dd]
  · intro _
    have := ah_eq a b hl
    have e : psums ((a.zip b).map dd) = ah a b := this
    simp -implicitDefEqProofs only [↓Wp_def, Wp_some, Wp_none, Wp_bind, Wp_ite, Wp_map, wNil, wEx, wAsg, wApp, wSto, wAug, augD, augK_some, augK_none, stE, wAugs, wRetV, wRet, wRetn, wIfe, FQ_nx, FQ_rt, eCon, eVar, eBin, eNeg, eNott, eAndd, eOrr, eCmp, eChain, eChain3, eIte, eTup, eLst, eIdx, eIdxm, eLenset, eJoin, eSlc, eRev, eCall, eFn, ePop, ePopAt, tVal, tAndd, tOrr, tNott, toNone, toSome, oNone, oSome, esNil, esCons, hsNil, hsCons, hVar, hCon, hBin, hNeg, hNott, hAndd, hOrr, hCmp, hChain, hChain3, hIte, hTup, hLst, hIdx, hIdxm, hLenset, hJoin, hSlc, hRev, hCall, hFn, hLc, hGq, hPop, hPopAt, iSeq, iRng1, iRng2, iEnm, iZip, RV.fetch, fetchs, asn1, asnT, asnN, asnC, lkU, lkS, lkO, lkL, slF, slL, leC, leUs, leUo, leN, PyData.int.injEq, PyData.bool.injEq, PyData.str.injEq, PyData.tuple.injEq, PyData.list.injEq, Prod.mk.injEq, List.cons.injEq, Sum.inl.injEq, Option.some.injEq, leS, leO, leL, ow?, retD, varD, hvar, rAdd, rAddL, rAddT, rAddS, rSub, rMul, rPow, aAdd, aSub, aAddS, cLt, cLe, cGt, cGe, cEqI, cNeI, cEqB, cNeB, truI, truB, truL, truT, truN, intI, ixL, ixT, atN, atL, atM, atPlus, atPlus2, fdiv_pos, mod_pos, Int.reduceLT, Int.reduceLE, Int.reduceEq, Int.reduceMod, Int.reduceDiv, Nat.reduceLT, fnLenL, fnLenT, fnLenF, fnLenS, fnAbs, fnInt, fnList, fnListT, fnTuple, fnTupleT, fnMax2, fnMin2, fnSumL, fnSumT, fnMaxL, fnMaxT, fnMinL, fnMinT, fnAllL, fnAnyL, fnIsNone, fnNotNone, fnIsInt, fnIsBool, fnIsStr, fnIsTup, nN, nI, nB, nS, nL, nT, itmL, itmT, itmS, enmL', enmS', lckV, slcT, slcL, slcS, rgD_nat, rgD_pred, rgD_succ, setIxE, intsOf_ints, boolsOf_bools, strsOf_strs, List.getElem?_cons_succ, List.getElem?_cons_zero, List.set_cons_succ, List.set_cons_zero, List.getElem?_map, List.length_map, List.length_cons, List.length_nil, List.length_append, List.map_append, Option.bind_some, Option.bind_none, Option.map_some, Option.map_none, if_true, if_false, ite_true, ite_false, if_false_right, decide_eq_true_eq, Bool.not_eq_true', decide_eq_false_iff_not, Bool.not_eq_true, reduceCtorEq, reduceIte, ne_eq, not_false_eq_true, not_true_eq_false, true_and, and_true, false_and, and_false, implies_true, Bool.false_eq_true, List.isEmpty_cons, List.isEmpty_nil, Bool.not_true, Bool.not_false, List.map_cons, List.map_nil, List.cons_append, List.nil_append, List.replicate_succ, List.replicate_zero, Nat.reduceSub, Nat.reduceAdd, Nat.reduceMul, Int.reduceSub, Int.reduceNeg, Int.reduceAdd, Int.reduceMul, Int.reducePow, Int.reduceToNat, Nat.reduceLeDiff, lock, unls, unl, wip, rsto, fzO, frz, noal, lfree, lfrees, lfrees_ints, aft, Bool.and_self, Bool.and_true, Bool.true_and, e]
theorem all_after (a b : List Int) : (ah a b).all (fun z => decide (0 ≤ z)) = decide (After a b) := by
  rw [Bool.eq_iff_iff, List.all_eq_true, decide_eq_true_iff]
  constructor
  · intro h k hk
    cases k with
    | zero => simp [lead, S_zero]
    | succ k =>
      have := h (lead a b (k + 1)) (List.mem_of_getElem? (ah_get a b k (by omega)))
      simpa using this
  · intro h z hz
    obtain ⟨k, hk, rfl⟩ := List.mem_map.mp hz
    have := h (k + 1) (by have := List.mem_range.mp hk; omega)
    simpa using this
theorem after_ok {k : Nat} (hk : 2 ≤ k) (a b : List Int) (hl : a.length = b.length) (h1 : a.length ≤ 1000) : run prog wf k 1 [T a, T b] = some (.bool (decide (After a b)), false) := by
  refine run_eq (d := 1) (p := c1) rfl hk fun k hk => Wp.fn rfl ?_
  unfold c1
  simp -implicitDefEqProofs only [↓Wp_def, Wp_some, Wp_none, Wp_bind, Wp_ite, Wp_map, wNil, wEx, wAsg, wApp, wSto, wAug, augD, augK_some, augK_none, stE, wAugs, wRetV, wRet, wRetn, wIfe, FQ_nx, FQ_rt, eCon, eVar, eBin, eNeg, eNott, eAndd, eOrr, eCmp, eChain, eChain3, eIte, eTup, eLst, eIdx, eIdxm, eLenset, eJoin, eSlc, eRev, eCall, eFn, ePop, ePopAt, tVal, tAndd, tOrr, tNott, toNone, toSome, oNone, oSome, esNil, esCons, hsNil, hsCons, hVar, hCon, hBin, hNeg, hNott, hAndd, hOrr, hCmp, hChain, hChain3, hIte, hTup, hLst, hIdx, hIdxm, hLenset, hJoin, hSlc, hRev, hCall, hFn, hLc, hGq, hPop, hPopAt, iSeq, iRng1, iRng2, iEnm, iZip, RV.fetch, fetchs, asn1, asnT, asnN, asnC, lkU, lkS, lkO, lkL, slF, slL, leC, leUs, leUo, leN, PyData.int.injEq, PyData.bool.injEq, PyData.str.injEq, PyData.tuple.injEq, PyData.list.injEq, Prod.mk.injEq, List.cons.injEq, Sum.inl.injEq, Option.some.injEq, leS, leO, leL, ow?, retD, varD, hvar, rAdd, rAddL, rAddT, rAddS, rSub, rMul, rPow, aAdd, aSub, aAddS, cLt, cLe, cGt, cGe, cEqI, cNeI, cEqB, cNeB, truI, truB, truL, truT, truN, intI, ixL, ixT, atN, atL, atM, atPlus, atPlus2, fdiv_pos, mod_pos, Int.reduceLT, Int.reduceLE, Int.reduceEq, Int.reduceMod, Int.reduceDiv, Nat.reduceLT, fnLenL, fnLenT, fnLenF, fnLenS, fnAbs, fnInt, fnList, fnListT, fnTuple, fnTupleT, fnMax2, fnMin2, fnSumL, fnSumT, fnMaxL, fnMaxT, fnMinL, fnMinT, fnAllL, fnAnyL, fnIsNone, fnNotNone, fnIsInt, fnIsBool, fnIsStr, fnIsTup, nN, nI, nB, nS, nL, nT, itmL, itmT, itmS, enmL', enmS', lckV, slcT, slcL, slcS, rgD_nat, rgD_pred, rgD_succ, setIxE, intsOf_ints, boolsOf_bools, strsOf_strs, List.getElem?_cons_succ, List.getElem?_cons_zero, List.set_cons_succ, List.set_cons_zero, List.getElem?_map, List.length_map, List.length_cons, List.length_nil, List.length_append, List.map_append, Option.bind_some, Option.bind_none, Option.map_some, Option.map_none, if_true, if_false, ite_true, ite_false, if_false_right, decide_eq_true_eq, Bool.not_eq_true', decide_eq_false_iff_not, Bool.not_eq_true, reduceCtorEq, reduceIte, ne_eq, not_false_eq_true, not_true_eq_false, true_and, and_true, false_and, and_false, implies_true, Bool.false_eq_true, List.isEmpty_cons, List.isEmpty_nil, Bool.not_true, Bool.not_false, List.map_cons, List.map_nil, List.cons_append, List.nil_append, List.replicate_succ, List.replicate_zero, Nat.reduceSub, Nat.reduceAdd, Nat.reduceMul, Int.reduceSub, Int.reduceNeg, Int.reduceAdd, Int.reduceMul, Int.reducePow, Int.reduceToNat, Nat.reduceLeDiff, lock, unls, unl, wip, rsto, fzO, frz, noal, lfree, lfrees, lfrees_ints, aft, Bool.and_self, Bool.and_true, Bool.true_and]
  refine Wp.gqA (as := ah a b) (enc := .int) (fun z => decide (0 ≤ z)) [.sh (T a), .sh (T b), .un] [.sh (T a), .sh (T b), .un] ?_ ?_ ?_
  · simp -implicitDefEqProofs only [↓Wp_def, Wp_some, Wp_none, Wp_bind, Wp_ite, Wp_map, wNil, wEx, wAsg, wApp, wSto, wAug, augD, augK_some, augK_none, stE, wAugs, wRetV, wRet, wRetn, wIfe, FQ_nx, FQ_rt, eCon, eVar, eBin, eNeg, eNott, eAndd, eOrr, eCmp, eChain, eChain3, eIte, eTup, eLst, eIdx, eIdxm, eLenset, eJoin, eSlc, eRev, eCall, eFn, ePop, ePopAt, tVal, tAndd, tOrr, tNott, toNone, toSome, oNone, oSome, esNil, esCons, hsNil, hsCons, hVar, hCon, hBin, hNeg, hNott, hAndd, hOrr, hCmp, hChain, hChain3, hIte, hTup, hLst, hIdx, hIdxm, hLenset, hJoin, hSlc, hRev, hCall, hFn, hLc, hGq, hPop, hPopAt, iSeq, iRng1, iRng2, iEnm, iZip, RV.fetch, fetchs, asn1, asnT, asnN, asnC, lkU, lkS, lkO, lkL, slF, slL, leC, leUs, leUo, leN, PyData.int.injEq, PyData.bool.injEq, PyData.str.injEq, PyData.tuple.injEq, PyData.list.injEq, Prod.mk.injEq, List.cons.injEq, Sum.inl.injEq, Option.some.injEq, leS, leO, leL, ow?, retD, varD, hvar, rAdd, rAddL, rAddT, rAddS, rSub, rMul, rPow, aAdd, aSub, aAddS, cLt, cLe, cGt, cGe, cEqI, cNeI, cEqB, cNeB, truI, truB, truL, truT, truN, intI, ixL, ixT, atN, atL, atM, atPlus, atPlus2, fdiv_pos, mod_pos, Int.reduceLT, Int.reduceLE, Int.reduceEq, Int.reduceMod, Int.reduceDiv, Nat.reduceLT, fnLenL, fnLenT, fnLenF, fnLenS, fnAbs, fnInt, fnList, fnListT, fnTuple, fnTupleT, fnMax2, fnMin2, fnSumL, fnSumT, fnMaxL, fnMaxT, fnMinL, fnMinT, fnAllL, fnAnyL, fnIsNone, fnNotNone, fnIsInt, fnIsBool, fnIsStr, fnIsTup, nN, nI, nB, nS, nL, nT, itmL, itmT, itmS, enmL', enmS', lckV, slcT, slcL, slcS, rgD_nat, rgD_pred, rgD_succ, setIxE, intsOf_ints, boolsOf_bools, strsOf_strs, List.getElem?_cons_succ, List.getElem?_cons_zero, List.set_cons_succ, List.set_cons_zero, List.getElem?_map, List.length_map, List.length_cons, List.length_nil, List.length_append, List.map_append, Option.bind_some, Option.bind_none, Option.map_some, Option.map_none, if_true, if_false, ite_true, ite_false, if_false_right, decide_eq_true_eq, Bool.not_eq_true', decide_eq_false_iff_not, Bool.not_eq_true, reduceCtorEq, reduceIte, ne_eq, not_false_eq_true, not_true_eq_false, true_and, and_true, false_and, and_false, implies_true, Bool.false_eq_true, List.isEmpty_cons, List.isEmpty_nil, Bool.not_true, Bool.not_false, List.map_cons, List.map_nil, List.cons_append, List.nil_append, List.replicate_succ, List.replicate_zero, Nat.reduceSub, Nat.reduceAdd, Nat.reduceMul, Int.reduceSub, Int.reduceNeg, Int.reduceAdd, Int.reduceMul, Int.reducePow, Int.reduceToNat, Nat.reduceLeDiff, lock, unls, unl, wip, rsto, fzO, frz, noal, lfree, lfrees, lfrees_ints, aft, Bool.and_self, Bool.and_true, Bool.true_and, ahead_ok hk (T a) a b (.inl rfl) hl h1]
  · intro z hz
    simp -implicitDefEqProofs only [↓Wp_def, Wp_some, Wp_none, Wp_bind, Wp_ite, Wp_map, wNil, wEx, wAsg, wApp, wSto, wAug, augD, augK_some, augK_none, stE, wAugs, wRetV, wRet, wRetn, wIfe, FQ_nx, FQ_rt, eCon, eVar, eBin, eNeg, eNott, eAndd, eOrr, eCmp, eChain, eChain3, eIte, eTup, eLst, eIdx, eIdxm, eLenset, eJoin, eSlc, eRev, eCall, eFn, ePop, ePopAt, tVal, tAndd, tOrr, tNott, toNone, toSome, oNone, oSome, esNil, esCons, hsNil, hsCons, hVar, hCon, hBin, hNeg, hNott, hAndd, hOrr, hCmp, hChain, hChain3, hIte, hTup, hLst, hIdx, hIdxm, hLenset, hJoin, hSlc, hRev, hCall, hFn, hLc, hGq, hPop, hPopAt, iSeq, iRng1, iRng2, iEnm, iZip, RV.fetch, fetchs, asn1, asnT, asnN, asnC, lkU, lkS, lkO, lkL, slF, slL, leC, leUs, leUo, leN, PyData.int.injEq, PyData.bool.injEq, PyData.str.injEq, PyData.tuple.injEq, PyData.list.injEq, Prod.mk.injEq, List.cons.injEq, Sum.inl.injEq, Option.some.injEq, leS, leO, leL, ow?, retD, varD, hvar, rAdd, rAddL, rAddT, rAddS, rSub, rMul, rPow, aAdd, aSub, aAddS, cLt, cLe, cGt, cGe, cEqI, cNeI, cEqB, cNeB, truI, truB, truL, truT, truN, intI, ixL, ixT, atN, atL, atM, atPlus, atPlus2, fdiv_pos, mod_pos, Int.reduceLT, Int.reduceLE, Int.reduceEq, Int.reduceMod, Int.reduceDiv, Nat.reduceLT, fnLenL, fnLenT, fnLenF, fnLenS, fnAbs, fnInt, fnList, fnListT, fnTuple, fnTupleT, fnMax2, fnMin2, fnSumL, fnSumT, fnMaxL, fnMaxT, fnMinL, fnMinT, fnAllL, fnAnyL, fnIsNone, fnNotNone, fnIsInt, fnIsBool, fnIsStr, fnIsTup, nN, nI, nB, nS, nL, nT, itmL, itmT, itmS, enmL', enmS', lckV, slcT, slcL, slcS, rgD_nat, rgD_pred, rgD_succ, setIxE, intsOf_ints, boolsOf_bools, strsOf_strs, List.getElem?_cons_succ, List.getElem?_cons_zero, List.set_cons_succ, List.set_cons_zero, List.getElem?_map, List.length_map, List.length_cons, List.length_nil, List.length_append, List.map_append, Option.bind_some, Option.bind_none, Option.map_some, Option.map_none, if_true, if_false, ite_true, ite_false, if_false_right, decide_eq_true_eq, Bool.not_eq_true', decide_eq_false_iff_not, Bool.not_eq_true, reduceCtorEq, reduceIte, ne_eq, not_false_eq_true, not_true_eq_false, true_and, and_true, false_and, and_false, implies_true, Bool.false_eq_true, List.isEmpty_cons, List.isEmpty_nil, Bool.not_true, Bool.not_false, List.map_cons, List.map_nil, List.cons_append, List.nil_append, List.replicate_succ, List.replicate_zero, Nat.reduceSub, Nat.reduceAdd, Nat.reduceMul, Int.reduceSub, Int.reduceNeg, Int.reduceAdd, Int.reduceMul, Int.reducePow, Int.reduceToNat, Nat.reduceLeDiff, lock, unls, unl, wip, rsto, fzO, frz, noal, lfree, lfrees, lfrees_ints, aft, Bool.and_self, Bool.and_true, Bool.true_and]
  · simp -implicitDefEqProofs only [↓Wp_def, Wp_some, Wp_none, Wp_bind, Wp_ite, Wp_map, wNil, wEx, wAsg, wApp, wSto, wAug, augD, augK_some, augK_none, stE, wAugs, wRetV, wRet, wRetn, wIfe, FQ_nx, FQ_rt, eCon, eVar, eBin, eNeg, eNott, eAndd, eOrr, eCmp, eChain, eChain3, eIte, eTup, eLst, eIdx, eIdxm, eLenset, eJoin, eSlc, eRev, eCall, eFn, ePop, ePopAt, tVal, tAndd, tOrr, tNott, toNone, toSome, oNone, oSome, esNil, esCons, hsNil, hsCons, hVar, hCon, hBin, hNeg, hNott, hAndd, hOrr, hCmp, hChain, hChain3, hIte, hTup, hLst, hIdx, hIdxm, hLenset, hJoin, hSlc, hRev, hCall, hFn, hLc, hGq, hPop, hPopAt, iSeq, iRng1, iRng2, iEnm, iZip, RV.fetch, fetchs, asn1, asnT, asnN, asnC, lkU, lkS, lkO, lkL, slF, slL, leC, leUs, leUo, leN, PyData.int.injEq, PyData.bool.injEq, PyData.str.injEq, PyData.tuple.injEq, PyData.list.injEq, Prod.mk.injEq, List.cons.injEq, Sum.inl.injEq, Option.some.injEq, leS, leO, leL, ow?, retD, varD, hvar, rAdd, rAddL, rAddT, rAddS, rSub, rMul, rPow, aAdd, aSub, aAddS, cLt, cLe, cGt, cGe, cEqI, cNeI, cEqB, cNeB, truI, truB, truL, truT, truN, intI, ixL, ixT, atN, atL, atM, atPlus, atPlus2, fdiv_pos, mod_pos, Int.reduceLT, Int.reduceLE, Int.reduceEq, Int.reduceMod, Int.reduceDiv, Nat.reduceLT, fnLenL, fnLenT, fnLenF, fnLenS, fnAbs, fnInt, fnList, fnListT, fnTuple, fnTupleT, fnMax2, fnMin2, fnSumL, fnSumT, fnMaxL, fnMaxT, fnMinL, fnMinT, fnAllL, fnAnyL, fnIsNone, fnNotNone, fnIsInt, fnIsBool, fnIsStr, fnIsTup, nN, nI, nB, nS, nL, nT, itmL, itmT, itmS, enmL', enmS', lckV, slcT, slcL, slcS, rgD_nat, rgD_pred, rgD_succ, setIxE, intsOf_ints, boolsOf_bools, strsOf_strs, List.getElem?_cons_succ, List.getElem?_cons_zero, List.set_cons_succ, List.set_cons_zero, List.getElem?_map, List.length_map, List.length_cons, List.length_nil, List.length_append, List.map_append, Option.bind_some, Option.bind_none, Option.map_some, Option.map_none, if_true, if_false, ite_true, ite_false, if_false_right, decide_eq_true_eq, Bool.not_eq_true', decide_eq_false_iff_not, Bool.not_eq_true, reduceCtorEq, reduceIte, ne_eq, not_false_eq_true, not_true_eq_false, true_and, and_true, false_and, and_false, implies_true, Bool.false_eq_true, List.isEmpty_cons, List.isEmpty_nil, Bool.not_true, Bool.not_false, List.map_cons, List.map_nil, List.cons_append, List.nil_append, List.replicate_succ, List.replicate_zero, Nat.reduceSub, Nat.reduceAdd, Nat.reduceMul, Int.reduceSub, Int.reduceNeg, Int.reduceAdd, Int.reduceMul, Int.reducePow, Int.reduceToNat, Nat.reduceLeDiff, lock, unls, unl, wip, rsto, fzO, frz, noal, lfree, lfrees, lfrees_ints, aft, Bool.and_self, Bool.and_true, Bool.true_and, all_after]
/-- the first of them, or None -/
def optK : List Nat → PyData
  | [] => .none
  | k :: _ => .int k
def earlyL (a b : List Int) : List Nat := (List.range (a.length + 1)).filter fun k => decide (lead a b k < 0)
theorem filter_first (N m : Nat) (p : Nat → Bool) (h : ∀ j, j < m → p j = false) (hm : m < N) (hp : p m = true) : ∃ r, (List.range N).filter p = m :: r := by
  obtain ⟨d, rfl⟩ : ∃ d, N = m + 1 + d := ⟨N - m - 1, by omega⟩
  rw [List.range_add, List.range_succ, List.filter_append, List.filter_append, List.filter_eq_nil_iff.mpr (fun j hj => by rw [h j (List.mem_range.mp hj)]; decide)]
  exact ⟨((List.range d).map (m + 1 + ·)).filter p, by simp [hp]⟩
theorem ah_enum (a b : List Int) : (ah a b).zipIdx = (List.range a.length).map fun k => (lead a b (k + 1), k) := by
  refine List.ext_getElem? fun i => ?_
  rw [List.getElem?_zipIdx]
  by_cases h : i < a.length
  · rw [ah_get a b i h]; simp [h]
  · rw [List.getElem?_eq_none (by rw [ah_len]; omega)]; simp [h]
theorem enm_ints (l : List Int) : (l.map PyData.int).mapIdx (fun (i : Nat) d => PyData.tuple [.int i, d]) = l.zipIdx.map fun x => PyData.tuple [.int x.2, .int x.1] := mapIdx_enum .int l
theorem early_ok {k : Nat} (hk : 2 ≤ k) (a b : List Int) (hl : a.length = b.length) (h1 : a.length ≤ 1000) : run prog wf k 4 [T a, T b] = some (optK (earlyL a b), false) := by
  refine run_eq (d := 1) (p := c4) rfl hk fun k hk => Wp.fn rfl ?_
  unfold c4
  refine Wp.forP (as := (ah a b).zipIdx) (enc := fun x => .tuple [.int x.2, .int x.1]) [] (fun p => ∀ x ∈ p, ¬ x.1 < 0) (fun _ => [.sh (T a), .sh (T b), .un, .un]) ?_ ?_ ?_ cl_const
  · simp -implicitDefEqProofs only [↓Wp_def, Wp_some, Wp_none, Wp_bind, Wp_ite, Wp_map, wNil, wEx, wAsg, wApp, wSto, wAug, augD, augK_some, augK_none, stE, wAugs, wRetV, wRet, wRetn, wIfe, FQ_nx, FQ_rt, eCon, eVar, eBin, eNeg, eNott, eAndd, eOrr, eCmp, eChain, eChain3, eIte, eTup, eLst, eIdx, eIdxm, eLenset, eJoin, eSlc, eRev, eCall, eFn, ePop, ePopAt, tVal, tAndd, tOrr, tNott, toNone, toSome, oNone, oSome, esNil, esCons, hsNil, hsCons, hVar, hCon, hBin, hNeg, hNott, hAndd, hOrr, hCmp, hChain, hChain3, hIte, hTup, hLst, hIdx, hIdxm, hLenset, hJoin, hSlc, hRev, hCall, hFn, hLc, hGq, hPop, hPopAt, iSeq, iRng1, iRng2, iEnm, iZip, RV.fetch, fetchs, asn1, asnT, asnN, asnC, lkU, lkS, lkO, lkL, slF, slL, leC, leUs, leUo, leN, PyData.int.injEq, PyData.bool.injEq, PyData.str.injEq, PyData.tuple.injEq, PyData.list.injEq, Prod.mk.injEq, List.cons.injEq, Sum.inl.injEq, Option.some.injEq, leS, leO, leL, ow?, retD, varD, hvar, rAdd, rAddL, rAddT, rAddS, rSub, rMul, rPow, aAdd, aSub, aAddS, cLt, cLe, cGt, cGe, cEqI, cNeI, cEqB, cNeB, truI, truB, truL, truT, truN, intI, ixL, ixT, atN, atL, atM, atPlus, atPlus2, fdiv_pos, mod_pos, Int.reduceLT, Int.reduceLE, Int.reduceEq, Int.reduceMod, Int.reduceDiv, Nat.reduceLT, fnLenL, fnLenT, fnLenF, fnLenS, fnAbs, fnInt, fnList, fnListT, fnTuple, fnTupleT, fnMax2, fnMin2, fnSumL, fnSumT, fnMaxL, fnMaxT, fnMinL, fnMinT, fnAllL, fnAnyL, fnIsNone, fnNotNone, fnIsInt, fnIsBool, fnIsStr, fnIsTup, nN, nI, nB, nS, nL, nT, itmL, itmT, itmS, enmL', enmS', lckV, slcT, slcL, slcS, rgD_nat, rgD_pred, rgD_succ, setIxE, intsOf_ints, boolsOf_bools, strsOf_strs, List.getElem?_cons_succ, List.getElem?_cons_zero, List.set_cons_succ, List.set_cons_zero, List.getElem?_map, List.length_map, List.length_cons, List.length_nil, List.length_append, List.map_append, Option.bind_some, Option.bind_none, Option.map_some, Option.map_none, if_true, if_false, ite_true, ite_false, if_false_right, decide_eq_true_eq, Bool.not_eq_true', decide_eq_false_iff_not, Bool.not_eq_true, reduceCtorEq, reduceIte, ne_eq, not_false_eq_true, not_true_eq_false, true_and, and_true, false_and, and_false, implies_true, Bool.false_eq_true, List.isEmpty_cons, List.isEmpty_nil, Bool.not_true, Bool.not_false, List.map_cons, List.map_nil, List.cons_append, List.nil_append, List.replicate_succ, List.replicate_zero, Nat.reduceSub, Nat.reduceAdd, Nat.reduceMul, Int.reduceSub, Int.reduceNeg, Int.reduceAdd, Int.reduceMul, Int.reducePow, Int.reduceToNat, Nat.reduceLeDiff, lock, unls, unl, wip, rsto, fzO, frz, noal, lfree, lfrees, lfrees_ints, aft, Bool.and_self, Bool.and_true, Bool.true_and, ahead_ok hk (T a) a b (.inl rfl) hl h1, enm_ints]
    exact fun x hx => by cases hx
  · intro p x q hpq hp
    obtain ⟨i1, i2⟩ := zip_split hpq
    have hlen := congrArg List.length hpq
    simp only [List.length_zipIdx, List.length_append, List.length_cons, ah_len] at hlen
    have hi : x.2 < a.length := by omega
    have hx1 : x.1 = lead a b (x.2 + 1) := by
      have := congrArg (fun l => l[p.length]?) i2
      simp only [ah_get a b p.length (by omega)] at this
      rw [List.getElem?_append_right (by simp)] at this
      simp at this
      rw [i1]; exact this.symm
    have hprev : ∀ j, j < x.2 → 0 ≤ lead a b (j + 1) := fun j hj => by
      have := congrArg (fun l => l[j]?) i2
      simp only [ah_get a b j (by omega)] at this
      rw [List.getElem?_append_left (by simp; omega)] at this
      have hm := List.mem_of_getElem? this.symm
      obtain ⟨y, hy, e⟩ := List.mem_map.mp hm
      have := hp y hy
      omega
    simp -implicitDefEqProofs only [↓Wp_def, Wp_some, Wp_none, Wp_bind, Wp_ite, Wp_map, wNil, wEx, wAsg, wApp, wSto, wAug, augD, augK_some, augK_none, stE, wAugs, wRetV, wRet, wRetn, wIfe, FQ_nx, FQ_rt, eCon, eVar, eBin, eNeg, eNott, eAndd, eOrr, eCmp, eChain, eChain3, eIte, eTup, eLst, eIdx, eIdxm, eLenset, eJoin, eSlc, eRev, eCall, eFn, ePop, ePopAt, tVal, tAndd, tOrr, tNott, toNone, toSome, oNone, oSome, esNil, esCons, hsNil, hsCons, hVar, hCon, hBin, hNeg, hNott, hAndd, hOrr, hCmp, hChain, hChain3, hIte, hTup, hLst, hIdx, hIdxm, hLenset, hJoin, hSlc, hRev, hCall, hFn, hLc, hGq, hPop, hPopAt, iSeq, iRng1, iRng2, iEnm, iZip, RV.fetch, fetchs, asn1, asnT, asnN, asnC, lkU, lkS, lkO, lkL, slF, slL, leC, leUs, leUo, leN, PyData.int.injEq, PyData.bool.injEq, PyData.str.injEq, PyData.tuple.injEq, PyData.list.injEq, Prod.mk.injEq, List.cons.injEq, Sum.inl.injEq, Option.some.injEq, leS, leO, leL, ow?, retD, varD, hvar, rAdd, rAddL, rAddT, rAddS, rSub, rMul, rPow, aAdd, aSub, aAddS, cLt, cLe, cGt, cGe, cEqI, cNeI, cEqB, cNeB, truI, truB, truL, truT, truN, intI, ixL, ixT, atN, atL, atM, atPlus, atPlus2, fdiv_pos, mod_pos, Int.reduceLT, Int.reduceLE, Int.reduceEq, Int.reduceMod, Int.reduceDiv, Nat.reduceLT, fnLenL, fnLenT, fnLenF, fnLenS, fnAbs, fnInt, fnList, fnListT, fnTuple, fnTupleT, fnMax2, fnMin2, fnSumL, fnSumT, fnMaxL, fnMaxT, fnMinL, fnMinT, fnAllL, fnAnyL, fnIsNone, fnNotNone, fnIsInt, fnIsBool, fnIsStr, fnIsTup, nN, nI, nB, nS, nL, nT, itmL, itmT, itmS, enmL', enmS', lckV, slcT, slcL, slcS, rgD_nat, rgD_pred, rgD_succ, setIxE, intsOf_ints, boolsOf_bools, strsOf_strs, List.getElem?_cons_succ, List.getElem?_cons_zero, List.set_cons_succ, List.set_cons_zero, List.getElem?_map, List.length_map, List.length_cons, List.length_nil, List.length_append, List.map_append, Option.bind_some, Option.bind_none, Option.map_some, Option.map_none, if_true, if_false, ite_true, ite_false, if_false_right, decide_eq_true_eq, Bool.not_eq_true', decide_eq_false_iff_not, Bool.not_eq_true, reduceCtorEq, reduceIte, ne_eq, not_false_eq_true, not_true_eq_false, true_and, and_true, false_and, and_false, implies_true, Bool.false_eq_true, List.isEmpty_cons, List.isEmpty_nil, Bool.not_true, Bool.not_false, List.map_cons, List.map_nil, List.cons_append, List.nil_append, List.replicate_succ, List.replicate_zero, Nat.reduceSub, Nat.reduceAdd, Nat.reduceMul, Int.reduceSub, Int.reduceNeg, Int.reduceAdd, Int.reduceMul, Int.reducePow, Int.reduceToNat, Nat.reduceLeDiff, lock, unls, unl, wip, rsto, fzO, frz, noal, lfree, lfrees, lfrees_ints, aft, Bool.and_self, Bool.and_true, Bool.true_and]
    by_cases h : x.1 < 0
    · simp -implicitDefEqProofs only [↓Wp_def, Wp_some, Wp_none, Wp_bind, Wp_ite, Wp_map, wNil, wEx, wAsg, wApp, wSto, wAug, augD, augK_some, augK_none, stE, wAugs, wRetV, wRet, wRetn, wIfe, FQ_nx, FQ_rt, eCon, eVar, eBin, eNeg, eNott, eAndd, eOrr, eCmp, eChain, eChain3, eIte, eTup, eLst, eIdx, eIdxm, eLenset, eJoin, eSlc, eRev, eCall, eFn, ePop, ePopAt, tVal, tAndd, tOrr, tNott, toNone, toSome, oNone, oSome, esNil, esCons, hsNil, hsCons, hVar, hCon, hBin, hNeg, hNott, hAndd, hOrr, hCmp, hChain, hChain3, hIte, hTup, hLst, hIdx, hIdxm, hLenset, hJoin, hSlc, hRev, hCall, hFn, hLc, hGq, hPop, hPopAt, iSeq, iRng1, iRng2, iEnm, iZip, RV.fetch, fetchs, asn1, asnT, asnN, asnC, lkU, lkS, lkO, lkL, slF, slL, leC, leUs, leUo, leN, PyData.int.injEq, PyData.bool.injEq, PyData.str.injEq, PyData.tuple.injEq, PyData.list.injEq, Prod.mk.injEq, List.cons.injEq, Sum.inl.injEq, Option.some.injEq, leS, leO, leL, ow?, retD, varD, hvar, rAdd, rAddL, rAddT, rAddS, rSub, rMul, rPow, aAdd, aSub, aAddS, cLt, cLe, cGt, cGe, cEqI, cNeI, cEqB, cNeB, truI, truB, truL, truT, truN, intI, ixL, ixT, atN, atL, atM, atPlus, atPlus2, fdiv_pos, mod_pos, Int.reduceLT, Int.reduceLE, Int.reduceEq, Int.reduceMod, Int.reduceDiv, Nat.reduceLT, fnLenL, fnLenT, fnLenF, fnLenS, fnAbs, fnInt, fnList, fnListT, fnTuple, fnTupleT, fnMax2, fnMin2, fnSumL, fnSumT, fnMaxL, fnMaxT, fnMinL, fnMinT, fnAllL, fnAnyL, fnIsNone, fnNotNone, fnIsInt, fnIsBool, fnIsStr, fnIsTup, nN, nI, nB, nS, nL, nT, itmL, itmT, itmS, enmL', enmS', lckV, slcT, slcL, slcS, rgD_nat, rgD_pred, rgD_succ, setIxE, intsOf_ints, boolsOf_bools, strsOf_strs, List.getElem?_cons_succ, List.getElem?_cons_zero, List.set_cons_succ, List.set_cons_zero, List.getElem?_map, List.length_map, List.length_cons, List.length_nil, List.length_append, List.map_append, Option.bind_some, Option.bind_none, Option.map_some, Option.map_none, if_true, if_false, ite_true, ite_false, if_false_right, decide_eq_true_eq, Bool.not_eq_true', decide_eq_false_iff_not, Bool.not_eq_true, reduceCtorEq, reduceIte, ne_eq, not_false_eq_true, not_true_eq_false, true_and, and_true, false_and, and_false, implies_true, Bool.false_eq_true, List.isEmpty_cons, List.isEmpty_nil, Bool.not_true, Bool.not_false, List.map_cons, List.map_nil, List.cons_append, List.nil_append, List.replicate_succ, List.replicate_zero, Nat.reduceSub, Nat.reduceAdd, Nat.reduceMul, Int.reduceSub, Int.reduceNeg, Int.reduceAdd, Int.reduceMul, Int.reducePow, Int.reduceToNat, Nat.reduceLeDiff, lock, unls, unl, wip, rsto, fzO, frz, noal, lfree, lfrees, lfrees_ints, aft, Bool.and_self, Bool.and_true, Bool.true_and, h]
      obtain ⟨r, hr⟩ := filter_first (a.length + 1) (x.2 + 1) (fun k => decide (lead a b k < 0)) (fun j hj => by
        cases j with
        | zero => simp [lead, S_zero]
        | succ j => have := hprev j (by omega); simp; omega) (by omega) (by rw [← hx1]; exact decide_eq_true h)
      unfold earlyL
      rw [hr]
      simp [optK]
    · simp -implicitDefEqProofs only [↓Wp_def, Wp_some, Wp_none, Wp_bind, Wp_ite, Wp_map, wNil, wEx, wAsg, wApp, wSto, wAug, augD, augK_some, augK_none, stE, wAugs, wRetV, wRet, wRetn, wIfe, FQ_nx, FQ_rt, eCon, eVar, eBin, eNeg, eNott, eAndd, eOrr, eCmp, eChain, eChain3, eIte, eTup, eLst, eIdx, eIdxm, eLenset, eJoin, eSlc, eRev, eCall, eFn, ePop, ePopAt, tVal, tAndd, tOrr, tNott, toNone, toSome, oNone, oSome, esNil, esCons, hsNil, hsCons, hVar, hCon, hBin, hNeg, hNott, hAndd, hOrr, hCmp, hChain, hChain3, hIte, hTup, hLst, hIdx, hIdxm, hLenset, hJoin, hSlc, hRev, hCall, hFn, hLc, hGq, hPop, hPopAt, iSeq, iRng1, iRng2, iEnm, iZip, RV.fetch, fetchs, asn1, asnT, asnN, asnC, lkU, lkS, lkO, lkL, slF, slL, leC, leUs, leUo, leN, PyData.int.injEq, PyData.bool.injEq, PyData.str.injEq, PyData.tuple.injEq, PyData.list.injEq, Prod.mk.injEq, List.cons.injEq, Sum.inl.injEq, Option.some.injEq, leS, leO, leL, ow?, retD, varD, hvar, rAdd, rAddL, rAddT, rAddS, rSub, rMul, rPow, aAdd, aSub, aAddS, cLt, cLe, cGt, cGe, cEqI, cNeI, cEqB, cNeB, truI, truB, truL, truT, truN, intI, ixL, ixT, atN, atL, atM, atPlus, atPlus2, fdiv_pos, mod_pos, Int.reduceLT, Int.reduceLE, Int.reduceEq, Int.reduceMod, Int.reduceDiv, Nat.reduceLT, fnLenL, fnLenT, fnLenF, fnLenS, fnAbs, fnInt, fnList, fnListT, fnTuple, fnTupleT, fnMax2, fnMin2, fnSumL, fnSumT, fnMaxL, fnMaxT, fnMinL, fnMinT, fnAllL, fnAnyL, fnIsNone, fnNotNone, fnIsInt, fnIsBool, fnIsStr, fnIsTup, nN, nI, nB, nS, nL, nT, itmL, itmT, itmS, enmL', enmS', lckV, slcT, slcL, slcS, rgD_nat, rgD_pred, rgD_succ, setIxE, intsOf_ints, boolsOf_bools, strsOf_strs, List.getElem?_cons_succ, List.getElem?_cons_zero, List.set_cons_succ, List.set_cons_zero, List.getElem?_map, List.length_map, List.length_cons, List.length_nil, List.length_append, List.map_append, Option.bind_some, Option.bind_none, Option.map_some, Option.map_none, if_true, if_false, ite_true, ite_false, if_false_right, decide_eq_true_eq, Bool.not_eq_true', decide_eq_false_iff_not, Bool.not_eq_true, reduceCtorEq, reduceIte, ne_eq, not_false_eq_true, not_true_eq_false, true_and, and_true, false_and, and_false, implies_true, Bool.false_eq_true, List.isEmpty_cons, List.isEmpty_nil, Bool.not_true, Bool.not_false, List.map_cons, List.map_nil, List.cons_append, List.nil_append, List.replicate_succ, List.replicate_zero, Nat.reduceSub, Nat.reduceAdd, Nat.reduceMul, Int.reduceSub, Int.reduceNeg, Int.reduceAdd, Int.reduceMul, Int.reducePow, Int.reduceToNat, Nat.reduceLeDiff, lock, unls, unl, wip, rsto, fzO, frz, noal, lfree, lfrees, lfrees_ints, aft, Bool.and_self, Bool.and_true, Bool.true_and, h]
      intro y hy
      rcases List.mem_append.mp hy with hy | hy
      · exact hp y hy
      · rw [List.mem_singleton.mp hy]; exact h
  · intro hall
    simp -implicitDefEqProofs only [↓Wp_def, Wp_some, Wp_none, Wp_bind, Wp_ite, Wp_map, wNil, wEx, wAsg, wApp, wSto, wAug, augD, augK_some, augK_none, stE, wAugs, wRetV, wRet, wRetn, wIfe, FQ_nx, FQ_rt, eCon, eVar, eBin, eNeg, eNott, eAndd, eOrr, eCmp, eChain, eChain3, eIte, eTup, eLst, eIdx, eIdxm, eLenset, eJoin, eSlc, eRev, eCall, eFn, ePop, ePopAt, tVal, tAndd, tOrr, tNott, toNone, toSome, oNone, oSome, esNil, esCons, hsNil, hsCons, hVar, hCon, hBin, hNeg, hNott, hAndd, hOrr, hCmp, hChain, hChain3, hIte, hTup, hLst, hIdx, hIdxm, hLenset, hJoin, hSlc, hRev, hCall, hFn, hLc, hGq, hPop, hPopAt, iSeq, iRng1, iRng2, iEnm, iZip, RV.fetch, fetchs, asn1, asnT, asnN, asnC, lkU, lkS, lkO, lkL, slF, slL, leC, leUs, leUo, leN, PyData.int.injEq, PyData.bool.injEq, PyData.str.injEq, PyData.tuple.injEq, PyData.list.injEq, Prod.mk.injEq, List.cons.injEq, Sum.inl.injEq, Option.some.injEq, leS, leO, leL, ow?, retD, varD, hvar, rAdd, rAddL, rAddT, rAddS, rSub, rMul, rPow, aAdd, aSub, aAddS, cLt, cLe, cGt, cGe, cEqI, cNeI, cEqB, cNeB, truI, truB, truL, truT, truN, intI, ixL, ixT, atN, atL, atM, atPlus, atPlus2, fdiv_pos, mod_pos, Int.reduceLT, Int.reduceLE, Int.reduceEq, Int.reduceMod, Int.reduceDiv, Nat.reduceLT, fnLenL, fnLenT, fnLenF, fnLenS, fnAbs, fnInt, fnList, fnListT, fnTuple, fnTupleT, fnMax2, fnMin2, fnSumL, fnSumT, fnMaxL, fnMaxT, fnMinL, fnMinT, fnAllL, fnAnyL, fnIsNone, fnNotNone, fnIsInt, fnIsBool, fnIsStr, fnIsTup, nN, nI, nB, nS, nL, nT, itmL, itmT, itmS, enmL', enmS', lckV, slcT, slcL, slcS, rgD_nat, rgD_pred, rgD_succ, setIxE, intsOf_ints, boolsOf_bools, strsOf_strs, List.getElem?_cons_succ, List.getElem?_cons_zero, List.set_cons_succ, List.set_cons_zero, List.getElem?_map, List.length_map, List.length_cons, List.length_nil, List.length_append, List.map_append, Option.bind_some, Option.bind_none, Option.map_some, Option.map_none, if_true, if_false, ite_true, ite_false, if_false_right, decide_eq_true_eq, Bool.not_eq_true', decide_eq_false_iff_not, Bool.not_eq_true, reduceCtorEq, reduceIte, ne_eq, not_false_eq_true, not_true_eq_false, true_and, and_true, false_and, and_false, implies_true, Bool.false_eq_true, List.isEmpty_cons, List.isEmpty_nil, Bool.not_true, Bool.not_false, List.map_cons, List.map_nil, List.cons_append, List.nil_append, List.replicate_succ, List.replicate_zero, Nat.reduceSub, Nat.reduceAdd, Nat.reduceMul, Int.reduceSub, Int.reduceNeg, Int.reduceAdd, Int.reduceMul, Int.reducePow, Int.reduceToNat, Nat.reduceLeDiff, lock, unls, unl, wip, rsto, fzO, frz, noal, lfree, lfrees, lfrees_ints, aft, Bool.and_self, Bool.and_true, Bool.true_and]
    have : earlyL a b = [] := by
      unfold earlyL
      rw [List.filter_eq_nil_iff]
      intro k hk
      have hk := List.mem_range.mp hk
      cases k with
      | zero => simp [lead, S_zero]
      | succ k =>
        have hm : (lead a b (k + 1), k) ∈ (ah a b).zipIdx := by rw [ah_enum]; exact List.mem_map.mpr ⟨k, List.mem_range.mpr (by omega), rfl⟩
        have := hall _ hm
        simpa using this
    rw [this]
    rfl
theorem early_nil (a b : List Int) : earlyL a b = [] ↔ After a b := by
  unfold earlyL
  rw [List.filter_eq_nil_iff]
  constructor
  · intro h k hk
    have := h k (List.mem_range.mpr (by omega))
    simpa using this
  · intro h k hk
    have := h k (by have := List.mem_range.mp hk; omega)
    simpa using this
end KX

namespace KX
open PySem RV K73
theorem filt_enum (a b : List Int) : ((ah a b).zipIdx.filter fun x => decide (0 < x.1)).map (fun x => PyData.int x.2) = ((List.range a.length).filter fun k => decide (0 < lead a b (k + 1))).map fun k : Nat => PyData.int k := by
  rw [ah_enum, List.filter_map, List.map_map]
  rfl
theorem nud_at (now : List Int) (p : Nat) (h : p + 1 < now.length) : ((now.set p (now[p]'(by omega) - 1)).set (p + 1) (now[p + 1] + 1)) = nud now p := by
  unfold nud
  rw [List.getElem?_eq_getElem h, List.getElem?_eq_getElem (show p < now.length by omega)]
  rfl
theorem nudges_none {k : Nat} (hk : 3 ≤ k) (a b : List Int) (hl : a.length = b.length) (h1 : a.length ≤ 1000) (h : ¬ After a b) : run prog wf k 2 [T a, T b] = some (.none, false) := by
  refine run_eq (d := 2) (p := c2) rfl hk fun k hk => Wp.fn rfl ?_
  unfold c2
  simp -implicitDefEqProofs only [↓Wp_def, Wp_some, Wp_none, Wp_bind, Wp_ite, Wp_map, wNil, wEx, wAsg, wApp, wSto, wAug, augD, augK_some, augK_none, stE, wAugs, wRetV, wRet, wRetn, wIfe, FQ_nx, FQ_rt, eCon, eVar, eBin, eNeg, eNott, eAndd, eOrr, eCmp, eChain, eChain3, eIte, eTup, eLst, eIdx, eIdxm, eLenset, eJoin, eSlc, eRev, eCall, eFn, ePop, ePopAt, tVal, tAndd, tOrr, tNott, toNone, toSome, oNone, oSome, esNil, esCons, hsNil, hsCons, hVar, hCon, hBin, hNeg, hNott, hAndd, hOrr, hCmp, hChain, hChain3, hIte, hTup, hLst, hIdx, hIdxm, hLenset, hJoin, hSlc, hRev, hCall, hFn, hLc, hGq, hPop, hPopAt, iSeq, iRng1, iRng2, iEnm, iZip, RV.fetch, fetchs, asn1, asnT, asnN, asnC, lkU, lkS, lkO, lkL, slF, slL, leC, leUs, leUo, leN, PyData.int.injEq, PyData.bool.injEq, PyData.str.injEq, PyData.tuple.injEq, PyData.list.injEq, Prod.mk.injEq, List.cons.injEq, Sum.inl.injEq, Option.some.injEq, leS, leO, leL, ow?, retD, varD, hvar, rAdd, rAddL, rAddT, rAddS, rSub, rMul, rPow, aAdd, aSub, aAddS, cLt, cLe, cGt, cGe, cEqI, cNeI, cEqB, cNeB, truI, truB, truL, truT, truN, intI, ixL, ixT, atN, atL, atM, atPlus, atPlus2, fdiv_pos, mod_pos, Int.reduceLT, Int.reduceLE, Int.reduceEq, Int.reduceMod, Int.reduceDiv, Nat.reduceLT, fnLenL, fnLenT, fnLenF, fnLenS, fnAbs, fnInt, fnList, fnListT, fnTuple, fnTupleT, fnMax2, fnMin2, fnSumL, fnSumT, fnMaxL, fnMaxT, fnMinL, fnMinT, fnAllL, fnAnyL, fnIsNone, fnNotNone, fnIsInt, fnIsBool, fnIsStr, fnIsTup, nN, nI, nB, nS, nL, nT, itmL, itmT, itmS, enmL', enmS', lckV, slcT, slcL, slcS, rgD_nat, rgD_pred, rgD_succ, setIxE, intsOf_ints, boolsOf_bools, strsOf_strs, List.getElem?_cons_succ, List.getElem?_cons_zero, List.set_cons_succ, List.set_cons_zero, List.getElem?_map, List.length_map, List.length_cons, List.length_nil, List.length_append, List.map_append, Option.bind_some, Option.bind_none, Option.map_some, Option.map_none, if_true, if_false, ite_true, ite_false, if_false_right, decide_eq_true_eq, Bool.not_eq_true', decide_eq_false_iff_not, Bool.not_eq_true, reduceCtorEq, reduceIte, ne_eq, not_false_eq_true, not_true_eq_false, true_and, and_true, false_and, and_false, implies_true, Bool.false_eq_true, List.isEmpty_cons, List.isEmpty_nil, Bool.not_true, Bool.not_false, List.map_cons, List.map_nil, List.cons_append, List.nil_append, List.replicate_succ, List.replicate_zero, Nat.reduceSub, Nat.reduceAdd, Nat.reduceMul, Int.reduceSub, Int.reduceNeg, Int.reduceAdd, Int.reduceMul, Int.reducePow, Int.reduceToNat, Nat.reduceLeDiff, lock, unls, unl, wip, rsto, fzO, frz, noal, lfree, lfrees, lfrees_ints, aft, Bool.and_self, Bool.and_true, Bool.true_and, after_ok hk a b hl h1, h, decide_false]
theorem nudges_ok {k : Nat} (hk : 3 ≤ k) (a b : List Int) (hl : a.length = b.length) (h1 : a.length ≤ 1000) (hw : Way b a) (hb : ∀ z ∈ b, 0 ≤ z) (ht : tot a b < 9000) : ∃ ps : List Int, (ps.length : Int) = tot a b ∧ led a ps = some b ∧ run prog wf k 2 [T a, T b] = some (T ps, false) := by
  have main : Wp (run prog wf k 2 [T a, T b]) fun x => ∃ ps : List Int, (ps.length : Int) = tot a b ∧ led a ps = some b ∧ x = (T ps, false) := by
    refine run_wp (d := 2) (p := c2) rfl hk fun k hk => Wp.fn rfl ?_
    unfold c2
    have h := hw.aft
    simp -implicitDefEqProofs only [↓Wp_def, Wp_some, Wp_none, Wp_bind, Wp_ite, Wp_map, wNil, wEx, wAsg, wApp, wSto, wAug, augD, augK_some, augK_none, stE, wAugs, wRetV, wRet, wRetn, wIfe, FQ_nx, FQ_rt, eCon, eVar, eBin, eNeg, eNott, eAndd, eOrr, eCmp, eChain, eChain3, eIte, eTup, eLst, eIdx, eIdxm, eLenset, eJoin, eSlc, eRev, eCall, eFn, ePop, ePopAt, tVal, tAndd, tOrr, tNott, toNone, toSome, oNone, oSome, esNil, esCons, hsNil, hsCons, hVar, hCon, hBin, hNeg, hNott, hAndd, hOrr, hCmp, hChain, hChain3, hIte, hTup, hLst, hIdx, hIdxm, hLenset, hJoin, hSlc, hRev, hCall, hFn, hLc, hGq, hPop, hPopAt, iSeq, iRng1, iRng2, iEnm, iZip, RV.fetch, fetchs, asn1, asnT, asnN, asnC, lkU, lkS, lkO, lkL, slF, slL, leC, leUs, leUo, leN, PyData.int.injEq, PyData.bool.injEq, PyData.str.injEq, PyData.tuple.injEq, PyData.list.injEq, Prod.mk.injEq, List.cons.injEq, Sum.inl.injEq, Option.some.injEq, leS, leO, leL, ow?, retD, varD, hvar, rAdd, rAddL, rAddT, rAddS, rSub, rMul, rPow, aAdd, aSub, aAddS, cLt, cLe, cGt, cGe, cEqI, cNeI, cEqB, cNeB, truI, truB, truL, truT, truN, intI, ixL, ixT, atN, atL, atM, atPlus, atPlus2, fdiv_pos, mod_pos, Int.reduceLT, Int.reduceLE, Int.reduceEq, Int.reduceMod, Int.reduceDiv, Nat.reduceLT, fnLenL, fnLenT, fnLenF, fnLenS, fnAbs, fnInt, fnList, fnListT, fnTuple, fnTupleT, fnMax2, fnMin2, fnSumL, fnSumT, fnMaxL, fnMaxT, fnMinL, fnMinT, fnAllL, fnAnyL, fnIsNone, fnNotNone, fnIsInt, fnIsBool, fnIsStr, fnIsTup, nN, nI, nB, nS, nL, nT, itmL, itmT, itmS, enmL', enmS', lckV, slcT, slcL, slcS, rgD_nat, rgD_pred, rgD_succ, setIxE, intsOf_ints, boolsOf_bools, strsOf_strs, List.getElem?_cons_succ, List.getElem?_cons_zero, List.set_cons_succ, List.set_cons_zero, List.getElem?_map, List.length_map, List.length_cons, List.length_nil, List.length_append, List.map_append, Option.bind_some, Option.bind_none, Option.map_some, Option.map_none, if_true, if_false, ite_true, ite_false, if_false_right, decide_eq_true_eq, Bool.not_eq_true', decide_eq_false_iff_not, Bool.not_eq_true, reduceCtorEq, reduceIte, ne_eq, not_false_eq_true, not_true_eq_false, true_and, and_true, false_and, and_false, implies_true, Bool.false_eq_true, List.isEmpty_cons, List.isEmpty_nil, Bool.not_true, Bool.not_false, List.map_cons, List.map_nil, List.cons_append, List.nil_append, List.replicate_succ, List.replicate_zero, Nat.reduceSub, Nat.reduceAdd, Nat.reduceMul, Int.reduceSub, Int.reduceNeg, Int.reduceAdd, Int.reduceMul, Int.reducePow, Int.reduceToNat, Nat.reduceLeDiff, lock, unls, unl, wip, rsto, fzO, frz, noal, lfree, lfrees, lfrees_ints, aft, Bool.and_self, Bool.and_true, Bool.true_and, after_ok hk a b hl h1, h, decide_true, show (0 : Nat) ≤ sizeLine by decide]
    have t0 := tot_nonneg hw
    refine Wp.whlP (α := List Int × List Int) (fun s => Way b s.1 ∧ led a s.2 = some s.1 ∧ (s.2.length : Int) = tot a b - tot s.1 b) (fun s => [.sh (T a), .sh (T b), .ow (s.1.map .int), .ow (s.2.map .int), .un, .un, .un, .un]) (fun s => (tot s.1 b).toNat) (a, []) ?_ ?_ ?_ cl_const
    · refine ⟨⟨hw, rfl, by simp⟩, ?_⟩
      simp -implicitDefEqProofs only [↓Wp_def, Wp_some, Wp_none, Wp_bind, Wp_ite, Wp_map, wNil, wEx, wAsg, wApp, wSto, wAug, augD, augK_some, augK_none, stE, wAugs, wRetV, wRet, wRetn, wIfe, FQ_nx, FQ_rt, eCon, eVar, eBin, eNeg, eNott, eAndd, eOrr, eCmp, eChain, eChain3, eIte, eTup, eLst, eIdx, eIdxm, eLenset, eJoin, eSlc, eRev, eCall, eFn, ePop, ePopAt, tVal, tAndd, tOrr, tNott, toNone, toSome, oNone, oSome, esNil, esCons, hsNil, hsCons, hVar, hCon, hBin, hNeg, hNott, hAndd, hOrr, hCmp, hChain, hChain3, hIte, hTup, hLst, hIdx, hIdxm, hLenset, hJoin, hSlc, hRev, hCall, hFn, hLc, hGq, hPop, hPopAt, iSeq, iRng1, iRng2, iEnm, iZip, RV.fetch, fetchs, asn1, asnT, asnN, asnC, lkU, lkS, lkO, lkL, slF, slL, leC, leUs, leUo, leN, PyData.int.injEq, PyData.bool.injEq, PyData.str.injEq, PyData.tuple.injEq, PyData.list.injEq, Prod.mk.injEq, List.cons.injEq, Sum.inl.injEq, Option.some.injEq, leS, leO, leL, ow?, retD, varD, hvar, rAdd, rAddL, rAddT, rAddS, rSub, rMul, rPow, aAdd, aSub, aAddS, cLt, cLe, cGt, cGe, cEqI, cNeI, cEqB, cNeB, truI, truB, truL, truT, truN, intI, ixL, ixT, atN, atL, atM, atPlus, atPlus2, fdiv_pos, mod_pos, Int.reduceLT, Int.reduceLE, Int.reduceEq, Int.reduceMod, Int.reduceDiv, Nat.reduceLT, fnLenL, fnLenT, fnLenF, fnLenS, fnAbs, fnInt, fnList, fnListT, fnTuple, fnTupleT, fnMax2, fnMin2, fnSumL, fnSumT, fnMaxL, fnMaxT, fnMinL, fnMinT, fnAllL, fnAnyL, fnIsNone, fnNotNone, fnIsInt, fnIsBool, fnIsStr, fnIsTup, nN, nI, nB, nS, nL, nT, itmL, itmT, itmS, enmL', enmS', lckV, slcT, slcL, slcS, rgD_nat, rgD_pred, rgD_succ, setIxE, intsOf_ints, boolsOf_bools, strsOf_strs, List.getElem?_cons_succ, List.getElem?_cons_zero, List.set_cons_succ, List.set_cons_zero, List.getElem?_map, List.length_map, List.length_cons, List.length_nil, List.length_append, List.map_append, Option.bind_some, Option.bind_none, Option.map_some, Option.map_none, if_true, if_false, ite_true, ite_false, if_false_right, decide_eq_true_eq, Bool.not_eq_true', decide_eq_false_iff_not, Bool.not_eq_true, reduceCtorEq, reduceIte, ne_eq, not_false_eq_true, not_true_eq_false, true_and, and_true, false_and, and_false, implies_true, Bool.false_eq_true, List.isEmpty_cons, List.isEmpty_nil, Bool.not_true, Bool.not_false, List.map_cons, List.map_nil, List.cons_append, List.nil_append, List.replicate_succ, List.replicate_zero, Nat.reduceSub, Nat.reduceAdd, Nat.reduceMul, Int.reduceSub, Int.reduceNeg, Int.reduceAdd, Int.reduceMul, Int.reducePow, Int.reduceToNat, Nat.reduceLeDiff, lock, unls, unl, wip, rsto, fzO, frz, noal, lfree, lfrees, lfrees_ints, aft, Bool.and_self, Bool.and_true, Bool.true_and]
    · show (tot a b).toNat < wf
      have : wf = 10000 := rfl
      omega
    · rintro ⟨now, ps⟩ ⟨w, hled, hps⟩
      simp only at w hled hps ⊢
      have hn := w.len
      have hnl : now.length ≤ 1000 := by rw [hn, ← hl]; exact h1
      simp -implicitDefEqProofs only [↓Wp_def, Wp_some, Wp_none, Wp_bind, Wp_ite, Wp_map, wNil, wEx, wAsg, wApp, wSto, wAug, augD, augK_some, augK_none, stE, wAugs, wRetV, wRet, wRetn, wIfe, FQ_nx, FQ_rt, eCon, eVar, eBin, eNeg, eNott, eAndd, eOrr, eCmp, eChain, eChain3, eIte, eTup, eLst, eIdx, eIdxm, eLenset, eJoin, eSlc, eRev, eCall, eFn, ePop, ePopAt, tVal, tAndd, tOrr, tNott, toNone, toSome, oNone, oSome, esNil, esCons, hsNil, hsCons, hVar, hCon, hBin, hNeg, hNott, hAndd, hOrr, hCmp, hChain, hChain3, hIte, hTup, hLst, hIdx, hIdxm, hLenset, hJoin, hSlc, hRev, hCall, hFn, hLc, hGq, hPop, hPopAt, iSeq, iRng1, iRng2, iEnm, iZip, RV.fetch, fetchs, asn1, asnT, asnN, asnC, lkU, lkS, lkO, lkL, slF, slL, leC, leUs, leUo, leN, PyData.int.injEq, PyData.bool.injEq, PyData.str.injEq, PyData.tuple.injEq, PyData.list.injEq, Prod.mk.injEq, List.cons.injEq, Sum.inl.injEq, Option.some.injEq, leS, leO, leL, ow?, retD, varD, hvar, rAdd, rAddL, rAddT, rAddS, rSub, rMul, rPow, aAdd, aSub, aAddS, cLt, cLe, cGt, cGe, cEqI, cNeI, cEqB, cNeB, truI, truB, truL, truT, truN, intI, ixL, ixT, atN, atL, atM, atPlus, atPlus2, fdiv_pos, mod_pos, Int.reduceLT, Int.reduceLE, Int.reduceEq, Int.reduceMod, Int.reduceDiv, Nat.reduceLT, fnLenL, fnLenT, fnLenF, fnLenS, fnAbs, fnInt, fnList, fnListT, fnTuple, fnTupleT, fnMax2, fnMin2, fnSumL, fnSumT, fnMaxL, fnMaxT, fnMinL, fnMinT, fnAllL, fnAnyL, fnIsNone, fnNotNone, fnIsInt, fnIsBool, fnIsStr, fnIsTup, nN, nI, nB, nS, nL, nT, itmL, itmT, itmS, enmL', enmS', lckV, slcT, slcL, slcS, rgD_nat, rgD_pred, rgD_succ, setIxE, intsOf_ints, boolsOf_bools, strsOf_strs, List.getElem?_cons_succ, List.getElem?_cons_zero, List.set_cons_succ, List.set_cons_zero, List.getElem?_map, List.length_map, List.length_cons, List.length_nil, List.length_append, List.map_append, Option.bind_some, Option.bind_none, Option.map_some, Option.map_none, if_true, if_false, ite_true, ite_false, if_false_right, decide_eq_true_eq, Bool.not_eq_true', decide_eq_false_iff_not, Bool.not_eq_true, reduceCtorEq, reduceIte, ne_eq, not_false_eq_true, not_true_eq_false, true_and, and_true, false_and, and_false, implies_true, Bool.false_eq_true, List.isEmpty_cons, List.isEmpty_nil, Bool.not_true, Bool.not_false, List.map_cons, List.map_nil, List.cons_append, List.nil_append, List.replicate_succ, List.replicate_zero, Nat.reduceSub, Nat.reduceAdd, Nat.reduceMul, Int.reduceSub, Int.reduceNeg, Int.reduceAdd, Int.reduceMul, Int.reducePow, Int.reduceToNat, Nat.reduceLeDiff, lock, unls, unl, wip, rsto, fzO, frz, noal, lfree, lfrees, lfrees_ints, aft, Bool.and_self, Bool.and_true, Bool.true_and, ne_intsT]
      by_cases he : now = b
      · subst he
        simp -implicitDefEqProofs only [↓Wp_def, Wp_some, Wp_none, Wp_bind, Wp_ite, Wp_map, wNil, wEx, wAsg, wApp, wSto, wAug, augD, augK_some, augK_none, stE, wAugs, wRetV, wRet, wRetn, wIfe, FQ_nx, FQ_rt, eCon, eVar, eBin, eNeg, eNott, eAndd, eOrr, eCmp, eChain, eChain3, eIte, eTup, eLst, eIdx, eIdxm, eLenset, eJoin, eSlc, eRev, eCall, eFn, ePop, ePopAt, tVal, tAndd, tOrr, tNott, toNone, toSome, oNone, oSome, esNil, esCons, hsNil, hsCons, hVar, hCon, hBin, hNeg, hNott, hAndd, hOrr, hCmp, hChain, hChain3, hIte, hTup, hLst, hIdx, hIdxm, hLenset, hJoin, hSlc, hRev, hCall, hFn, hLc, hGq, hPop, hPopAt, iSeq, iRng1, iRng2, iEnm, iZip, RV.fetch, fetchs, asn1, asnT, asnN, asnC, lkU, lkS, lkO, lkL, slF, slL, leC, leUs, leUo, leN, PyData.int.injEq, PyData.bool.injEq, PyData.str.injEq, PyData.tuple.injEq, PyData.list.injEq, Prod.mk.injEq, List.cons.injEq, Sum.inl.injEq, Option.some.injEq, leS, leO, leL, ow?, retD, varD, hvar, rAdd, rAddL, rAddT, rAddS, rSub, rMul, rPow, aAdd, aSub, aAddS, cLt, cLe, cGt, cGe, cEqI, cNeI, cEqB, cNeB, truI, truB, truL, truT, truN, intI, ixL, ixT, atN, atL, atM, atPlus, atPlus2, fdiv_pos, mod_pos, Int.reduceLT, Int.reduceLE, Int.reduceEq, Int.reduceMod, Int.reduceDiv, Nat.reduceLT, fnLenL, fnLenT, fnLenF, fnLenS, fnAbs, fnInt, fnList, fnListT, fnTuple, fnTupleT, fnMax2, fnMin2, fnSumL, fnSumT, fnMaxL, fnMaxT, fnMinL, fnMinT, fnAllL, fnAnyL, fnIsNone, fnNotNone, fnIsInt, fnIsBool, fnIsStr, fnIsTup, nN, nI, nB, nS, nL, nT, itmL, itmT, itmS, enmL', enmS', lckV, slcT, slcL, slcS, rgD_nat, rgD_pred, rgD_succ, setIxE, intsOf_ints, boolsOf_bools, strsOf_strs, List.getElem?_cons_succ, List.getElem?_cons_zero, List.set_cons_succ, List.set_cons_zero, List.getElem?_map, List.length_map, List.length_cons, List.length_nil, List.length_append, List.map_append, Option.bind_some, Option.bind_none, Option.map_some, Option.map_none, if_true, if_false, ite_true, ite_false, if_false_right, decide_eq_true_eq, Bool.not_eq_true', decide_eq_false_iff_not, Bool.not_eq_true, reduceCtorEq, reduceIte, ne_eq, not_false_eq_true, not_true_eq_false, true_and, and_true, false_and, and_false, implies_true, Bool.false_eq_true, List.isEmpty_cons, List.isEmpty_nil, Bool.not_true, Bool.not_false, List.map_cons, List.map_nil, List.cons_append, List.nil_append, List.replicate_succ, List.replicate_zero, Nat.reduceSub, Nat.reduceAdd, Nat.reduceMul, Int.reduceSub, Int.reduceNeg, Int.reduceAdd, Int.reduceMul, Int.reducePow, Int.reduceToNat, Nat.reduceLeDiff, lock, unls, unl, wip, rsto, fzO, frz, noal, lfree, lfrees, lfrees_ints, aft, Bool.and_self, Bool.and_true, Bool.true_and, decide_true]
        rw [tot_self] at hps
        exact ⟨ps, by omega, hled, rfl⟩
      · simp -implicitDefEqProofs only [↓Wp_def, Wp_some, Wp_none, Wp_bind, Wp_ite, Wp_map, wNil, wEx, wAsg, wApp, wSto, wAug, augD, augK_some, augK_none, stE, wAugs, wRetV, wRet, wRetn, wIfe, FQ_nx, FQ_rt, eCon, eVar, eBin, eNeg, eNott, eAndd, eOrr, eCmp, eChain, eChain3, eIte, eTup, eLst, eIdx, eIdxm, eLenset, eJoin, eSlc, eRev, eCall, eFn, ePop, ePopAt, tVal, tAndd, tOrr, tNott, toNone, toSome, oNone, oSome, esNil, esCons, hsNil, hsCons, hVar, hCon, hBin, hNeg, hNott, hAndd, hOrr, hCmp, hChain, hChain3, hIte, hTup, hLst, hIdx, hIdxm, hLenset, hJoin, hSlc, hRev, hCall, hFn, hLc, hGq, hPop, hPopAt, iSeq, iRng1, iRng2, iEnm, iZip, RV.fetch, fetchs, asn1, asnT, asnN, asnC, lkU, lkS, lkO, lkL, slF, slL, leC, leUs, leUo, leN, PyData.int.injEq, PyData.bool.injEq, PyData.str.injEq, PyData.tuple.injEq, PyData.list.injEq, Prod.mk.injEq, List.cons.injEq, Sum.inl.injEq, Option.some.injEq, leS, leO, leL, ow?, retD, varD, hvar, rAdd, rAddL, rAddT, rAddS, rSub, rMul, rPow, aAdd, aSub, aAddS, cLt, cLe, cGt, cGe, cEqI, cNeI, cEqB, cNeB, truI, truB, truL, truT, truN, intI, ixL, ixT, atN, atL, atM, atPlus, atPlus2, fdiv_pos, mod_pos, Int.reduceLT, Int.reduceLE, Int.reduceEq, Int.reduceMod, Int.reduceDiv, Nat.reduceLT, fnLenL, fnLenT, fnLenF, fnLenS, fnAbs, fnInt, fnList, fnListT, fnTuple, fnTupleT, fnMax2, fnMin2, fnSumL, fnSumT, fnMaxL, fnMaxT, fnMinL, fnMinT, fnAllL, fnAnyL, fnIsNone, fnNotNone, fnIsInt, fnIsBool, fnIsStr, fnIsTup, nN, nI, nB, nS, nL, nT, itmL, itmT, itmS, enmL', enmS', lckV, slcT, slcL, slcS, rgD_nat, rgD_pred, rgD_succ, setIxE, intsOf_ints, boolsOf_bools, strsOf_strs, List.getElem?_cons_succ, List.getElem?_cons_zero, List.set_cons_succ, List.set_cons_zero, List.getElem?_map, List.length_map, List.length_cons, List.length_nil, List.length_append, List.map_append, Option.bind_some, Option.bind_none, Option.map_some, Option.map_none, if_true, if_false, ite_true, ite_false, if_false_right, decide_eq_true_eq, Bool.not_eq_true', decide_eq_false_iff_not, Bool.not_eq_true, reduceCtorEq, reduceIte, ne_eq, not_false_eq_true, not_true_eq_false, true_and, and_true, false_and, and_false, implies_true, Bool.false_eq_true, List.isEmpty_cons, List.isEmpty_nil, Bool.not_true, Bool.not_false, List.map_cons, List.map_nil, List.cons_append, List.nil_append, List.replicate_succ, List.replicate_zero, Nat.reduceSub, Nat.reduceAdd, Nat.reduceMul, Int.reduceSub, Int.reduceNeg, Int.reduceAdd, Int.reduceMul, Int.reducePow, Int.reduceToNat, Nat.reduceLeDiff, lock, unls, unl, wip, rsto, fzO, frz, noal, lfree, lfrees, lfrees_ints, aft, Bool.and_self, Bool.and_true, Bool.true_and, he, decide_false]
        obtain ⟨p, rest, hf, hp1, hp2, hp3⟩ := way_ne w he
        have hp0 : p < now.length := by omega
        simp -implicitDefEqProofs only [↓Wp_def, Wp_some, Wp_none, Wp_bind, Wp_ite, Wp_map, wNil, wEx, wAsg, wApp, wSto, wAug, augD, augK_some, augK_none, stE, wAugs, wRetV, wRet, wRetn, wIfe, FQ_nx, FQ_rt, eCon, eVar, eBin, eNeg, eNott, eAndd, eOrr, eCmp, eChain, eChain3, eIte, eTup, eLst, eIdx, eIdxm, eLenset, eJoin, eSlc, eRev, eCall, eFn, ePop, ePopAt, tVal, tAndd, tOrr, tNott, toNone, toSome, oNone, oSome, esNil, esCons, hsNil, hsCons, hVar, hCon, hBin, hNeg, hNott, hAndd, hOrr, hCmp, hChain, hChain3, hIte, hTup, hLst, hIdx, hIdxm, hLenset, hJoin, hSlc, hRev, hCall, hFn, hLc, hGq, hPop, hPopAt, iSeq, iRng1, iRng2, iEnm, iZip, RV.fetch, fetchs, asn1, asnT, asnN, asnC, lkU, lkS, lkO, lkL, slF, slL, leC, leUs, leUo, leN, PyData.int.injEq, PyData.bool.injEq, PyData.str.injEq, PyData.tuple.injEq, PyData.list.injEq, Prod.mk.injEq, List.cons.injEq, Sum.inl.injEq, Option.some.injEq, leS, leO, leL, ow?, retD, varD, hvar, rAdd, rAddL, rAddT, rAddS, rSub, rMul, rPow, aAdd, aSub, aAddS, cLt, cLe, cGt, cGe, cEqI, cNeI, cEqB, cNeB, truI, truB, truL, truT, truN, intI, ixL, ixT, atN, atL, atM, atPlus, atPlus2, fdiv_pos, mod_pos, Int.reduceLT, Int.reduceLE, Int.reduceEq, Int.reduceMod, Int.reduceDiv, Nat.reduceLT, fnLenL, fnLenT, fnLenF, fnLenS, fnAbs, fnInt, fnList, fnListT, fnTuple, fnTupleT, fnMax2, fnMin2, fnSumL, fnSumT, fnMaxL, fnMaxT, fnMinL, fnMinT, fnAllL, fnAnyL, fnIsNone, fnNotNone, fnIsInt, fnIsBool, fnIsStr, fnIsTup, nN, nI, nB, nS, nL, nT, itmL, itmT, itmS, enmL', enmS', lckV, slcT, slcL, slcS, rgD_nat, rgD_pred, rgD_succ, setIxE, intsOf_ints, boolsOf_bools, strsOf_strs, List.getElem?_cons_succ, List.getElem?_cons_zero, List.set_cons_succ, List.set_cons_zero, List.getElem?_map, List.length_map, List.length_cons, List.length_nil, List.length_append, List.map_append, Option.bind_some, Option.bind_none, Option.map_some, Option.map_none, if_true, if_false, ite_true, ite_false, if_false_right, decide_eq_true_eq, Bool.not_eq_true', decide_eq_false_iff_not, Bool.not_eq_true, reduceCtorEq, reduceIte, ne_eq, not_false_eq_true, not_true_eq_false, true_and, and_true, false_and, and_false, implies_true, Bool.false_eq_true, List.isEmpty_cons, List.isEmpty_nil, Bool.not_true, Bool.not_false, List.map_cons, List.map_nil, List.cons_append, List.nil_append, List.replicate_succ, List.replicate_zero, Nat.reduceSub, Nat.reduceAdd, Nat.reduceMul, Int.reduceSub, Int.reduceNeg, Int.reduceAdd, Int.reduceMul, Int.reducePow, Int.reduceToNat, Nat.reduceLeDiff, lock, unls, unl, wip, rsto, fzO, frz, noal, lfree, lfrees, lfrees_ints, aft, Bool.and_self, Bool.and_true, Bool.true_and, ahead_ok (show 1 ≤ k by omega) (.list (now.map .int)) now b (.inr rfl) hn hnl]
        refine Wp.lcF (as := (ah now b).zipIdx) (enc := fun x => .tuple [.int x.2, .int x.1]) (fun x => decide (0 < x.1)) (fun x => .int x.2)
          [.sh (T a), .sh (T b), .ow (now.map .int), .ow (ps.map .int), .lk ((ah now b).map .int), .un, .un, .un] [.sh (T a), .sh (T b), .ow (now.map .int), .ow (ps.map .int), .ow ((ah now b).map .int), .un, .un, .un] ?_ (by rw [List.length_zipIdx, ah_len]; omega) ?_ ?_
        · simp -implicitDefEqProofs only [↓Wp_def, Wp_some, Wp_none, Wp_bind, Wp_ite, Wp_map, wNil, wEx, wAsg, wApp, wSto, wAug, augD, augK_some, augK_none, stE, wAugs, wRetV, wRet, wRetn, wIfe, FQ_nx, FQ_rt, eCon, eVar, eBin, eNeg, eNott, eAndd, eOrr, eCmp, eChain, eChain3, eIte, eTup, eLst, eIdx, eIdxm, eLenset, eJoin, eSlc, eRev, eCall, eFn, ePop, ePopAt, tVal, tAndd, tOrr, tNott, toNone, toSome, oNone, oSome, esNil, esCons, hsNil, hsCons, hVar, hCon, hBin, hNeg, hNott, hAndd, hOrr, hCmp, hChain, hChain3, hIte, hTup, hLst, hIdx, hIdxm, hLenset, hJoin, hSlc, hRev, hCall, hFn, hLc, hGq, hPop, hPopAt, iSeq, iRng1, iRng2, iEnm, iZip, RV.fetch, fetchs, asn1, asnT, asnN, asnC, lkU, lkS, lkO, lkL, slF, slL, leC, leUs, leUo, leN, PyData.int.injEq, PyData.bool.injEq, PyData.str.injEq, PyData.tuple.injEq, PyData.list.injEq, Prod.mk.injEq, List.cons.injEq, Sum.inl.injEq, Option.some.injEq, leS, leO, leL, ow?, retD, varD, hvar, rAdd, rAddL, rAddT, rAddS, rSub, rMul, rPow, aAdd, aSub, aAddS, cLt, cLe, cGt, cGe, cEqI, cNeI, cEqB, cNeB, truI, truB, truL, truT, truN, intI, ixL, ixT, atN, atL, atM, atPlus, atPlus2, fdiv_pos, mod_pos, Int.reduceLT, Int.reduceLE, Int.reduceEq, Int.reduceMod, Int.reduceDiv, Nat.reduceLT, fnLenL, fnLenT, fnLenF, fnLenS, fnAbs, fnInt, fnList, fnListT, fnTuple, fnTupleT, fnMax2, fnMin2, fnSumL, fnSumT, fnMaxL, fnMaxT, fnMinL, fnMinT, fnAllL, fnAnyL, fnIsNone, fnNotNone, fnIsInt, fnIsBool, fnIsStr, fnIsTup, nN, nI, nB, nS, nL, nT, itmL, itmT, itmS, enmL', enmS', lckV, slcT, slcL, slcS, rgD_nat, rgD_pred, rgD_succ, setIxE, intsOf_ints, boolsOf_bools, strsOf_strs, List.getElem?_cons_succ, List.getElem?_cons_zero, List.set_cons_succ, List.set_cons_zero, List.getElem?_map, List.length_map, List.length_cons, List.length_nil, List.length_append, List.map_append, Option.bind_some, Option.bind_none, Option.map_some, Option.map_none, if_true, if_false, ite_true, ite_false, if_false_right, decide_eq_true_eq, Bool.not_eq_true', decide_eq_false_iff_not, Bool.not_eq_true, reduceCtorEq, reduceIte, ne_eq, not_false_eq_true, not_true_eq_false, true_and, and_true, false_and, and_false, implies_true, Bool.false_eq_true, List.isEmpty_cons, List.isEmpty_nil, Bool.not_true, Bool.not_false, List.map_cons, List.map_nil, List.cons_append, List.nil_append, List.replicate_succ, List.replicate_zero, Nat.reduceSub, Nat.reduceAdd, Nat.reduceMul, Int.reduceSub, Int.reduceNeg, Int.reduceAdd, Int.reduceMul, Int.reducePow, Int.reduceToNat, Nat.reduceLeDiff, lock, unls, unl, wip, rsto, fzO, frz, noal, lfree, lfrees, lfrees_ints, aft, Bool.and_self, Bool.and_true, Bool.true_and, enm_ints]
        · intro x hx
          simp -implicitDefEqProofs only [↓Wp_def, Wp_some, Wp_none, Wp_bind, Wp_ite, Wp_map, wNil, wEx, wAsg, wApp, wSto, wAug, augD, augK_some, augK_none, stE, wAugs, wRetV, wRet, wRetn, wIfe, FQ_nx, FQ_rt, eCon, eVar, eBin, eNeg, eNott, eAndd, eOrr, eCmp, eChain, eChain3, eIte, eTup, eLst, eIdx, eIdxm, eLenset, eJoin, eSlc, eRev, eCall, eFn, ePop, ePopAt, tVal, tAndd, tOrr, tNott, toNone, toSome, oNone, oSome, esNil, esCons, hsNil, hsCons, hVar, hCon, hBin, hNeg, hNott, hAndd, hOrr, hCmp, hChain, hChain3, hIte, hTup, hLst, hIdx, hIdxm, hLenset, hJoin, hSlc, hRev, hCall, hFn, hLc, hGq, hPop, hPopAt, iSeq, iRng1, iRng2, iEnm, iZip, RV.fetch, fetchs, asn1, asnT, asnN, asnC, lkU, lkS, lkO, lkL, slF, slL, leC, leUs, leUo, leN, PyData.int.injEq, PyData.bool.injEq, PyData.str.injEq, PyData.tuple.injEq, PyData.list.injEq, Prod.mk.injEq, List.cons.injEq, Sum.inl.injEq, Option.some.injEq, leS, leO, leL, ow?, retD, varD, hvar, rAdd, rAddL, rAddT, rAddS, rSub, rMul, rPow, aAdd, aSub, aAddS, cLt, cLe, cGt, cGe, cEqI, cNeI, cEqB, cNeB, truI, truB, truL, truT, truN, intI, ixL, ixT, atN, atL, atM, atPlus, atPlus2, fdiv_pos, mod_pos, Int.reduceLT, Int.reduceLE, Int.reduceEq, Int.reduceMod, Int.reduceDiv, Nat.reduceLT, fnLenL, fnLenT, fnLenF, fnLenS, fnAbs, fnInt, fnList, fnListT, fnTuple, fnTupleT, fnMax2, fnMin2, fnSumL, fnSumT, fnMaxL, fnMaxT, fnMinL, fnMinT, fnAllL, fnAnyL, fnIsNone, fnNotNone, fnIsInt, fnIsBool, fnIsStr, fnIsTup, nN, nI, nB, nS, nL, nT, itmL, itmT, itmS, enmL', enmS', lckV, slcT, slcL, slcS, rgD_nat, rgD_pred, rgD_succ, setIxE, intsOf_ints, boolsOf_bools, strsOf_strs, List.getElem?_cons_succ, List.getElem?_cons_zero, List.set_cons_succ, List.set_cons_zero, List.getElem?_map, List.length_map, List.length_cons, List.length_nil, List.length_append, List.map_append, Option.bind_some, Option.bind_none, Option.map_some, Option.map_none, if_true, if_false, ite_true, ite_false, if_false_right, decide_eq_true_eq, Bool.not_eq_true', decide_eq_false_iff_not, Bool.not_eq_true, reduceCtorEq, reduceIte, ne_eq, not_false_eq_true, not_true_eq_false, true_and, and_true, false_and, and_false, implies_true, Bool.false_eq_true, List.isEmpty_cons, List.isEmpty_nil, Bool.not_true, Bool.not_false, List.map_cons, List.map_nil, List.cons_append, List.nil_append, List.replicate_succ, List.replicate_zero, Nat.reduceSub, Nat.reduceAdd, Nat.reduceMul, Int.reduceSub, Int.reduceNeg, Int.reduceAdd, Int.reduceMul, Int.reducePow, Int.reduceToNat, Nat.reduceLeDiff, lock, unls, unl, wip, rsto, fzO, frz, noal, lfree, lfrees, lfrees_ints, aft, Bool.and_self, Bool.and_true, Bool.true_and]
          split <;> trivial
        · have e1 := filt_enum now b
          rw [hf] at e1
          have hpl : ps.length < sizeLine := szL (by
            have := tot_nonneg w
            omega)
          have hp0' : p < (now.map PyData.int).length := by rw [List.length_map]; exact hp0
          have pc : ((p : Int) + 1) = ((p + 1 : Nat) : Int) := by omega
          have g1 : ((now.map PyData.int).set p (PyData.int (now[p] - 1)))[p + 1]? = some (.int now[p + 1]) := by
            rw [List.getElem?_set_ne (by omega), List.getElem?_map, List.getElem?_eq_getElem hp1]
            rfl
          have g2 : ((now.map PyData.int).set p (PyData.int (now[p] - 1))).set (p + 1) (PyData.int (now[p + 1] + 1)) = (nud now p).map .int := by
            rw [← nud_at now p hp1, List.map_set, List.map_set]
          simp -implicitDefEqProofs only [↓Wp_def, Wp_some, Wp_none, Wp_bind, Wp_ite, Wp_map, wNil, wEx, wAsg, wApp, wSto, wAug, augD, augK_some, augK_none, stE, wAugs, wRetV, wRet, wRetn, wIfe, FQ_nx, FQ_rt, eCon, eVar, eBin, eNeg, eNott, eAndd, eOrr, eCmp, eChain, eChain3, eIte, eTup, eLst, eIdx, eIdxm, eLenset, eJoin, eSlc, eRev, eCall, eFn, ePop, ePopAt, tVal, tAndd, tOrr, tNott, toNone, toSome, oNone, oSome, esNil, esCons, hsNil, hsCons, hVar, hCon, hBin, hNeg, hNott, hAndd, hOrr, hCmp, hChain, hChain3, hIte, hTup, hLst, hIdx, hIdxm, hLenset, hJoin, hSlc, hRev, hCall, hFn, hLc, hGq, hPop, hPopAt, iSeq, iRng1, iRng2, iEnm, iZip, RV.fetch, fetchs, asn1, asnT, asnN, asnC, lkU, lkS, lkO, lkL, slF, slL, leC, leUs, leUo, leN, PyData.int.injEq, PyData.bool.injEq, PyData.str.injEq, PyData.tuple.injEq, PyData.list.injEq, Prod.mk.injEq, List.cons.injEq, Sum.inl.injEq, Option.some.injEq, leS, leO, leL, ow?, retD, varD, hvar, rAdd, rAddL, rAddT, rAddS, rSub, rMul, rPow, aAdd, aSub, aAddS, cLt, cLe, cGt, cGe, cEqI, cNeI, cEqB, cNeB, truI, truB, truL, truT, truN, intI, ixL, ixT, atN, atL, atM, atPlus, atPlus2, fdiv_pos, mod_pos, Int.reduceLT, Int.reduceLE, Int.reduceEq, Int.reduceMod, Int.reduceDiv, Nat.reduceLT, fnLenL, fnLenT, fnLenF, fnLenS, fnAbs, fnInt, fnList, fnListT, fnTuple, fnTupleT, fnMax2, fnMin2, fnSumL, fnSumT, fnMaxL, fnMaxT, fnMinL, fnMinT, fnAllL, fnAnyL, fnIsNone, fnNotNone, fnIsInt, fnIsBool, fnIsStr, fnIsTup, nN, nI, nB, nS, nL, nT, itmL, itmT, itmS, enmL', enmS', lckV, slcT, slcL, slcS, rgD_nat, rgD_pred, rgD_succ, setIxE, intsOf_ints, boolsOf_bools, strsOf_strs, List.getElem?_cons_succ, List.getElem?_cons_zero, List.set_cons_succ, List.set_cons_zero, List.getElem?_map, List.length_map, List.length_cons, List.length_nil, List.length_append, List.map_append, Option.bind_some, Option.bind_none, Option.map_some, Option.map_none, if_true, if_false, ite_true, ite_false, if_false_right, decide_eq_true_eq, Bool.not_eq_true', decide_eq_false_iff_not, Bool.not_eq_true, reduceCtorEq, reduceIte, ne_eq, not_false_eq_true, not_true_eq_false, true_and, and_true, false_and, and_false, implies_true, Bool.false_eq_true, List.isEmpty_cons, List.isEmpty_nil, Bool.not_true, Bool.not_false, List.map_cons, List.map_nil, List.cons_append, List.nil_append, List.replicate_succ, List.replicate_zero, Nat.reduceSub, Nat.reduceAdd, Nat.reduceMul, Int.reduceSub, Int.reduceNeg, Int.reduceAdd, Int.reduceMul, Int.reducePow, Int.reduceToNat, Nat.reduceLeDiff, lock, unls, unl, wip, rsto, fzO, frz, noal, lfree, lfrees, lfrees_ints, aft, Bool.and_self, Bool.and_true, Bool.true_and, e1, List.getElem?_eq_getElem hp0, ixNn hp0, g1, g2, pc, List.length_set, ixNn hp1, hpl]
          refine ⟨(nud now p, ps ++ [(p : Int)]), ?_, ⟨way_nud w hp1 hp2, ?_, ?_⟩, ?_⟩
          · show (tot (nud now p) b).toNat < (tot now b).toNat
            have := tot_nonneg (way_nud w hp1 hp2)
            rw [tot_nud now b p hp1] at this ⊢
            omega
          · show led a (ps ++ [(p : Int)]) = some (nud now p)
            rw [led_append, hled]
            show led now [(p : Int)] = _
            have hb0 : 0 ≤ (b[p]?).getD 0 := by
              cases hbp : b[p]? with
              | none => simp
              | some z => exact hb z (List.mem_of_getElem? hbp)
            simp only [led, Int.toNat_natCast]
            rw [if_neg (by omega)]
          · show ((ps ++ [(p : Int)]).length : Int) = tot a b - tot (nud now p) b
            rw [tot_nud now b p hp1, List.length_append]
            simp
            omega
          · simp -implicitDefEqProofs only [↓Wp_def, Wp_some, Wp_none, Wp_bind, Wp_ite, Wp_map, wNil, wEx, wAsg, wApp, wSto, wAug, augD, augK_some, augK_none, stE, wAugs, wRetV, wRet, wRetn, wIfe, FQ_nx, FQ_rt, eCon, eVar, eBin, eNeg, eNott, eAndd, eOrr, eCmp, eChain, eChain3, eIte, eTup, eLst, eIdx, eIdxm, eLenset, eJoin, eSlc, eRev, eCall, eFn, ePop, ePopAt, tVal, tAndd, tOrr, tNott, toNone, toSome, oNone, oSome, esNil, esCons, hsNil, hsCons, hVar, hCon, hBin, hNeg, hNott, hAndd, hOrr, hCmp, hChain, hChain3, hIte, hTup, hLst, hIdx, hIdxm, hLenset, hJoin, hSlc, hRev, hCall, hFn, hLc, hGq, hPop, hPopAt, iSeq, iRng1, iRng2, iEnm, iZip, RV.fetch, fetchs, asn1, asnT, asnN, asnC, lkU, lkS, lkO, lkL, slF, slL, leC, leUs, leUo, leN, PyData.int.injEq, PyData.bool.injEq, PyData.str.injEq, PyData.tuple.injEq, PyData.list.injEq, Prod.mk.injEq, List.cons.injEq, Sum.inl.injEq, Option.some.injEq, leS, leO, leL, ow?, retD, varD, hvar, rAdd, rAddL, rAddT, rAddS, rSub, rMul, rPow, aAdd, aSub, aAddS, cLt, cLe, cGt, cGe, cEqI, cNeI, cEqB, cNeB, truI, truB, truL, truT, truN, intI, ixL, ixT, atN, atL, atM, atPlus, atPlus2, fdiv_pos, mod_pos, Int.reduceLT, Int.reduceLE, Int.reduceEq, Int.reduceMod, Int.reduceDiv, Nat.reduceLT, fnLenL, fnLenT, fnLenF, fnLenS, fnAbs, fnInt, fnList, fnListT, fnTuple, fnTupleT, fnMax2, fnMin2, fnSumL, fnSumT, fnMaxL, fnMaxT, fnMinL, fnMinT, fnAllL, fnAnyL, fnIsNone, fnNotNone, fnIsInt, fnIsBool, fnIsStr, fnIsTup, nN, nI, nB, nS, nL, nT, itmL, itmT, itmS, enmL', enmS', lckV, slcT, slcL, slcS, rgD_nat, rgD_pred, rgD_succ, setIxE, intsOf_ints, boolsOf_bools, strsOf_strs, List.getElem?_cons_succ, List.getElem?_cons_zero, List.set_cons_succ, List.set_cons_zero, List.getElem?_map, List.length_map, List.length_cons, List.length_nil, List.length_append, List.map_append, Option.bind_some, Option.bind_none, Option.map_some, Option.map_none, if_true, if_false, ite_true, ite_false, if_false_right, decide_eq_true_eq, Bool.not_eq_true', decide_eq_false_iff_not, Bool.not_eq_true, reduceCtorEq, reduceIte, ne_eq, not_false_eq_true, not_true_eq_false, true_and, and_true, false_and, and_false, implies_true, Bool.false_eq_true, List.isEmpty_cons, List.isEmpty_nil, Bool.not_true, Bool.not_false, List.map_cons, List.map_nil, List.cons_append, List.nil_append, List.replicate_succ, List.replicate_zero, Nat.reduceSub, Nat.reduceAdd, Nat.reduceMul, Int.reduceSub, Int.reduceNeg, Int.reduceAdd, Int.reduceMul, Int.reducePow, Int.reduceToNat, Nat.reduceLeDiff, lock, unls, unl, wip, rsto, fzO, frz, noal, lfree, lfrees, lfrees_ints, aft, Bool.and_self, Bool.and_true, Bool.true_and]
  obtain ⟨x, h1, ps, h2, h3, h4⟩ := main
  exact ⟨ps, h2, h3, by rw [h1, h4]⟩
end KX

namespace KX
open PySem RV K73
def optT : Option (List Int) → PyData
  | none => .none
  | some l => T l
/-- one step of the way, or not -/
theorem led_cons (now : List Int) (z : Int) (q : List Int) : led now (z :: q) = if z < 0 ∨ (now.length : Int) ≤ z + 1 ∨ (now[z.toNat]?).getD 0 = 0 then none else led (nud now z.toNat) q := rfl
theorem walk_step {now : List Int} {z : Int} (h1 : ¬ z < 0) (h2 : ¬ (now.length : Int) ≤ z + 1) : ∃ p : Nat, z = p ∧ p + 1 < now.length := ⟨z.toNat, by omega, by omega⟩
theorem nudge_sets (now : List Int) (p : Nat) (hp1 : p + 1 < now.length) : ((now.map PyData.int).set p (PyData.int (now[p]'(by omega) - 1)))[p + 1]? = some (.int now[p + 1]) ∧ ((now.map PyData.int).set p (PyData.int (now[p]'(by omega) - 1))).set (p + 1) (PyData.int (now[p + 1] + 1)) = (nud now p).map .int := by
  constructor
  · rw [List.getElem?_set_ne (by omega), List.getElem?_map, List.getElem?_eq_getElem hp1]
    rfl
  · rw [← nud_at now p hp1, List.map_set, List.map_set]
theorem afterN_ok {k : Nat} (hk : 1 ≤ k) (a ps : List Int) (h1 : a.length ≤ 1000) : run prog wf k 3 [T a, T ps] = some (optT (led a ps), false) := by
  refine run_eq (d := 0) (p := c3) rfl hk fun k _ => Wp.fn rfl ?_
  unfold c3
  simp -implicitDefEqProofs only [↓Wp_def, Wp_some, Wp_none, Wp_bind, Wp_ite, Wp_map, wNil, wEx, wAsg, wApp, wSto, wAug, augD, augK_some, augK_none, stE, wAugs, wRetV, wRet, wRetn, wIfe, FQ_nx, FQ_rt, eCon, eVar, eBin, eNeg, eNott, eAndd, eOrr, eCmp, eChain, eChain3, eIte, eTup, eLst, eIdx, eIdxm, eLenset, eJoin, eSlc, eRev, eCall, eFn, ePop, ePopAt, tVal, tAndd, tOrr, tNott, toNone, toSome, oNone, oSome, esNil, esCons, hsNil, hsCons, hVar, hCon, hBin, hNeg, hNott, hAndd, hOrr, hCmp, hChain, hChain3, hIte, hTup, hLst, hIdx, hIdxm, hLenset, hJoin, hSlc, hRev, hCall, hFn, hLc, hGq, hPop, hPopAt, iSeq, iRng1, iRng2, iEnm, iZip, RV.fetch, fetchs, asn1, asnT, asnN, asnC, lkU, lkS, lkO, lkL, slF, slL, leC, leUs, leUo, leN, PyData.int.injEq, PyData.bool.injEq, PyData.str.injEq, PyData.tuple.injEq, PyData.list.injEq, Prod.mk.injEq, List.cons.injEq, Sum.inl.injEq, Option.some.injEq, leS, leO, leL, ow?, retD, varD, hvar, rAdd, rAddL, rAddT, rAddS, rSub, rMul, rPow, aAdd, aSub, aAddS, cLt, cLe, cGt, cGe, cEqI, cNeI, cEqB, cNeB, truI, truB, truL, truT, truN, intI, ixL, ixT, atN, atL, atM, atPlus, atPlus2, fdiv_pos, mod_pos, Int.reduceLT, Int.reduceLE, Int.reduceEq, Int.reduceMod, Int.reduceDiv, Nat.reduceLT, fnLenL, fnLenT, fnLenF, fnLenS, fnAbs, fnInt, fnList, fnListT, fnTuple, fnTupleT, fnMax2, fnMin2, fnSumL, fnSumT, fnMaxL, fnMaxT, fnMinL, fnMinT, fnAllL, fnAnyL, fnIsNone, fnNotNone, fnIsInt, fnIsBool, fnIsStr, fnIsTup, nN, nI, nB, nS, nL, nT, itmL, itmT, itmS, enmL', enmS', lckV, slcT, slcL, slcS, rgD_nat, rgD_pred, rgD_succ, setIxE, intsOf_ints, boolsOf_bools, strsOf_strs, List.getElem?_cons_succ, List.getElem?_cons_zero, List.set_cons_succ, List.set_cons_zero, List.getElem?_map, List.length_map, List.length_cons, List.length_nil, List.length_append, List.map_append, Option.bind_some, Option.bind_none, Option.map_some, Option.map_none, if_true, if_false, ite_true, ite_false, if_false_right, decide_eq_true_eq, Bool.not_eq_true', decide_eq_false_iff_not, Bool.not_eq_true, reduceCtorEq, reduceIte, ne_eq, not_false_eq_true, not_true_eq_false, true_and, and_true, false_and, and_false, implies_true, Bool.false_eq_true, List.isEmpty_cons, List.isEmpty_nil, Bool.not_true, Bool.not_false, List.map_cons, List.map_nil, List.cons_append, List.nil_append, List.replicate_succ, List.replicate_zero, Nat.reduceSub, Nat.reduceAdd, Nat.reduceMul, Int.reduceSub, Int.reduceNeg, Int.reduceAdd, Int.reduceMul, Int.reducePow, Int.reduceToNat, Nat.reduceLeDiff, lock, unls, unl, wip, rsto, fzO, frz, noal, lfree, lfrees, lfrees_ints, aft, Bool.and_self, Bool.and_true, Bool.true_and]
  refine Wp.forS (as := ps) (enc := .int) (σ := List Int) [] (fun p s => led a p = some s) (fun _ s => [.sh (T a), .sh (T ps), .ow (s.map .int), .un]) a ?_ ?_ ?_ cl_const
  · simp -implicitDefEqProofs only [↓Wp_def, Wp_some, Wp_none, Wp_bind, Wp_ite, Wp_map, wNil, wEx, wAsg, wApp, wSto, wAug, augD, augK_some, augK_none, stE, wAugs, wRetV, wRet, wRetn, wIfe, FQ_nx, FQ_rt, eCon, eVar, eBin, eNeg, eNott, eAndd, eOrr, eCmp, eChain, eChain3, eIte, eTup, eLst, eIdx, eIdxm, eLenset, eJoin, eSlc, eRev, eCall, eFn, ePop, ePopAt, tVal, tAndd, tOrr, tNott, toNone, toSome, oNone, oSome, esNil, esCons, hsNil, hsCons, hVar, hCon, hBin, hNeg, hNott, hAndd, hOrr, hCmp, hChain, hChain3, hIte, hTup, hLst, hIdx, hIdxm, hLenset, hJoin, hSlc, hRev, hCall, hFn, hLc, hGq, hPop, hPopAt, iSeq, iRng1, iRng2, iEnm, iZip, RV.fetch, fetchs, asn1, asnT, asnN, asnC, lkU, lkS, lkO, lkL, slF, slL, leC, leUs, leUo, leN, PyData.int.injEq, PyData.bool.injEq, PyData.str.injEq, PyData.tuple.injEq, PyData.list.injEq, Prod.mk.injEq, List.cons.injEq, Sum.inl.injEq, Option.some.injEq, leS, leO, leL, ow?, retD, varD, hvar, rAdd, rAddL, rAddT, rAddS, rSub, rMul, rPow, aAdd, aSub, aAddS, cLt, cLe, cGt, cGe, cEqI, cNeI, cEqB, cNeB, truI, truB, truL, truT, truN, intI, ixL, ixT, atN, atL, atM, atPlus, atPlus2, fdiv_pos, mod_pos, Int.reduceLT, Int.reduceLE, Int.reduceEq, Int.reduceMod, Int.reduceDiv, Nat.reduceLT, fnLenL, fnLenT, fnLenF, fnLenS, fnAbs, fnInt, fnList, fnListT, fnTuple, fnTupleT, fnMax2, fnMin2, fnSumL, fnSumT, fnMaxL, fnMaxT, fnMinL, fnMinT, fnAllL, fnAnyL, fnIsNone, fnNotNone, fnIsInt, fnIsBool, fnIsStr, fnIsTup, nN, nI, nB, nS, nL, nT, itmL, itmT, itmS, enmL', enmS', lckV, slcT, slcL, slcS, rgD_nat, rgD_pred, rgD_succ, setIxE, intsOf_ints, boolsOf_bools, strsOf_strs, List.getElem?_cons_succ, List.getElem?_cons_zero, List.set_cons_succ, List.set_cons_zero, List.getElem?_map, List.length_map, List.length_cons, List.length_nil, List.length_append, List.map_append, Option.bind_some, Option.bind_none, Option.map_some, Option.map_none, if_true, if_false, ite_true, ite_false, if_false_right, decide_eq_true_eq, Bool.not_eq_true', decide_eq_false_iff_not, Bool.not_eq_true, reduceCtorEq, reduceIte, ne_eq, not_false_eq_true, not_true_eq_false, true_and, and_true, false_and, and_false, implies_true, Bool.false_eq_true, List.isEmpty_cons, List.isEmpty_nil, Bool.not_true, Bool.not_false, List.map_cons, List.map_nil, List.cons_append, List.nil_append, List.replicate_succ, List.replicate_zero, Nat.reduceSub, Nat.reduceAdd, Nat.reduceMul, Int.reduceSub, Int.reduceNeg, Int.reduceAdd, Int.reduceMul, Int.reducePow, Int.reduceToNat, Nat.reduceLeDiff, lock, unls, unl, wip, rsto, fzO, frz, noal, lfree, lfrees, lfrees_ints, aft, Bool.and_self, Bool.and_true, Bool.true_and]
    rfl
  · intro p z q now hpq hled
    have hn := led_len a p now hled
    have hfin : led a ps = led now (z :: q) := by rw [hpq, led_append, hled]; rfl
    simp -implicitDefEqProofs only [↓Wp_def, Wp_some, Wp_none, Wp_bind, Wp_ite, Wp_map, wNil, wEx, wAsg, wApp, wSto, wAug, augD, augK_some, augK_none, stE, wAugs, wRetV, wRet, wRetn, wIfe, FQ_nx, FQ_rt, eCon, eVar, eBin, eNeg, eNott, eAndd, eOrr, eCmp, eChain, eChain3, eIte, eTup, eLst, eIdx, eIdxm, eLenset, eJoin, eSlc, eRev, eCall, eFn, ePop, ePopAt, tVal, tAndd, tOrr, tNott, toNone, toSome, oNone, oSome, esNil, esCons, hsNil, hsCons, hVar, hCon, hBin, hNeg, hNott, hAndd, hOrr, hCmp, hChain, hChain3, hIte, hTup, hLst, hIdx, hIdxm, hLenset, hJoin, hSlc, hRev, hCall, hFn, hLc, hGq, hPop, hPopAt, iSeq, iRng1, iRng2, iEnm, iZip, RV.fetch, fetchs, asn1, asnT, asnN, asnC, lkU, lkS, lkO, lkL, slF, slL, leC, leUs, leUo, leN, PyData.int.injEq, PyData.bool.injEq, PyData.str.injEq, PyData.tuple.injEq, PyData.list.injEq, Prod.mk.injEq, List.cons.injEq, Sum.inl.injEq, Option.some.injEq, leS, leO, leL, ow?, retD, varD, hvar, rAdd, rAddL, rAddT, rAddS, rSub, rMul, rPow, aAdd, aSub, aAddS, cLt, cLe, cGt, cGe, cEqI, cNeI, cEqB, cNeB, truI, truB, truL, truT, truN, intI, ixL, ixT, atN, atL, atM, atPlus, atPlus2, fdiv_pos, mod_pos, Int.reduceLT, Int.reduceLE, Int.reduceEq, Int.reduceMod, Int.reduceDiv, Nat.reduceLT, fnLenL, fnLenT, fnLenF, fnLenS, fnAbs, fnInt, fnList, fnListT, fnTuple, fnTupleT, fnMax2, fnMin2, fnSumL, fnSumT, fnMaxL, fnMaxT, fnMinL, fnMinT, fnAllL, fnAnyL, fnIsNone, fnNotNone, fnIsInt, fnIsBool, fnIsStr, fnIsTup, nN, nI, nB, nS, nL, nT, itmL, itmT, itmS, enmL', enmS', lckV, slcT, slcL, slcS, rgD_nat, rgD_pred, rgD_succ, setIxE, intsOf_ints, boolsOf_bools, strsOf_strs, List.getElem?_cons_succ, List.getElem?_cons_zero, List.set_cons_succ, List.set_cons_zero, List.getElem?_map, List.length_map, List.length_cons, List.length_nil, List.length_append, List.map_append, Option.bind_some, Option.bind_none, Option.map_some, Option.map_none, if_true, if_false, ite_true, ite_false, if_false_right, decide_eq_true_eq, Bool.not_eq_true', decide_eq_false_iff_not, Bool.not_eq_true, reduceCtorEq, reduceIte, ne_eq, not_false_eq_true, not_true_eq_false, true_and, and_true, false_and, and_false, implies_true, Bool.false_eq_true, List.isEmpty_cons, List.isEmpty_nil, Bool.not_true, Bool.not_false, List.map_cons, List.map_nil, List.cons_append, List.nil_append, List.replicate_succ, List.replicate_zero, Nat.reduceSub, Nat.reduceAdd, Nat.reduceMul, Int.reduceSub, Int.reduceNeg, Int.reduceAdd, Int.reduceMul, Int.reducePow, Int.reduceToNat, Nat.reduceLeDiff, lock, unls, unl, wip, rsto, fzO, frz, noal, lfree, lfrees, lfrees_ints, aft, Bool.and_self, Bool.and_true, Bool.true_and]
    by_cases c1 : z < 0
    · have c1' : ¬ 0 ≤ z := by omega
      simp -implicitDefEqProofs only [↓Wp_def, Wp_some, Wp_none, Wp_bind, Wp_ite, Wp_map, wNil, wEx, wAsg, wApp, wSto, wAug, augD, augK_some, augK_none, stE, wAugs, wRetV, wRet, wRetn, wIfe, FQ_nx, FQ_rt, eCon, eVar, eBin, eNeg, eNott, eAndd, eOrr, eCmp, eChain, eChain3, eIte, eTup, eLst, eIdx, eIdxm, eLenset, eJoin, eSlc, eRev, eCall, eFn, ePop, ePopAt, tVal, tAndd, tOrr, tNott, toNone, toSome, oNone, oSome, esNil, esCons, hsNil, hsCons, hVar, hCon, hBin, hNeg, hNott, hAndd, hOrr, hCmp, hChain, hChain3, hIte, hTup, hLst, hIdx, hIdxm, hLenset, hJoin, hSlc, hRev, hCall, hFn, hLc, hGq, hPop, hPopAt, iSeq, iRng1, iRng2, iEnm, iZip, RV.fetch, fetchs, asn1, asnT, asnN, asnC, lkU, lkS, lkO, lkL, slF, slL, leC, leUs, leUo, leN, PyData.int.injEq, PyData.bool.injEq, PyData.str.injEq, PyData.tuple.injEq, PyData.list.injEq, Prod.mk.injEq, List.cons.injEq, Sum.inl.injEq, Option.some.injEq, leS, leO, leL, ow?, retD, varD, hvar, rAdd, rAddL, rAddT, rAddS, rSub, rMul, rPow, aAdd, aSub, aAddS, cLt, cLe, cGt, cGe, cEqI, cNeI, cEqB, cNeB, truI, truB, truL, truT, truN, intI, ixL, ixT, atN, atL, atM, atPlus, atPlus2, fdiv_pos, mod_pos, Int.reduceLT, Int.reduceLE, Int.reduceEq, Int.reduceMod, Int.reduceDiv, Nat.reduceLT, fnLenL, fnLenT, fnLenF, fnLenS, fnAbs, fnInt, fnList, fnListT, fnTuple, fnTupleT, fnMax2, fnMin2, fnSumL, fnSumT, fnMaxL, fnMaxT, fnMinL, fnMinT, fnAllL, fnAnyL, fnIsNone, fnNotNone, fnIsInt, fnIsBool, fnIsStr, fnIsTup, nN, nI, nB, nS, nL, nT, itmL, itmT, itmS, enmL', enmS', lckV, slcT, slcL, slcS, rgD_nat, rgD_pred, rgD_succ, setIxE, intsOf_ints, boolsOf_bools, strsOf_strs, List.getElem?_cons_succ, List.getElem?_cons_zero, List.set_cons_succ, List.set_cons_zero, List.getElem?_map, List.length_map, List.length_cons, List.length_nil, List.length_append, List.map_append, Option.bind_some, Option.bind_none, Option.map_some, Option.map_none, if_true, if_false, ite_true, ite_false, if_false_right, decide_eq_true_eq, Bool.not_eq_true', decide_eq_false_iff_not, Bool.not_eq_true, reduceCtorEq, reduceIte, ne_eq, not_false_eq_true, not_true_eq_false, true_and, and_true, false_and, and_false, implies_true, Bool.false_eq_true, List.isEmpty_cons, List.isEmpty_nil, Bool.not_true, Bool.not_false, List.map_cons, List.map_nil, List.cons_append, List.nil_append, List.replicate_succ, List.replicate_zero, Nat.reduceSub, Nat.reduceAdd, Nat.reduceMul, Int.reduceSub, Int.reduceNeg, Int.reduceAdd, Int.reduceMul, Int.reducePow, Int.reduceToNat, Nat.reduceLeDiff, lock, unls, unl, wip, rsto, fzO, frz, noal, lfree, lfrees, lfrees_ints, aft, Bool.and_self, Bool.and_true, Bool.true_and, c1', decide_false]
      rw [hfin, led_cons, if_pos (.inl c1)]
      rfl
    · have c1' : 0 ≤ z := by omega
      simp -implicitDefEqProofs only [↓Wp_def, Wp_some, Wp_none, Wp_bind, Wp_ite, Wp_map, wNil, wEx, wAsg, wApp, wSto, wAug, augD, augK_some, augK_none, stE, wAugs, wRetV, wRet, wRetn, wIfe, FQ_nx, FQ_rt, eCon, eVar, eBin, eNeg, eNott, eAndd, eOrr, eCmp, eChain, eChain3, eIte, eTup, eLst, eIdx, eIdxm, eLenset, eJoin, eSlc, eRev, eCall, eFn, ePop, ePopAt, tVal, tAndd, tOrr, tNott, toNone, toSome, oNone, oSome, esNil, esCons, hsNil, hsCons, hVar, hCon, hBin, hNeg, hNott, hAndd, hOrr, hCmp, hChain, hChain3, hIte, hTup, hLst, hIdx, hIdxm, hLenset, hJoin, hSlc, hRev, hCall, hFn, hLc, hGq, hPop, hPopAt, iSeq, iRng1, iRng2, iEnm, iZip, RV.fetch, fetchs, asn1, asnT, asnN, asnC, lkU, lkS, lkO, lkL, slF, slL, leC, leUs, leUo, leN, PyData.int.injEq, PyData.bool.injEq, PyData.str.injEq, PyData.tuple.injEq, PyData.list.injEq, Prod.mk.injEq, List.cons.injEq, Sum.inl.injEq, Option.some.injEq, leS, leO, leL, ow?, retD, varD, hvar, rAdd, rAddL, rAddT, rAddS, rSub, rMul, rPow, aAdd, aSub, aAddS, cLt, cLe, cGt, cGe, cEqI, cNeI, cEqB, cNeB, truI, truB, truL, truT, truN, intI, ixL, ixT, atN, atL, atM, atPlus, atPlus2, fdiv_pos, mod_pos, Int.reduceLT, Int.reduceLE, Int.reduceEq, Int.reduceMod, Int.reduceDiv, Nat.reduceLT, fnLenL, fnLenT, fnLenF, fnLenS, fnAbs, fnInt, fnList, fnListT, fnTuple, fnTupleT, fnMax2, fnMin2, fnSumL, fnSumT, fnMaxL, fnMaxT, fnMinL, fnMinT, fnAllL, fnAnyL, fnIsNone, fnNotNone, fnIsInt, fnIsBool, fnIsStr, fnIsTup, nN, nI, nB, nS, nL, nT, itmL, itmT, itmS, enmL', enmS', lckV, slcT, slcL, slcS, rgD_nat, rgD_pred, rgD_succ, setIxE, intsOf_ints, boolsOf_bools, strsOf_strs, List.getElem?_cons_succ, List.getElem?_cons_zero, List.set_cons_succ, List.set_cons_zero, List.getElem?_map, List.length_map, List.length_cons, List.length_nil, List.length_append, List.map_append, Option.bind_some, Option.bind_none, Option.map_some, Option.map_none, if_true, if_false, ite_true, ite_false, if_false_right, decide_eq_true_eq, Bool.not_eq_true', decide_eq_false_iff_not, Bool.not_eq_true, reduceCtorEq, reduceIte, ne_eq, not_false_eq_true, not_true_eq_false, true_and, and_true, false_and, and_false, implies_true, Bool.false_eq_true, List.isEmpty_cons, List.isEmpty_nil, Bool.not_true, Bool.not_false, List.map_cons, List.map_nil, List.cons_append, List.nil_append, List.replicate_succ, List.replicate_zero, Nat.reduceSub, Nat.reduceAdd, Nat.reduceMul, Int.reduceSub, Int.reduceNeg, Int.reduceAdd, Int.reduceMul, Int.reducePow, Int.reduceToNat, Nat.reduceLeDiff, lock, unls, unl, wip, rsto, fzO, frz, noal, lfree, lfrees, lfrees_ints, aft, Bool.and_self, Bool.and_true, Bool.true_and, c1', decide_true]
      by_cases c2 : (now.length : Int) ≤ z + 1
      · have c2' : ¬ z < (now.length : Int) - 1 := by omega
        simp -implicitDefEqProofs only [↓Wp_def, Wp_some, Wp_none, Wp_bind, Wp_ite, Wp_map, wNil, wEx, wAsg, wApp, wSto, wAug, augD, augK_some, augK_none, stE, wAugs, wRetV, wRet, wRetn, wIfe, FQ_nx, FQ_rt, eCon, eVar, eBin, eNeg, eNott, eAndd, eOrr, eCmp, eChain, eChain3, eIte, eTup, eLst, eIdx, eIdxm, eLenset, eJoin, eSlc, eRev, eCall, eFn, ePop, ePopAt, tVal, tAndd, tOrr, tNott, toNone, toSome, oNone, oSome, esNil, esCons, hsNil, hsCons, hVar, hCon, hBin, hNeg, hNott, hAndd, hOrr, hCmp, hChain, hChain3, hIte, hTup, hLst, hIdx, hIdxm, hLenset, hJoin, hSlc, hRev, hCall, hFn, hLc, hGq, hPop, hPopAt, iSeq, iRng1, iRng2, iEnm, iZip, RV.fetch, fetchs, asn1, asnT, asnN, asnC, lkU, lkS, lkO, lkL, slF, slL, leC, leUs, leUo, leN, PyData.int.injEq, PyData.bool.injEq, PyData.str.injEq, PyData.tuple.injEq, PyData.list.injEq, Prod.mk.injEq, List.cons.injEq, Sum.inl.injEq, Option.some.injEq, leS, leO, leL, ow?, retD, varD, hvar, rAdd, rAddL, rAddT, rAddS, rSub, rMul, rPow, aAdd, aSub, aAddS, cLt, cLe, cGt, cGe, cEqI, cNeI, cEqB, cNeB, truI, truB, truL, truT, truN, intI, ixL, ixT, atN, atL, atM, atPlus, atPlus2, fdiv_pos, mod_pos, Int.reduceLT, Int.reduceLE, Int.reduceEq, Int.reduceMod, Int.reduceDiv, Nat.reduceLT, fnLenL, fnLenT, fnLenF, fnLenS, fnAbs, fnInt, fnList, fnListT, fnTuple, fnTupleT, fnMax2, fnMin2, fnSumL, fnSumT, fnMaxL, fnMaxT, fnMinL, fnMinT, fnAllL, fnAnyL, fnIsNone, fnNotNone, fnIsInt, fnIsBool, fnIsStr, fnIsTup, nN, nI, nB, nS, nL, nT, itmL, itmT, itmS, enmL', enmS', lckV, slcT, slcL, slcS, rgD_nat, rgD_pred, rgD_succ, setIxE, intsOf_ints, boolsOf_bools, strsOf_strs, List.getElem?_cons_succ, List.getElem?_cons_zero, List.set_cons_succ, List.set_cons_zero, List.getElem?_map, List.length_map, List.length_cons, List.length_nil, List.length_append, List.map_append, Option.bind_some, Option.bind_none, Option.map_some, Option.map_none, if_true, if_false, ite_true, ite_false, if_false_right, decide_eq_true_eq, Bool.not_eq_true', decide_eq_false_iff_not, Bool.not_eq_true, reduceCtorEq, reduceIte, ne_eq, not_false_eq_true, not_true_eq_false, true_and, and_true, false_and, and_false, implies_true, Bool.false_eq_true, List.isEmpty_cons, List.isEmpty_nil, Bool.not_true, Bool.not_false, List.map_cons, List.map_nil, List.cons_append, List.nil_append, List.replicate_succ, List.replicate_zero, Nat.reduceSub, Nat.reduceAdd, Nat.reduceMul, Int.reduceSub, Int.reduceNeg, Int.reduceAdd, Int.reduceMul, Int.reducePow, Int.reduceToNat, Nat.reduceLeDiff, lock, unls, unl, wip, rsto, fzO, frz, noal, lfree, lfrees, lfrees_ints, aft, Bool.and_self, Bool.and_true, Bool.true_and, c2', decide_false]
        rw [hfin, led_cons, if_pos (.inr (.inl c2))]
        rfl
      · have c2' : z < (now.length : Int) - 1 := by omega
        obtain ⟨p', rfl, hp⟩ := walk_step c1 c2
        have hp0 : p' < now.length := by omega
        simp -implicitDefEqProofs only [↓Wp_def, Wp_some, Wp_none, Wp_bind, Wp_ite, Wp_map, wNil, wEx, wAsg, wApp, wSto, wAug, augD, augK_some, augK_none, stE, wAugs, wRetV, wRet, wRetn, wIfe, FQ_nx, FQ_rt, eCon, eVar, eBin, eNeg, eNott, eAndd, eOrr, eCmp, eChain, eChain3, eIte, eTup, eLst, eIdx, eIdxm, eLenset, eJoin, eSlc, eRev, eCall, eFn, ePop, ePopAt, tVal, tAndd, tOrr, tNott, toNone, toSome, oNone, oSome, esNil, esCons, hsNil, hsCons, hVar, hCon, hBin, hNeg, hNott, hAndd, hOrr, hCmp, hChain, hChain3, hIte, hTup, hLst, hIdx, hIdxm, hLenset, hJoin, hSlc, hRev, hCall, hFn, hLc, hGq, hPop, hPopAt, iSeq, iRng1, iRng2, iEnm, iZip, RV.fetch, fetchs, asn1, asnT, asnN, asnC, lkU, lkS, lkO, lkL, slF, slL, leC, leUs, leUo, leN, PyData.int.injEq, PyData.bool.injEq, PyData.str.injEq, PyData.tuple.injEq, PyData.list.injEq, Prod.mk.injEq, List.cons.injEq, Sum.inl.injEq, Option.some.injEq, leS, leO, leL, ow?, retD, varD, hvar, rAdd, rAddL, rAddT, rAddS, rSub, rMul, rPow, aAdd, aSub, aAddS, cLt, cLe, cGt, cGe, cEqI, cNeI, cEqB, cNeB, truI, truB, truL, truT, truN, intI, ixL, ixT, atN, atL, atM, atPlus, atPlus2, fdiv_pos, mod_pos, Int.reduceLT, Int.reduceLE, Int.reduceEq, Int.reduceMod, Int.reduceDiv, Nat.reduceLT, fnLenL, fnLenT, fnLenF, fnLenS, fnAbs, fnInt, fnList, fnListT, fnTuple, fnTupleT, fnMax2, fnMin2, fnSumL, fnSumT, fnMaxL, fnMaxT, fnMinL, fnMinT, fnAllL, fnAnyL, fnIsNone, fnNotNone, fnIsInt, fnIsBool, fnIsStr, fnIsTup, nN, nI, nB, nS, nL, nT, itmL, itmT, itmS, enmL', enmS', lckV, slcT, slcL, slcS, rgD_nat, rgD_pred, rgD_succ, setIxE, intsOf_ints, boolsOf_bools, strsOf_strs, List.getElem?_cons_succ, List.getElem?_cons_zero, List.set_cons_succ, List.set_cons_zero, List.getElem?_map, List.length_map, List.length_cons, List.length_nil, List.length_append, List.map_append, Option.bind_some, Option.bind_none, Option.map_some, Option.map_none, if_true, if_false, ite_true, ite_false, if_false_right, decide_eq_true_eq, Bool.not_eq_true', decide_eq_false_iff_not, Bool.not_eq_true, reduceCtorEq, reduceIte, ne_eq, not_false_eq_true, not_true_eq_false, true_and, and_true, false_and, and_false, implies_true, Bool.false_eq_true, List.isEmpty_cons, List.isEmpty_nil, Bool.not_true, Bool.not_false, List.map_cons, List.map_nil, List.cons_append, List.nil_append, List.replicate_succ, List.replicate_zero, Nat.reduceSub, Nat.reduceAdd, Nat.reduceMul, Int.reduceSub, Int.reduceNeg, Int.reduceAdd, Int.reduceMul, Int.reducePow, Int.reduceToNat, Nat.reduceLeDiff, lock, unls, unl, wip, rsto, fzO, frz, noal, lfree, lfrees, lfrees_ints, aft, Bool.and_self, Bool.and_true, Bool.true_and, c2', decide_true, List.getElem?_eq_getElem hp0]
        by_cases c3 : now[p'] = 0
        · simp -implicitDefEqProofs only [↓Wp_def, Wp_some, Wp_none, Wp_bind, Wp_ite, Wp_map, wNil, wEx, wAsg, wApp, wSto, wAug, augD, augK_some, augK_none, stE, wAugs, wRetV, wRet, wRetn, wIfe, FQ_nx, FQ_rt, eCon, eVar, eBin, eNeg, eNott, eAndd, eOrr, eCmp, eChain, eChain3, eIte, eTup, eLst, eIdx, eIdxm, eLenset, eJoin, eSlc, eRev, eCall, eFn, ePop, ePopAt, tVal, tAndd, tOrr, tNott, toNone, toSome, oNone, oSome, esNil, esCons, hsNil, hsCons, hVar, hCon, hBin, hNeg, hNott, hAndd, hOrr, hCmp, hChain, hChain3, hIte, hTup, hLst, hIdx, hIdxm, hLenset, hJoin, hSlc, hRev, hCall, hFn, hLc, hGq, hPop, hPopAt, iSeq, iRng1, iRng2, iEnm, iZip, RV.fetch, fetchs, asn1, asnT, asnN, asnC, lkU, lkS, lkO, lkL, slF, slL, leC, leUs, leUo, leN, PyData.int.injEq, PyData.bool.injEq, PyData.str.injEq, PyData.tuple.injEq, PyData.list.injEq, Prod.mk.injEq, List.cons.injEq, Sum.inl.injEq, Option.some.injEq, leS, leO, leL, ow?, retD, varD, hvar, rAdd, rAddL, rAddT, rAddS, rSub, rMul, rPow, aAdd, aSub, aAddS, cLt, cLe, cGt, cGe, cEqI, cNeI, cEqB, cNeB, truI, truB, truL, truT, truN, intI, ixL, ixT, atN, atL, atM, atPlus, atPlus2, fdiv_pos, mod_pos, Int.reduceLT, Int.reduceLE, Int.reduceEq, Int.reduceMod, Int.reduceDiv, Nat.reduceLT, fnLenL, fnLenT, fnLenF, fnLenS, fnAbs, fnInt, fnList, fnListT, fnTuple, fnTupleT, fnMax2, fnMin2, fnSumL, fnSumT, fnMaxL, fnMaxT, fnMinL, fnMinT, fnAllL, fnAnyL, fnIsNone, fnNotNone, fnIsInt, fnIsBool, fnIsStr, fnIsTup, nN, nI, nB, nS, nL, nT, itmL, itmT, itmS, enmL', enmS', lckV, slcT, slcL, slcS, rgD_nat, rgD_pred, rgD_succ, setIxE, intsOf_ints, boolsOf_bools, strsOf_strs, List.getElem?_cons_succ, List.getElem?_cons_zero, List.set_cons_succ, List.set_cons_zero, List.getElem?_map, List.length_map, List.length_cons, List.length_nil, List.length_append, List.map_append, Option.bind_some, Option.bind_none, Option.map_some, Option.map_none, if_true, if_false, ite_true, ite_false, if_false_right, decide_eq_true_eq, Bool.not_eq_true', decide_eq_false_iff_not, Bool.not_eq_true, reduceCtorEq, reduceIte, ne_eq, not_false_eq_true, not_true_eq_false, true_and, and_true, false_and, and_false, implies_true, Bool.false_eq_true, List.isEmpty_cons, List.isEmpty_nil, Bool.not_true, Bool.not_false, List.map_cons, List.map_nil, List.cons_append, List.nil_append, List.replicate_succ, List.replicate_zero, Nat.reduceSub, Nat.reduceAdd, Nat.reduceMul, Int.reduceSub, Int.reduceNeg, Int.reduceAdd, Int.reduceMul, Int.reducePow, Int.reduceToNat, Nat.reduceLeDiff, lock, unls, unl, wip, rsto, fzO, frz, noal, lfree, lfrees, lfrees_ints, aft, Bool.and_self, Bool.and_true, Bool.true_and, c3, decide_true]
          rw [hfin, led_cons, if_pos (.inr (.inr (by rw [Int.toNat_natCast, List.getElem?_eq_getElem hp0]; exact c3)))]
          rfl
        · obtain ⟨g1, g2⟩ := nudge_sets now p' hp
          have pc : ((p' : Int) + 1) = ((p' + 1 : Nat) : Int) := by omega
          simp -implicitDefEqProofs only [↓Wp_def, Wp_some, Wp_none, Wp_bind, Wp_ite, Wp_map, wNil, wEx, wAsg, wApp, wSto, wAug, augD, augK_some, augK_none, stE, wAugs, wRetV, wRet, wRetn, wIfe, FQ_nx, FQ_rt, eCon, eVar, eBin, eNeg, eNott, eAndd, eOrr, eCmp, eChain, eChain3, eIte, eTup, eLst, eIdx, eIdxm, eLenset, eJoin, eSlc, eRev, eCall, eFn, ePop, ePopAt, tVal, tAndd, tOrr, tNott, toNone, toSome, oNone, oSome, esNil, esCons, hsNil, hsCons, hVar, hCon, hBin, hNeg, hNott, hAndd, hOrr, hCmp, hChain, hChain3, hIte, hTup, hLst, hIdx, hIdxm, hLenset, hJoin, hSlc, hRev, hCall, hFn, hLc, hGq, hPop, hPopAt, iSeq, iRng1, iRng2, iEnm, iZip, RV.fetch, fetchs, asn1, asnT, asnN, asnC, lkU, lkS, lkO, lkL, slF, slL, leC, leUs, leUo, leN, PyData.int.injEq, PyData.bool.injEq, PyData.str.injEq, PyData.tuple.injEq, PyData.list.injEq, Prod.mk.injEq, List.cons.injEq, Sum.inl.injEq, Option.some.injEq, leS, leO, leL, ow?, retD, varD, hvar, rAdd, rAddL, rAddT, rAddS, rSub, rMul, rPow, aAdd, aSub, aAddS, cLt, cLe, cGt, cGe, cEqI, cNeI, cEqB, cNeB, truI, truB, truL, truT, truN, intI, ixL, ixT, atN, atL, atM, atPlus, atPlus2, fdiv_pos, mod_pos, Int.reduceLT, Int.reduceLE, Int.reduceEq, Int.reduceMod, Int.reduceDiv, Nat.reduceLT, fnLenL, fnLenT, fnLenF, fnLenS, fnAbs, fnInt, fnList, fnListT, fnTuple, fnTupleT, fnMax2, fnMin2, fnSumL, fnSumT, fnMaxL, fnMaxT, fnMinL, fnMinT, fnAllL, fnAnyL, fnIsNone, fnNotNone, fnIsInt, fnIsBool, fnIsStr, fnIsTup, nN, nI, nB, nS, nL, nT, itmL, itmT, itmS, enmL', enmS', lckV, slcT, slcL, slcS, rgD_nat, rgD_pred, rgD_succ, setIxE, intsOf_ints, boolsOf_bools, strsOf_strs, List.getElem?_cons_succ, List.getElem?_cons_zero, List.set_cons_succ, List.set_cons_zero, List.getElem?_map, List.length_map, List.length_cons, List.length_nil, List.length_append, List.map_append, Option.bind_some, Option.bind_none, Option.map_some, Option.map_none, if_true, if_false, ite_true, ite_false, if_false_right, decide_eq_true_eq, Bool.not_eq_true', decide_eq_false_iff_not, Bool.not_eq_true, reduceCtorEq, reduceIte, ne_eq, not_false_eq_true, not_true_eq_false, true_and, and_true, false_and, and_false, implies_true, Bool.false_eq_true, List.isEmpty_cons, List.isEmpty_nil, Bool.not_true, Bool.not_false, List.map_cons, List.map_nil, List.cons_append, List.nil_append, List.replicate_succ, List.replicate_zero, Nat.reduceSub, Nat.reduceAdd, Nat.reduceMul, Int.reduceSub, Int.reduceNeg, Int.reduceAdd, Int.reduceMul, Int.reducePow, Int.reduceToNat, Nat.reduceLeDiff, lock, unls, unl, wip, rsto, fzO, frz, noal, lfree, lfrees, lfrees_ints, aft, Bool.and_self, Bool.and_true, Bool.true_and, c3, decide_false, List.getElem?_eq_getElem hp0, ixNn hp0, g1, g2, pc, List.length_set, ixNn hp]
          refine ⟨nud now p', ?_, ?_⟩
          · rw [led_append, hled]
            show led now [(p' : Int)] = _
            rw [led_cons, if_neg (by rw [Int.toNat_natCast, List.getElem?_eq_getElem hp0]; simp only [Option.getD_some]; omega), Int.toNat_natCast]
            rfl
          · simp -implicitDefEqProofs only [↓Wp_def, Wp_some, Wp_none, Wp_bind, Wp_ite, Wp_map, wNil, wEx, wAsg, wApp, wSto, wAug, augD, augK_some, augK_none, stE, wAugs, wRetV, wRet, wRetn, wIfe, FQ_nx, FQ_rt, eCon, eVar, eBin, eNeg, eNott, eAndd, eOrr, eCmp, eChain, eChain3, eIte, eTup, eLst, eIdx, eIdxm, eLenset, eJoin, eSlc, eRev, eCall, eFn, ePop, ePopAt, tVal, tAndd, tOrr, tNott, toNone, toSome, oNone, oSome, esNil, esCons, hsNil, hsCons, hVar, hCon, hBin, hNeg, hNott, hAndd, hOrr, hCmp, hChain, hChain3, hIte, hTup, hLst, hIdx, hIdxm, hLenset, hJoin, hSlc, hRev, hCall, hFn, hLc, hGq, hPop, hPopAt, iSeq, iRng1, iRng2, iEnm, iZip, RV.fetch, fetchs, asn1, asnT, asnN, asnC, lkU, lkS, lkO, lkL, slF, slL, leC, leUs, leUo, leN, PyData.int.injEq, PyData.bool.injEq, PyData.str.injEq, PyData.tuple.injEq, PyData.list.injEq, Prod.mk.injEq, List.cons.injEq, Sum.inl.injEq, Option.some.injEq, leS, leO, leL, ow?, retD, varD, hvar, rAdd, rAddL, rAddT, rAddS, rSub, rMul, rPow, aAdd, aSub, aAddS, cLt, cLe, cGt, cGe, cEqI, cNeI, cEqB, cNeB, truI, truB, truL, truT, truN, intI, ixL, ixT, atN, atL, atM, atPlus, atPlus2, fdiv_pos, mod_pos, Int.reduceLT, Int.reduceLE, Int.reduceEq, Int.reduceMod, Int.reduceDiv, Nat.reduceLT, fnLenL, fnLenT, fnLenF, fnLenS, fnAbs, fnInt, fnList, fnListT, fnTuple, fnTupleT, fnMax2, fnMin2, fnSumL, fnSumT, fnMaxL, fnMaxT, fnMinL, fnMinT, fnAllL, fnAnyL, fnIsNone, fnNotNone, fnIsInt, fnIsBool, fnIsStr, fnIsTup, nN, nI, nB, nS, nL, nT, itmL, itmT, itmS, enmL', enmS', lckV, slcT, slcL, slcS, rgD_nat, rgD_pred, rgD_succ, setIxE, intsOf_ints, boolsOf_bools, strsOf_strs, List.getElem?_cons_succ, List.getElem?_cons_zero, List.set_cons_succ, List.set_cons_zero, List.getElem?_map, List.length_map, List.length_cons, List.length_nil, List.length_append, List.map_append, Option.bind_some, Option.bind_none, Option.map_some, Option.map_none, if_true, if_false, ite_true, ite_false, if_false_right, decide_eq_true_eq, Bool.not_eq_true', decide_eq_false_iff_not, Bool.not_eq_true, reduceCtorEq, reduceIte, ne_eq, not_false_eq_true, not_true_eq_false, true_and, and_true, false_and, and_false, implies_true, Bool.false_eq_true, List.isEmpty_cons, List.isEmpty_nil, Bool.not_true, Bool.not_false, List.map_cons, List.map_nil, List.cons_append, List.nil_append, List.replicate_succ, List.replicate_zero, Nat.reduceSub, Nat.reduceAdd, Nat.reduceMul, Int.reduceSub, Int.reduceNeg, Int.reduceAdd, Int.reduceMul, Int.reducePow, Int.reduceToNat, Nat.reduceLeDiff, lock, unls, unl, wip, rsto, fzO, frz, noal, lfree, lfrees, lfrees_ints, aft, Bool.and_self, Bool.and_true, Bool.true_and]
  · intro now hled
    simp -implicitDefEqProofs only [↓Wp_def, Wp_some, Wp_none, Wp_bind, Wp_ite, Wp_map, wNil, wEx, wAsg, wApp, wSto, wAug, augD, augK_some, augK_none, stE, wAugs, wRetV, wRet, wRetn, wIfe, FQ_nx, FQ_rt, eCon, eVar, eBin, eNeg, eNott, eAndd, eOrr, eCmp, eChain, eChain3, eIte, eTup, eLst, eIdx, eIdxm, eLenset, eJoin, eSlc, eRev, eCall, eFn, ePop, ePopAt, tVal, tAndd, tOrr, tNott, toNone, toSome, oNone, oSome, esNil, esCons, hsNil, hsCons, hVar, hCon, hBin, hNeg, hNott, hAndd, hOrr, hCmp, hChain, hChain3, hIte, hTup, hLst, hIdx, hIdxm, hLenset, hJoin, hSlc, hRev, hCall, hFn, hLc, hGq, hPop, hPopAt, iSeq, iRng1, iRng2, iEnm, iZip, RV.fetch, fetchs, asn1, asnT, asnN, asnC, lkU, lkS, lkO, lkL, slF, slL, leC, leUs, leUo, leN, PyData.int.injEq, PyData.bool.injEq, PyData.str.injEq, PyData.tuple.injEq, PyData.list.injEq, Prod.mk.injEq, List.cons.injEq, Sum.inl.injEq, Option.some.injEq, leS, leO, leL, ow?, retD, varD, hvar, rAdd, rAddL, rAddT, rAddS, rSub, rMul, rPow, aAdd, aSub, aAddS, cLt, cLe, cGt, cGe, cEqI, cNeI, cEqB, cNeB, truI, truB, truL, truT, truN, intI, ixL, ixT, atN, atL, atM, atPlus, atPlus2, fdiv_pos, mod_pos, Int.reduceLT, Int.reduceLE, Int.reduceEq, Int.reduceMod, Int.reduceDiv, Nat.reduceLT, fnLenL, fnLenT, fnLenF, fnLenS, fnAbs, fnInt, fnList, fnListT, fnTuple, fnTupleT, fnMax2, fnMin2, fnSumL, fnSumT, fnMaxL, fnMaxT, fnMinL, fnMinT, fnAllL, fnAnyL, fnIsNone, fnNotNone, fnIsInt, fnIsBool, fnIsStr, fnIsTup, nN, nI, nB, nS, nL, nT, itmL, itmT, itmS, enmL', enmS', lckV, slcT, slcL, slcS, rgD_nat, rgD_pred, rgD_succ, setIxE, intsOf_ints, boolsOf_bools, strsOf_strs, List.getElem?_cons_succ, List.getElem?_cons_zero, List.set_cons_succ, List.set_cons_zero, List.getElem?_map, List.length_map, List.length_cons, List.length_nil, List.length_append, List.map_append, Option.bind_some, Option.bind_none, Option.map_some, Option.map_none, if_true, if_false, ite_true, ite_false, if_false_right, decide_eq_true_eq, Bool.not_eq_true', decide_eq_false_iff_not, Bool.not_eq_true, reduceCtorEq, reduceIte, ne_eq, not_false_eq_true, not_true_eq_false, true_and, and_true, false_and, and_false, implies_true, Bool.false_eq_true, List.isEmpty_cons, List.isEmpty_nil, Bool.not_true, Bool.not_false, List.map_cons, List.map_nil, List.cons_append, List.nil_append, List.replicate_succ, List.replicate_zero, Nat.reduceSub, Nat.reduceAdd, Nat.reduceMul, Int.reduceSub, Int.reduceNeg, Int.reduceAdd, Int.reduceMul, Int.reducePow, Int.reduceToNat, Nat.reduceLeDiff, lock, unls, unl, wip, rsto, fzO, frz, noal, lfree, lfrees, lfrees_ints, aft, Bool.and_self, Bool.and_true, Bool.true_and]
    rw [hled]
    rfl
theorem led_ok {k : Nat} (hk : 1 ≤ k) (a ps : List Int) (h1 : a.length ≤ 1000) : run prog wf k 13 [T a, T ps] = some (optT (led a ps), false) := by
  refine run_eq (d := 0) (p := c13) rfl hk fun k _ => Wp.fn rfl ?_
  unfold c13
  simp -implicitDefEqProofs only [↓Wp_def, Wp_some, Wp_none, Wp_bind, Wp_ite, Wp_map, wNil, wEx, wAsg, wApp, wSto, wAug, augD, augK_some, augK_none, stE, wAugs, wRetV, wRet, wRetn, wIfe, FQ_nx, FQ_rt, eCon, eVar, eBin, eNeg, eNott, eAndd, eOrr, eCmp, eChain, eChain3, eIte, eTup, eLst, eIdx, eIdxm, eLenset, eJoin, eSlc, eRev, eCall, eFn, ePop, ePopAt, tVal, tAndd, tOrr, tNott, toNone, toSome, oNone, oSome, esNil, esCons, hsNil, hsCons, hVar, hCon, hBin, hNeg, hNott, hAndd, hOrr, hCmp, hChain, hChain3, hIte, hTup, hLst, hIdx, hIdxm, hLenset, hJoin, hSlc, hRev, hCall, hFn, hLc, hGq, hPop, hPopAt, iSeq, iRng1, iRng2, iEnm, iZip, RV.fetch, fetchs, asn1, asnT, asnN, asnC, lkU, lkS, lkO, lkL, slF, slL, leC, leUs, leUo, leN, PyData.int.injEq, PyData.bool.injEq, PyData.str.injEq, PyData.tuple.injEq, PyData.list.injEq, Prod.mk.injEq, List.cons.injEq, Sum.inl.injEq, Option.some.injEq, leS, leO, leL, ow?, retD, varD, hvar, rAdd, rAddL, rAddT, rAddS, rSub, rMul, rPow, aAdd, aSub, aAddS, cLt, cLe, cGt, cGe, cEqI, cNeI, cEqB, cNeB, truI, truB, truL, truT, truN, intI, ixL, ixT, atN, atL, atM, atPlus, atPlus2, fdiv_pos, mod_pos, Int.reduceLT, Int.reduceLE, Int.reduceEq, Int.reduceMod, Int.reduceDiv, Nat.reduceLT, fnLenL, fnLenT, fnLenF, fnLenS, fnAbs, fnInt, fnList, fnListT, fnTuple, fnTupleT, fnMax2, fnMin2, fnSumL, fnSumT, fnMaxL, fnMaxT, fnMinL, fnMinT, fnAllL, fnAnyL, fnIsNone, fnNotNone, fnIsInt, fnIsBool, fnIsStr, fnIsTup, nN, nI, nB, nS, nL, nT, itmL, itmT, itmS, enmL', enmS', lckV, slcT, slcL, slcS, rgD_nat, rgD_pred, rgD_succ, setIxE, intsOf_ints, boolsOf_bools, strsOf_strs, List.getElem?_cons_succ, List.getElem?_cons_zero, List.set_cons_succ, List.set_cons_zero, List.getElem?_map, List.length_map, List.length_cons, List.length_nil, List.length_append, List.map_append, Option.bind_some, Option.bind_none, Option.map_some, Option.map_none, if_true, if_false, ite_true, ite_false, if_false_right, decide_eq_true_eq, Bool.not_eq_true', decide_eq_false_iff_not, Bool.not_eq_true, reduceCtorEq, reduceIte, ne_eq, not_false_eq_true, not_true_eq_false, true_and, and_true, false_and, and_false, implies_true, Bool.false_eq_true, List.isEmpty_cons, List.isEmpty_nil, Bool.not_true, Bool.not_false, List.map_cons, List.map_nil, List.cons_append, List.nil_append, List.replicate_succ, List.replicate_zero, Nat.reduceSub, Nat.reduceAdd, Nat.reduceMul, Int.reduceSub, Int.reduceNeg, Int.reduceAdd, Int.reduceMul, Int.reducePow, Int.reduceToNat, Nat.reduceLeDiff, lock, unls, unl, wip, rsto, fzO, frz, noal, lfree, lfrees, lfrees_ints, aft, Bool.and_self, Bool.and_true, Bool.true_and]
  refine Wp.forS (as := ps) (enc := .int) (σ := List Int) [] (fun p s => led a p = some s) (fun _ s => [.sh (T a), .sh (T ps), .ow (s.map .int), .un]) a ?_ ?_ ?_ cl_const
  · simp -implicitDefEqProofs only [↓Wp_def, Wp_some, Wp_none, Wp_bind, Wp_ite, Wp_map, wNil, wEx, wAsg, wApp, wSto, wAug, augD, augK_some, augK_none, stE, wAugs, wRetV, wRet, wRetn, wIfe, FQ_nx, FQ_rt, eCon, eVar, eBin, eNeg, eNott, eAndd, eOrr, eCmp, eChain, eChain3, eIte, eTup, eLst, eIdx, eIdxm, eLenset, eJoin, eSlc, eRev, eCall, eFn, ePop, ePopAt, tVal, tAndd, tOrr, tNott, toNone, toSome, oNone, oSome, esNil, esCons, hsNil, hsCons, hVar, hCon, hBin, hNeg, hNott, hAndd, hOrr, hCmp, hChain, hChain3, hIte, hTup, hLst, hIdx, hIdxm, hLenset, hJoin, hSlc, hRev, hCall, hFn, hLc, hGq, hPop, hPopAt, iSeq, iRng1, iRng2, iEnm, iZip, RV.fetch, fetchs, asn1, asnT, asnN, asnC, lkU, lkS, lkO, lkL, slF, slL, leC, leUs, leUo, leN, PyData.int.injEq, PyData.bool.injEq, PyData.str.injEq, PyData.tuple.injEq, PyData.list.injEq, Prod.mk.injEq, List.cons.injEq, Sum.inl.injEq, Option.some.injEq, leS, leO, leL, ow?, retD, varD, hvar, rAdd, rAddL, rAddT, rAddS, rSub, rMul, rPow, aAdd, aSub, aAddS, cLt, cLe, cGt, cGe, cEqI, cNeI, cEqB, cNeB, truI, truB, truL, truT, truN, intI, ixL, ixT, atN, atL, atM, atPlus, atPlus2, fdiv_pos, mod_pos, Int.reduceLT, Int.reduceLE, Int.reduceEq, Int.reduceMod, Int.reduceDiv, Nat.reduceLT, fnLenL, fnLenT, fnLenF, fnLenS, fnAbs, fnInt, fnList, fnListT, fnTuple, fnTupleT, fnMax2, fnMin2, fnSumL, fnSumT, fnMaxL, fnMaxT, fnMinL, fnMinT, fnAllL, fnAnyL, fnIsNone, fnNotNone, fnIsInt, fnIsBool, fnIsStr, fnIsTup, nN, nI, nB, nS, nL, nT, itmL, itmT, itmS, enmL', enmS', lckV, slcT, slcL, slcS, rgD_nat, rgD_pred, rgD_succ, setIxE, intsOf_ints, boolsOf_bools, strsOf_strs, List.getElem?_cons_succ, List.getElem?_cons_zero, List.set_cons_succ, List.set_cons_zero, List.getElem?_map, List.length_map, List.length_cons, List.length_nil, List.length_append, List.map_append, Option.bind_some, Option.bind_none, Option.map_some, Option.map_none, if_true, if_false, ite_true, ite_false, if_false_right, decide_eq_true_eq, Bool.not_eq_true', decide_eq_false_iff_not, Bool.not_eq_true, reduceCtorEq, reduceIte, ne_eq, not_false_eq_true, not_true_eq_false, true_and, and_true, false_and, and_false, implies_true, Bool.false_eq_true, List.isEmpty_cons, List.isEmpty_nil, Bool.not_true, Bool.not_false, List.map_cons, List.map_nil, List.cons_append, List.nil_append, List.replicate_succ, List.replicate_zero, Nat.reduceSub, Nat.reduceAdd, Nat.reduceMul, Int.reduceSub, Int.reduceNeg, Int.reduceAdd, Int.reduceMul, Int.reducePow, Int.reduceToNat, Nat.reduceLeDiff, lock, unls, unl, wip, rsto, fzO, frz, noal, lfree, lfrees, lfrees_ints, aft, Bool.and_self, Bool.and_true, Bool.true_and]
    rfl
  · intro p z q now hpq hled
    have hn := led_len a p now hled
    have hfin : led a ps = led now (z :: q) := by rw [hpq, led_append, hled]; rfl
    simp -implicitDefEqProofs only [↓Wp_def, Wp_some, Wp_none, Wp_bind, Wp_ite, Wp_map, wNil, wEx, wAsg, wApp, wSto, wAug, augD, augK_some, augK_none, stE, wAugs, wRetV, wRet, wRetn, wIfe, FQ_nx, FQ_rt, eCon, eVar, eBin, eNeg, eNott, eAndd, eOrr, eCmp, eChain, eChain3, eIte, eTup, eLst, eIdx, eIdxm, eLenset, eJoin, eSlc, eRev, eCall, eFn, ePop, ePopAt, tVal, tAndd, tOrr, tNott, toNone, toSome, oNone, oSome, esNil, esCons, hsNil, hsCons, hVar, hCon, hBin, hNeg, hNott, hAndd, hOrr, hCmp, hChain, hChain3, hIte, hTup, hLst, hIdx, hIdxm, hLenset, hJoin, hSlc, hRev, hCall, hFn, hLc, hGq, hPop, hPopAt, iSeq, iRng1, iRng2, iEnm, iZip, RV.fetch, fetchs, asn1, asnT, asnN, asnC, lkU, lkS, lkO, lkL, slF, slL, leC, leUs, leUo, leN, PyData.int.injEq, PyData.bool.injEq, PyData.str.injEq, PyData.tuple.injEq, PyData.list.injEq, Prod.mk.injEq, List.cons.injEq, Sum.inl.injEq, Option.some.injEq, leS, leO, leL, ow?, retD, varD, hvar, rAdd, rAddL, rAddT, rAddS, rSub, rMul, rPow, aAdd, aSub, aAddS, cLt, cLe, cGt, cGe, cEqI, cNeI, cEqB, cNeB, truI, truB, truL, truT, truN, intI, ixL, ixT, atN, atL, atM, atPlus, atPlus2, fdiv_pos, mod_pos, Int.reduceLT, Int.reduceLE, Int.reduceEq, Int.reduceMod, Int.reduceDiv, Nat.reduceLT, fnLenL, fnLenT, fnLenF, fnLenS, fnAbs, fnInt, fnList, fnListT, fnTuple, fnTupleT, fnMax2, fnMin2, fnSumL, fnSumT, fnMaxL, fnMaxT, fnMinL, fnMinT, fnAllL, fnAnyL, fnIsNone, fnNotNone, fnIsInt, fnIsBool, fnIsStr, fnIsTup, nN, nI, nB, nS, nL, nT, itmL, itmT, itmS, enmL', enmS', lckV, slcT, slcL, slcS, rgD_nat, rgD_pred, rgD_succ, setIxE, intsOf_ints, boolsOf_bools, strsOf_strs, List.getElem?_cons_succ, List.getElem?_cons_zero, List.set_cons_succ, List.set_cons_zero, List.getElem?_map, List.length_map, List.length_cons, List.length_nil, List.length_append, List.map_append, Option.bind_some, Option.bind_none, Option.map_some, Option.map_none, if_true, if_false, ite_true, ite_false, if_false_right, decide_eq_true_eq, Bool.not_eq_true', decide_eq_false_iff_not, Bool.not_eq_true, reduceCtorEq, reduceIte, ne_eq, not_false_eq_true, not_true_eq_false, true_and, and_true, false_and, and_false, implies_true, Bool.false_eq_true, List.isEmpty_cons, List.isEmpty_nil, Bool.not_true, Bool.not_false, List.map_cons, List.map_nil, List.cons_append, List.nil_append, List.replicate_succ, List.replicate_zero, Nat.reduceSub, Nat.reduceAdd, Nat.reduceMul, Int.reduceSub, Int.reduceNeg, Int.reduceAdd, Int.reduceMul, Int.reducePow, Int.reduceToNat, Nat.reduceLeDiff, lock, unls, unl, wip, rsto, fzO, frz, noal, lfree, lfrees, lfrees_ints, aft, Bool.and_self, Bool.and_true, Bool.true_and]
    by_cases c1 : z < 0
    · simp -implicitDefEqProofs only [↓Wp_def, Wp_some, Wp_none, Wp_bind, Wp_ite, Wp_map, wNil, wEx, wAsg, wApp, wSto, wAug, augD, augK_some, augK_none, stE, wAugs, wRetV, wRet, wRetn, wIfe, FQ_nx, FQ_rt, eCon, eVar, eBin, eNeg, eNott, eAndd, eOrr, eCmp, eChain, eChain3, eIte, eTup, eLst, eIdx, eIdxm, eLenset, eJoin, eSlc, eRev, eCall, eFn, ePop, ePopAt, tVal, tAndd, tOrr, tNott, toNone, toSome, oNone, oSome, esNil, esCons, hsNil, hsCons, hVar, hCon, hBin, hNeg, hNott, hAndd, hOrr, hCmp, hChain, hChain3, hIte, hTup, hLst, hIdx, hIdxm, hLenset, hJoin, hSlc, hRev, hCall, hFn, hLc, hGq, hPop, hPopAt, iSeq, iRng1, iRng2, iEnm, iZip, RV.fetch, fetchs, asn1, asnT, asnN, asnC, lkU, lkS, lkO, lkL, slF, slL, leC, leUs, leUo, leN, PyData.int.injEq, PyData.bool.injEq, PyData.str.injEq, PyData.tuple.injEq, PyData.list.injEq, Prod.mk.injEq, List.cons.injEq, Sum.inl.injEq, Option.some.injEq, leS, leO, leL, ow?, retD, varD, hvar, rAdd, rAddL, rAddT, rAddS, rSub, rMul, rPow, aAdd, aSub, aAddS, cLt, cLe, cGt, cGe, cEqI, cNeI, cEqB, cNeB, truI, truB, truL, truT, truN, intI, ixL, ixT, atN, atL, atM, atPlus, atPlus2, fdiv_pos, mod_pos, Int.reduceLT, Int.reduceLE, Int.reduceEq, Int.reduceMod, Int.reduceDiv, Nat.reduceLT, fnLenL, fnLenT, fnLenF, fnLenS, fnAbs, fnInt, fnList, fnListT, fnTuple, fnTupleT, fnMax2, fnMin2, fnSumL, fnSumT, fnMaxL, fnMaxT, fnMinL, fnMinT, fnAllL, fnAnyL, fnIsNone, fnNotNone, fnIsInt, fnIsBool, fnIsStr, fnIsTup, nN, nI, nB, nS, nL, nT, itmL, itmT, itmS, enmL', enmS', lckV, slcT, slcL, slcS, rgD_nat, rgD_pred, rgD_succ, setIxE, intsOf_ints, boolsOf_bools, strsOf_strs, List.getElem?_cons_succ, List.getElem?_cons_zero, List.set_cons_succ, List.set_cons_zero, List.getElem?_map, List.length_map, List.length_cons, List.length_nil, List.length_append, List.map_append, Option.bind_some, Option.bind_none, Option.map_some, Option.map_none, if_true, if_false, ite_true, ite_false, if_false_right, decide_eq_true_eq, Bool.not_eq_true', decide_eq_false_iff_not, Bool.not_eq_true, reduceCtorEq, reduceIte, ne_eq, not_false_eq_true, not_true_eq_false, true_and, and_true, false_and, and_false, implies_true, Bool.false_eq_true, List.isEmpty_cons, List.isEmpty_nil, Bool.not_true, Bool.not_false, List.map_cons, List.map_nil, List.cons_append, List.nil_append, List.replicate_succ, List.replicate_zero, Nat.reduceSub, Nat.reduceAdd, Nat.reduceMul, Int.reduceSub, Int.reduceNeg, Int.reduceAdd, Int.reduceMul, Int.reducePow, Int.reduceToNat, Nat.reduceLeDiff, lock, unls, unl, wip, rsto, fzO, frz, noal, lfree, lfrees, lfrees_ints, aft, Bool.and_self, Bool.and_true, Bool.true_and, c1, decide_true]
      rw [hfin, led_cons, if_pos (.inl c1)]
      rfl
    · simp -implicitDefEqProofs only [↓Wp_def, Wp_some, Wp_none, Wp_bind, Wp_ite, Wp_map, wNil, wEx, wAsg, wApp, wSto, wAug, augD, augK_some, augK_none, stE, wAugs, wRetV, wRet, wRetn, wIfe, FQ_nx, FQ_rt, eCon, eVar, eBin, eNeg, eNott, eAndd, eOrr, eCmp, eChain, eChain3, eIte, eTup, eLst, eIdx, eIdxm, eLenset, eJoin, eSlc, eRev, eCall, eFn, ePop, ePopAt, tVal, tAndd, tOrr, tNott, toNone, toSome, oNone, oSome, esNil, esCons, hsNil, hsCons, hVar, hCon, hBin, hNeg, hNott, hAndd, hOrr, hCmp, hChain, hChain3, hIte, hTup, hLst, hIdx, hIdxm, hLenset, hJoin, hSlc, hRev, hCall, hFn, hLc, hGq, hPop, hPopAt, iSeq, iRng1, iRng2, iEnm, iZip, RV.fetch, fetchs, asn1, asnT, asnN, asnC, lkU, lkS, lkO, lkL, slF, slL, leC, leUs, leUo, leN, PyData.int.injEq, PyData.bool.injEq, PyData.str.injEq, PyData.tuple.injEq, PyData.list.injEq, Prod.mk.injEq, List.cons.injEq, Sum.inl.injEq, Option.some.injEq, leS, leO, leL, ow?, retD, varD, hvar, rAdd, rAddL, rAddT, rAddS, rSub, rMul, rPow, aAdd, aSub, aAddS, cLt, cLe, cGt, cGe, cEqI, cNeI, cEqB, cNeB, truI, truB, truL, truT, truN, intI, ixL, ixT, atN, atL, atM, atPlus, atPlus2, fdiv_pos, mod_pos, Int.reduceLT, Int.reduceLE, Int.reduceEq, Int.reduceMod, Int.reduceDiv, Nat.reduceLT, fnLenL, fnLenT, fnLenF, fnLenS, fnAbs, fnInt, fnList, fnListT, fnTuple, fnTupleT, fnMax2, fnMin2, fnSumL, fnSumT, fnMaxL, fnMaxT, fnMinL, fnMinT, fnAllL, fnAnyL, fnIsNone, fnNotNone, fnIsInt, fnIsBool, fnIsStr, fnIsTup, nN, nI, nB, nS, nL, nT, itmL, itmT, itmS, enmL', enmS', lckV, slcT, slcL, slcS, rgD_nat, rgD_pred, rgD_succ, setIxE, intsOf_ints, boolsOf_bools, strsOf_strs, List.getElem?_cons_succ, List.getElem?_cons_zero, List.set_cons_succ, List.set_cons_zero, List.getElem?_map, List.length_map, List.length_cons, List.length_nil, List.length_append, List.map_append, Option.bind_some, Option.bind_none, Option.map_some, Option.map_none, if_true, if_false, ite_true, ite_false, if_false_right, decide_eq_true_eq, Bool.not_eq_true', decide_eq_false_iff_not, Bool.not_eq_true, reduceCtorEq, reduceIte, ne_eq, not_false_eq_true, not_true_eq_false, true_and, and_true, false_and, and_false, implies_true, Bool.false_eq_true, List.isEmpty_cons, List.isEmpty_nil, Bool.not_true, Bool.not_false, List.map_cons, List.map_nil, List.cons_append, List.nil_append, List.replicate_succ, List.replicate_zero, Nat.reduceSub, Nat.reduceAdd, Nat.reduceMul, Int.reduceSub, Int.reduceNeg, Int.reduceAdd, Int.reduceMul, Int.reducePow, Int.reduceToNat, Nat.reduceLeDiff, lock, unls, unl, wip, rsto, fzO, frz, noal, lfree, lfrees, lfrees_ints, aft, Bool.and_self, Bool.and_true, Bool.true_and, c1, decide_false]
      by_cases c2 : (now.length : Int) ≤ z + 1
      · simp -implicitDefEqProofs only [↓Wp_def, Wp_some, Wp_none, Wp_bind, Wp_ite, Wp_map, wNil, wEx, wAsg, wApp, wSto, wAug, augD, augK_some, augK_none, stE, wAugs, wRetV, wRet, wRetn, wIfe, FQ_nx, FQ_rt, eCon, eVar, eBin, eNeg, eNott, eAndd, eOrr, eCmp, eChain, eChain3, eIte, eTup, eLst, eIdx, eIdxm, eLenset, eJoin, eSlc, eRev, eCall, eFn, ePop, ePopAt, tVal, tAndd, tOrr, tNott, toNone, toSome, oNone, oSome, esNil, esCons, hsNil, hsCons, hVar, hCon, hBin, hNeg, hNott, hAndd, hOrr, hCmp, hChain, hChain3, hIte, hTup, hLst, hIdx, hIdxm, hLenset, hJoin, hSlc, hRev, hCall, hFn, hLc, hGq, hPop, hPopAt, iSeq, iRng1, iRng2, iEnm, iZip, RV.fetch, fetchs, asn1, asnT, asnN, asnC, lkU, lkS, lkO, lkL, slF, slL, leC, leUs, leUo, leN, PyData.int.injEq, PyData.bool.injEq, PyData.str.injEq, PyData.tuple.injEq, PyData.list.injEq, Prod.mk.injEq, List.cons.injEq, Sum.inl.injEq, Option.some.injEq, leS, leO, leL, ow?, retD, varD, hvar, rAdd, rAddL, rAddT, rAddS, rSub, rMul, rPow, aAdd, aSub, aAddS, cLt, cLe, cGt, cGe, cEqI, cNeI, cEqB, cNeB, truI, truB, truL, truT, truN, intI, ixL, ixT, atN, atL, atM, atPlus, atPlus2, fdiv_pos, mod_pos, Int.reduceLT, Int.reduceLE, Int.reduceEq, Int.reduceMod, Int.reduceDiv, Nat.reduceLT, fnLenL, fnLenT, fnLenF, fnLenS, fnAbs, fnInt, fnList, fnListT, fnTuple, fnTupleT, fnMax2, fnMin2, fnSumL, fnSumT, fnMaxL, fnMaxT, fnMinL, fnMinT, fnAllL, fnAnyL, fnIsNone, fnNotNone, fnIsInt, fnIsBool, fnIsStr, fnIsTup, nN, nI, nB, nS, nL, nT, itmL, itmT, itmS, enmL', enmS', lckV, slcT, slcL, slcS, rgD_nat, rgD_pred, rgD_succ, setIxE, intsOf_ints, boolsOf_bools, strsOf_strs, List.getElem?_cons_succ, List.getElem?_cons_zero, List.set_cons_succ, List.set_cons_zero, List.getElem?_map, List.length_map, List.length_cons, List.length_nil, List.length_append, List.map_append, Option.bind_some, Option.bind_none, Option.map_some, Option.map_none, if_true, if_false, ite_true, ite_false, if_false_right, decide_eq_true_eq, Bool.not_eq_true', decide_eq_false_iff_not, Bool.not_eq_true, reduceCtorEq, reduceIte, ne_eq, not_false_eq_true, not_true_eq_false, true_and, and_true, false_and, and_false, implies_true, Bool.false_eq_true, List.isEmpty_cons, List.isEmpty_nil, Bool.not_true, Bool.not_false, List.map_cons, List.map_nil, List.cons_append, List.nil_append, List.replicate_succ, List.replicate_zero, Nat.reduceSub, Nat.reduceAdd, Nat.reduceMul, Int.reduceSub, Int.reduceNeg, Int.reduceAdd, Int.reduceMul, Int.reducePow, Int.reduceToNat, Nat.reduceLeDiff, lock, unls, unl, wip, rsto, fzO, frz, noal, lfree, lfrees, lfrees_ints, aft, Bool.and_self, Bool.and_true, Bool.true_and, c2, decide_true]
        rw [hfin, led_cons, if_pos (.inr (.inl c2))]
        rfl
      · obtain ⟨p', rfl, hp⟩ := walk_step c1 c2
        have hp0 : p' < now.length := by omega
        simp -implicitDefEqProofs only [↓Wp_def, Wp_some, Wp_none, Wp_bind, Wp_ite, Wp_map, wNil, wEx, wAsg, wApp, wSto, wAug, augD, augK_some, augK_none, stE, wAugs, wRetV, wRet, wRetn, wIfe, FQ_nx, FQ_rt, eCon, eVar, eBin, eNeg, eNott, eAndd, eOrr, eCmp, eChain, eChain3, eIte, eTup, eLst, eIdx, eIdxm, eLenset, eJoin, eSlc, eRev, eCall, eFn, ePop, ePopAt, tVal, tAndd, tOrr, tNott, toNone, toSome, oNone, oSome, esNil, esCons, hsNil, hsCons, hVar, hCon, hBin, hNeg, hNott, hAndd, hOrr, hCmp, hChain, hChain3, hIte, hTup, hLst, hIdx, hIdxm, hLenset, hJoin, hSlc, hRev, hCall, hFn, hLc, hGq, hPop, hPopAt, iSeq, iRng1, iRng2, iEnm, iZip, RV.fetch, fetchs, asn1, asnT, asnN, asnC, lkU, lkS, lkO, lkL, slF, slL, leC, leUs, leUo, leN, PyData.int.injEq, PyData.bool.injEq, PyData.str.injEq, PyData.tuple.injEq, PyData.list.injEq, Prod.mk.injEq, List.cons.injEq, Sum.inl.injEq, Option.some.injEq, leS, leO, leL, ow?, retD, varD, hvar, rAdd, rAddL, rAddT, rAddS, rSub, rMul, rPow, aAdd, aSub, aAddS, cLt, cLe, cGt, cGe, cEqI, cNeI, cEqB, cNeB, truI, truB, truL, truT, truN, intI, ixL, ixT, atN, atL, atM, atPlus, atPlus2, fdiv_pos, mod_pos, Int.reduceLT, Int.reduceLE, Int.reduceEq, Int.reduceMod, Int.reduceDiv, Nat.reduceLT, fnLenL, fnLenT, fnLenF, fnLenS, fnAbs, fnInt, fnList, fnListT, fnTuple, fnTupleT, fnMax2, fnMin2, fnSumL, fnSumT, fnMaxL, fnMaxT, fnMinL, fnMinT, fnAllL, fnAnyL, fnIsNone, fnNotNone, fnIsInt, fnIsBool, fnIsStr, fnIsTup, nN, nI, nB, nS, nL, nT, itmL, itmT, itmS, enmL', enmS', lckV, slcT, slcL, slcS, rgD_nat, rgD_pred, rgD_succ, setIxE, intsOf_ints, boolsOf_bools, strsOf_strs, List.getElem?_cons_succ, List.getElem?_cons_zero, List.set_cons_succ, List.set_cons_zero, List.getElem?_map, List.length_map, List.length_cons, List.length_nil, List.length_append, List.map_append, Option.bind_some, Option.bind_none, Option.map_some, Option.map_none, if_true, if_false, ite_true, ite_false, if_false_right, decide_eq_true_eq, Bool.not_eq_true', decide_eq_false_iff_not, Bool.not_eq_true, reduceCtorEq, reduceIte, ne_eq, not_false_eq_true, not_true_eq_false, true_and, and_true, false_and, and_false, implies_true, Bool.false_eq_true, List.isEmpty_cons, List.isEmpty_nil, Bool.not_true, Bool.not_false, List.map_cons, List.map_nil, List.cons_append, List.nil_append, List.replicate_succ, List.replicate_zero, Nat.reduceSub, Nat.reduceAdd, Nat.reduceMul, Int.reduceSub, Int.reduceNeg, Int.reduceAdd, Int.reduceMul, Int.reducePow, Int.reduceToNat, Nat.reduceLeDiff, lock, unls, unl, wip, rsto, fzO, frz, noal, lfree, lfrees, lfrees_ints, aft, Bool.and_self, Bool.and_true, Bool.true_and, c2, decide_false, List.getElem?_eq_getElem hp0]
        by_cases c3 : now[p'] = 0
        · simp -implicitDefEqProofs only [↓Wp_def, Wp_some, Wp_none, Wp_bind, Wp_ite, Wp_map, wNil, wEx, wAsg, wApp, wSto, wAug, augD, augK_some, augK_none, stE, wAugs, wRetV, wRet, wRetn, wIfe, FQ_nx, FQ_rt, eCon, eVar, eBin, eNeg, eNott, eAndd, eOrr, eCmp, eChain, eChain3, eIte, eTup, eLst, eIdx, eIdxm, eLenset, eJoin, eSlc, eRev, eCall, eFn, ePop, ePopAt, tVal, tAndd, tOrr, tNott, toNone, toSome, oNone, oSome, esNil, esCons, hsNil, hsCons, hVar, hCon, hBin, hNeg, hNott, hAndd, hOrr, hCmp, hChain, hChain3, hIte, hTup, hLst, hIdx, hIdxm, hLenset, hJoin, hSlc, hRev, hCall, hFn, hLc, hGq, hPop, hPopAt, iSeq, iRng1, iRng2, iEnm, iZip, RV.fetch, fetchs, asn1, asnT, asnN, asnC, lkU, lkS, lkO, lkL, slF, slL, leC, leUs, leUo, leN, PyData.int.injEq, PyData.bool.injEq, PyData.str.injEq, PyData.tuple.injEq, PyData.list.injEq, Prod.mk.injEq, List.cons.injEq, Sum.inl.injEq, Option.some.injEq, leS, leO, leL, ow?, retD, varD, hvar, rAdd, rAddL, rAddT, rAddS, rSub, rMul, rPow, aAdd, aSub, aAddS, cLt, cLe, cGt, cGe, cEqI, cNeI, cEqB, cNeB, truI, truB, truL, truT, truN, intI, ixL, ixT, atN, atL, atM, atPlus, atPlus2, fdiv_pos, mod_pos, Int.reduceLT, Int.reduceLE, Int.reduceEq, Int.reduceMod, Int.reduceDiv, Nat.reduceLT, fnLenL, fnLenT, fnLenF, fnLenS, fnAbs, fnInt, fnList, fnListT, fnTuple, fnTupleT, fnMax2, fnMin2, fnSumL, fnSumT, fnMaxL, fnMaxT, fnMinL, fnMinT, fnAllL, fnAnyL, fnIsNone, fnNotNone, fnIsInt, fnIsBool, fnIsStr, fnIsTup, nN, nI, nB, nS, nL, nT, itmL, itmT, itmS, enmL', enmS', lckV, slcT, slcL, slcS, rgD_nat, rgD_pred, rgD_succ, setIxE, intsOf_ints, boolsOf_bools, strsOf_strs, List.getElem?_cons_succ, List.getElem?_cons_zero, List.set_cons_succ, List.set_cons_zero, List.getElem?_map, List.length_map, List.length_cons, List.length_nil, List.length_append, List.map_append, Option.bind_some, Option.bind_none, Option.map_some, Option.map_none, if_true, if_false, ite_true, ite_false, if_false_right, decide_eq_true_eq, Bool.not_eq_true', decide_eq_false_iff_not, Bool.not_eq_true, reduceCtorEq, reduceIte, ne_eq, not_false_eq_true, not_true_eq_false, true_and, and_true, false_and, and_false, implies_true, Bool.false_eq_true, List.isEmpty_cons, List.isEmpty_nil, Bool.not_true, Bool.not_false, List.map_cons, List.map_nil, List.cons_append, List.nil_append, List.replicate_succ, List.replicate_zero, Nat.reduceSub, Nat.reduceAdd, Nat.reduceMul, Int.reduceSub, Int.reduceNeg, Int.reduceAdd, Int.reduceMul, Int.reducePow, Int.reduceToNat, Nat.reduceLeDiff, lock, unls, unl, wip, rsto, fzO, frz, noal, lfree, lfrees, lfrees_ints, aft, Bool.and_self, Bool.and_true, Bool.true_and, c3, decide_true]
          rw [hfin, led_cons, if_pos (.inr (.inr (by rw [Int.toNat_natCast, List.getElem?_eq_getElem hp0]; exact c3)))]
          rfl
        · obtain ⟨g1, g2⟩ := nudge_sets now p' hp
          have pc : ((p' : Int) + 1) = ((p' + 1 : Nat) : Int) := by omega
          simp -implicitDefEqProofs only [↓Wp_def, Wp_some, Wp_none, Wp_bind, Wp_ite, Wp_map, wNil, wEx, wAsg, wApp, wSto, wAug, augD, augK_some, augK_none, stE, wAugs, wRetV, wRet, wRetn, wIfe, FQ_nx, FQ_rt, eCon, eVar, eBin, eNeg, eNott, eAndd, eOrr, eCmp, eChain, eChain3, eIte, eTup, eLst, eIdx, eIdxm, eLenset, eJoin, eSlc, eRev, eCall, eFn, ePop, ePopAt, tVal, tAndd, tOrr, tNott, toNone, toSome, oNone, oSome, esNil, esCons, hsNil, hsCons, hVar, hCon, hBin, hNeg, hNott, hAndd, hOrr, hCmp, hChain, hChain3, hIte, hTup, hLst, hIdx, hIdxm, hLenset, hJoin, hSlc, hRev, hCall, hFn, hLc, hGq, hPop, hPopAt, iSeq, iRng1, iRng2, iEnm, iZip, RV.fetch, fetchs, asn1, asnT, asnN, asnC, lkU, lkS, lkO, lkL, slF, slL, leC, leUs, leUo, leN, PyData.int.injEq, PyData.bool.injEq, PyData.str.injEq, PyData.tuple.injEq, PyData.list.injEq, Prod.mk.injEq, List.cons.injEq, Sum.inl.injEq, Option.some.injEq, leS, leO, leL, ow?, retD, varD, hvar, rAdd, rAddL, rAddT, rAddS, rSub, rMul, rPow, aAdd, aSub, aAddS, cLt, cLe, cGt, cGe, cEqI, cNeI, cEqB, cNeB, truI, truB, truL, truT, truN, intI, ixL, ixT, atN, atL, atM, atPlus, atPlus2, fdiv_pos, mod_pos, Int.reduceLT, Int.reduceLE, Int.reduceEq, Int.reduceMod, Int.reduceDiv, Nat.reduceLT, fnLenL, fnLenT, fnLenF, fnLenS, fnAbs, fnInt, fnList, fnListT, fnTuple, fnTupleT, fnMax2, fnMin2, fnSumL, fnSumT, fnMaxL, fnMaxT, fnMinL, fnMinT, fnAllL, fnAnyL, fnIsNone, fnNotNone, fnIsInt, fnIsBool, fnIsStr, fnIsTup, nN, nI, nB, nS, nL, nT, itmL, itmT, itmS, enmL', enmS', lckV, slcT, slcL, slcS, rgD_nat, rgD_pred, rgD_succ, setIxE, intsOf_ints, boolsOf_bools, strsOf_strs, List.getElem?_cons_succ, List.getElem?_cons_zero, List.set_cons_succ, List.set_cons_zero, List.getElem?_map, List.length_map, List.length_cons, List.length_nil, List.length_append, List.map_append, Option.bind_some, Option.bind_none, Option.map_some, Option.map_none, if_true, if_false, ite_true, ite_false, if_false_right, decide_eq_true_eq, Bool.not_eq_true', decide_eq_false_iff_not, Bool.not_eq_true, reduceCtorEq, reduceIte, ne_eq, not_false_eq_true, not_true_eq_false, true_and, and_true, false_and, and_false, implies_true, Bool.false_eq_true, List.isEmpty_cons, List.isEmpty_nil, Bool.not_true, Bool.not_false, List.map_cons, List.map_nil, List.cons_append, List.nil_append, List.replicate_succ, List.replicate_zero, Nat.reduceSub, Nat.reduceAdd, Nat.reduceMul, Int.reduceSub, Int.reduceNeg, Int.reduceAdd, Int.reduceMul, Int.reducePow, Int.reduceToNat, Nat.reduceLeDiff, lock, unls, unl, wip, rsto, fzO, frz, noal, lfree, lfrees, lfrees_ints, aft, Bool.and_self, Bool.and_true, Bool.true_and, c3, decide_false, List.getElem?_eq_getElem hp0, ixNn hp0, g1, g2, pc, List.length_set, ixNn hp]
          refine ⟨nud now p', ?_, ?_⟩
          · rw [led_append, hled]
            show led now [(p' : Int)] = _
            rw [led_cons, if_neg (by rw [Int.toNat_natCast, List.getElem?_eq_getElem hp0]; simp only [Option.getD_some]; omega), Int.toNat_natCast]
            rfl
          · simp -implicitDefEqProofs only [↓Wp_def, Wp_some, Wp_none, Wp_bind, Wp_ite, Wp_map, wNil, wEx, wAsg, wApp, wSto, wAug, augD, augK_some, augK_none, stE, wAugs, wRetV, wRet, wRetn, wIfe, FQ_nx, FQ_rt, eCon, eVar, eBin, eNeg, eNott, eAndd, eOrr, eCmp, eChain, eChain3, eIte, eTup, eLst, eIdx, eIdxm, eLenset, eJoin, eSlc, eRev, eCall, eFn, ePop, ePopAt, tVal, tAndd, tOrr, tNott, toNone, toSome, oNone, oSome, esNil, esCons, hsNil, hsCons, hVar, hCon, hBin, hNeg, hNott, hAndd, hOrr, hCmp, hChain, hChain3, hIte, hTup, hLst, hIdx, hIdxm, hLenset, hJoin, hSlc, hRev, hCall, hFn, hLc, hGq, hPop, hPopAt, iSeq, iRng1, iRng2, iEnm, iZip, RV.fetch, fetchs, asn1, asnT, asnN, asnC, lkU, lkS, lkO, lkL, slF, slL, leC, leUs, leUo, leN, PyData.int.injEq, PyData.bool.injEq, PyData.str.injEq, PyData.tuple.injEq, PyData.list.injEq, Prod.mk.injEq, List.cons.injEq, Sum.inl.injEq, Option.some.injEq, leS, leO, leL, ow?, retD, varD, hvar, rAdd, rAddL, rAddT, rAddS, rSub, rMul, rPow, aAdd, aSub, aAddS, cLt, cLe, cGt, cGe, cEqI, cNeI, cEqB, cNeB, truI, truB, truL, truT, truN, intI, ixL, ixT, atN, atL, atM, atPlus, atPlus2, fdiv_pos, mod_pos, Int.reduceLT, Int.reduceLE, Int.reduceEq, Int.reduceMod, Int.reduceDiv, Nat.reduceLT, fnLenL, fnLenT, fnLenF, fnLenS, fnAbs, fnInt, fnList, fnListT, fnTuple, fnTupleT, fnMax2, fnMin2, fnSumL, fnSumT, fnMaxL, fnMaxT, fnMinL, fnMinT, fnAllL, fnAnyL, fnIsNone, fnNotNone, fnIsInt, fnIsBool, fnIsStr, fnIsTup, nN, nI, nB, nS, nL, nT, itmL, itmT, itmS, enmL', enmS', lckV, slcT, slcL, slcS, rgD_nat, rgD_pred, rgD_succ, setIxE, intsOf_ints, boolsOf_bools, strsOf_strs, List.getElem?_cons_succ, List.getElem?_cons_zero, List.set_cons_succ, List.set_cons_zero, List.getElem?_map, List.length_map, List.length_cons, List.length_nil, List.length_append, List.map_append, Option.bind_some, Option.bind_none, Option.map_some, Option.map_none, if_true, if_false, ite_true, ite_false, if_false_right, decide_eq_true_eq, Bool.not_eq_true', decide_eq_false_iff_not, Bool.not_eq_true, reduceCtorEq, reduceIte, ne_eq, not_false_eq_true, not_true_eq_false, true_and, and_true, false_and, and_false, implies_true, Bool.false_eq_true, List.isEmpty_cons, List.isEmpty_nil, Bool.not_true, Bool.not_false, List.map_cons, List.map_nil, List.cons_append, List.nil_append, List.replicate_succ, List.replicate_zero, Nat.reduceSub, Nat.reduceAdd, Nat.reduceMul, Int.reduceSub, Int.reduceNeg, Int.reduceAdd, Int.reduceMul, Int.reducePow, Int.reduceToNat, Nat.reduceLeDiff, lock, unls, unl, wip, rsto, fzO, frz, noal, lfree, lfrees, lfrees_ints, aft, Bool.and_self, Bool.and_true, Bool.true_and]
  · intro now hled
    simp -implicitDefEqProofs only [↓Wp_def, Wp_some, Wp_none, Wp_bind, Wp_ite, Wp_map, wNil, wEx, wAsg, wApp, wSto, wAug, augD, augK_some, augK_none, stE, wAugs, wRetV, wRet, wRetn, wIfe, FQ_nx, FQ_rt, eCon, eVar, eBin, eNeg, eNott, eAndd, eOrr, eCmp, eChain, eChain3, eIte, eTup, eLst, eIdx, eIdxm, eLenset, eJoin, eSlc, eRev, eCall, eFn, ePop, ePopAt, tVal, tAndd, tOrr, tNott, toNone, toSome, oNone, oSome, esNil, esCons, hsNil, hsCons, hVar, hCon, hBin, hNeg, hNott, hAndd, hOrr, hCmp, hChain, hChain3, hIte, hTup, hLst, hIdx, hIdxm, hLenset, hJoin, hSlc, hRev, hCall, hFn, hLc, hGq, hPop, hPopAt, iSeq, iRng1, iRng2, iEnm, iZip, RV.fetch, fetchs, asn1, asnT, asnN, asnC, lkU, lkS, lkO, lkL, slF, slL, leC, leUs, leUo, leN, PyData.int.injEq, PyData.bool.injEq, PyData.str.injEq, PyData.tuple.injEq, PyData.list.injEq, Prod.mk.injEq, List.cons.injEq, Sum.inl.injEq, Option.some.injEq, leS, leO, leL, ow?, retD, varD, hvar, rAdd, rAddL, rAddT, rAddS, rSub, rMul, rPow, aAdd, aSub, aAddS, cLt, cLe, cGt, cGe, cEqI, cNeI, cEqB, cNeB, truI, truB, truL, truT, truN, intI, ixL, ixT, atN, atL, atM, atPlus, atPlus2, fdiv_pos, mod_pos, Int.reduceLT, Int.reduceLE, Int.reduceEq, Int.reduceMod, Int.reduceDiv, Nat.reduceLT, fnLenL, fnLenT, fnLenF, fnLenS, fnAbs, fnInt, fnList, fnListT, fnTuple, fnTupleT, fnMax2, fnMin2, fnSumL, fnSumT, fnMaxL, fnMaxT, fnMinL, fnMinT, fnAllL, fnAnyL, fnIsNone, fnNotNone, fnIsInt, fnIsBool, fnIsStr, fnIsTup, nN, nI, nB, nS, nL, nT, itmL, itmT, itmS, enmL', enmS', lckV, slcT, slcL, slcS, rgD_nat, rgD_pred, rgD_succ, setIxE, intsOf_ints, boolsOf_bools, strsOf_strs, List.getElem?_cons_succ, List.getElem?_cons_zero, List.set_cons_succ, List.set_cons_zero, List.getElem?_map, List.length_map, List.length_cons, List.length_nil, List.length_append, List.map_append, Option.bind_some, Option.bind_none, Option.map_some, Option.map_none, if_true, if_false, ite_true, ite_false, if_false_right, decide_eq_true_eq, Bool.not_eq_true', decide_eq_false_iff_not, Bool.not_eq_true, reduceCtorEq, reduceIte, ne_eq, not_false_eq_true, not_true_eq_false, true_and, and_true, false_and, and_false, implies_true, Bool.false_eq_true, List.isEmpty_cons, List.isEmpty_nil, Bool.not_true, Bool.not_false, List.map_cons, List.map_nil, List.cons_append, List.nil_append, List.replicate_succ, List.replicate_zero, Nat.reduceSub, Nat.reduceAdd, Nat.reduceMul, Int.reduceSub, Int.reduceNeg, Int.reduceAdd, Int.reduceMul, Int.reducePow, Int.reduceToNat, Nat.reduceLeDiff, lock, unls, unl, wip, rsto, fzO, frz, noal, lfree, lfrees, lfrees_ints, aft, Bool.and_self, Bool.and_true, Bool.true_and]
    rw [hled]
    rfl
end KX

namespace KX
open PySem RV K73
theorem drw_at {n : Nat} {D : List Int} (h : Drw n D) {j : Nat} (hj : j < n) : ∃ d, D[j]? = some d ∧ 0 ≤ d ∧ d < 5040 := by
  have hj' : j < D.length := by rw [h.1]; exact hj
  exact ⟨D[j], List.getElem?_eq_getElem hj', h.2 _ (List.getElem_mem hj')⟩
theorem drw_take {n m : Nat} {D : List Int} (h : Drw n D) (hm : m ≤ n) : Drw m (D.take m) := ⟨by rw [List.length_take, h.1]; omega, fun d hd => h.2 d (List.mem_of_mem_take hd)⟩
theorem drw_drop {n m : Nat} {D : List Int} (h : Drw n D) (hm : m ≤ n) : Drw (n - m) (D.drop m) := ⟨by rw [List.length_drop, h.1], fun d hd => h.2 d (List.mem_of_mem_drop hd)⟩
theorem mod_nat {d m : Int} (h : 0 < m) : ∃ n : Nat, d % m = n ∧ (n : Int) < m := ⟨(d % m).toNat, (Int.toNat_of_nonneg (Int.emod_nonneg _ (by omega))).symm, by rw [Int.toNat_of_nonneg (Int.emod_nonneg _ (by omega))]; exact Int.emod_lt_of_pos _ h⟩
theorem cut_fromA {α : Type} {xs : List α} {p : Nat} : cutD xs (some (p : Int)) none = xs.drop p := by
  have e : HT.sIx xs.length 0 (some (p : Int)) = min p xs.length := HT.sIx_nat ..
  unfold cutD
  rw [e]
  show (xs.drop (min p xs.length)).take (HT.sIx xs.length xs.length none - min p xs.length) = _
  have e2 : HT.sIx xs.length xs.length none = xs.length := rfl
  rw [e2]
  by_cases h : p ≤ xs.length
  · rw [Nat.min_eq_left h]
    exact List.take_of_length_le (by rw [List.length_drop]; omega)
  · rw [Nat.min_eq_right (by omega), List.drop_of_length_le (show xs.length ≤ p by omega), List.drop_length]
    simp
theorem cut_mid {α : Type} {xs : List α} {p q : Nat} (hq : q ≤ xs.length) (hp : p ≤ q) : cutD xs (some (p : Int)) (some (q : Int)) = (xs.drop p).take (q - p) := by
  have e : HT.sIx xs.length 0 (some (p : Int)) = min p xs.length := HT.sIx_nat ..
  have e2 : HT.sIx xs.length xs.length (some (q : Int)) = min q xs.length := HT.sIx_nat ..
  unfold cutD
  rw [e, e2, Nat.min_eq_left (show p ≤ xs.length by omega), Nat.min_eq_left hq]
def Bd (l : List Int) : Prop := ∀ z ∈ l, 0 ≤ z ∧ z ≤ 15
def t20 : Int := 100000000000000000000
theorem pow20 : op2 .pow (.int 10) (.int 20) = some (.int t20, false) := by
  rw [rPow, if_pos (by decide)]
  have : (10 : Int) ^ (20 : Int).toNat = t20 := by decide
  rw [this]
theorem odd_pick {a b c d : Int} (h0 : 0 ≤ d) : ∃ M : Int, L2.atI [PyData.int a, .int b, .int c] (d / 60 % 14 / 6) = some (.int M) := by
  obtain ⟨n, h1⟩ : ∃ n : Nat, d / 60 % 14 / 6 = n := ⟨(d / 60 % 14 / 6).toNat, by omega⟩
  have : n = 0 ∨ n = 1 ∨ n = 2 := by omega
  rw [h1, atN]
  rcases this with rfl | rfl | rfl
  · exact ⟨a, rfl⟩
  · exact ⟨b, rfl⟩
  · exact ⟨c, rfl⟩
theorem bent_ok {k : Nat} (hk : 1 ≤ k) (row D : List Int) (m : Nat) (hl : row.length ≤ 1000) (hD : Drw 3 D) (hm : m ≤ 1000) : ∃ qs : List Int, run prog wf k 10 [T row, .list (D.map .int), .int m] = some (T qs, false) := by
  have main : Wp (run prog wf k 10 [T row, .list (D.map .int), .int m]) fun x => ∃ qs : List Int, x = (T qs, false) := by
    refine run_wp (d := 0) (p := c10) rfl hk fun k _ => Wp.fn rfl ?_
    unfold c10
    obtain ⟨d0, e0, f0, _⟩ := drw_at hD (j := 0) (by decide)
    obtain ⟨d1, e1, f1, _⟩ := drw_at hD (j := 1) (by decide)
    obtain ⟨d2, e2, f2, _⟩ := drw_at hD (j := 2) (by decide)
    obtain ⟨p, hp, hp2⟩ := mod_nat (d := d1) (m := (row.length : Int) + 1) (by omega)
    obtain ⟨M, hM⟩ := odd_pick (a := d2 % ((m : Int) + 3) - 1) (b := t20) (c := -1) (d := d2) f2
    have g1 : (0 : Int) < (row.length : Int) + 1 := by omega
    have g2 : (0 : Int) < (m : Int) + 3 := by omega
    have c1 : cutD (row.map PyData.int) none (some (p : Int)) = (row.take p).map .int := by rw [cut_to, List.map_take]
    have c2 : cutD (row.map PyData.int) (some ((p : Int) + 1)) none = (row.drop (p + 1)).map .int := by rw [show ((p : Int) + 1) = ((p + 1 : Nat) : Int) by omega, cut_fromA, List.map_drop]
    have c3 : cutD (row.map PyData.int) (some (p : Int)) none = (row.drop p).map .int := by rw [cut_fromA, List.map_drop]
    have c4 : cutD (row.map PyData.int) (some (max 0 ((p : Int) - 1))) none = (row.drop (p - 1)).map .int := by rw [show max 0 ((p : Int) - 1) = ((p - 1 : Nat) : Int) by omega, cut_fromA, List.map_drop]
    have z1 : (row.take p).length ≤ 1000 := by rw [List.length_take]; omega
    have z2 : ∀ j, (row.drop j).length ≤ 1000 := fun j => by rw [List.length_drop]; omega
    have s1 : (row.take p).length + (row.drop (p + 1)).length ≤ sizeLine := szN (by have := z2 (p + 1); omega)
    have s2 : (row.take p).length + 1 ≤ sizeLine := szN (by omega)
    have s3 : (row.take p).length + 1 + (row.drop p).length ≤ sizeLine := szN (by have := z2 p; omega)
    have s4 : (row.take p).length + 1 + (row.drop (p + 1)).length ≤ sizeLine := szN (by have := z2 (p + 1); omega)
    have s5 : (row.take p).length + (row.drop (p - 1)).length ≤ sizeLine := szN (by have := z2 (p - 1); omega)
    have fin : ∀ {xs : List PyData} (qs : List Int), xs = qs.map .int → ∃ q : List Int, xs = q.map .int := fun qs h => ⟨qs, h⟩
    simp -implicitDefEqProofs only [↓Wp_def, Wp_some, Wp_none, Wp_bind, Wp_ite, Wp_map, wNil, wEx, wAsg, wApp, wSto, wAug, augD, augK_some, augK_none, stE, wAugs, wRetV, wRet, wRetn, wIfe, FQ_nx, FQ_rt, eCon, eVar, eBin, eNeg, eNott, eAndd, eOrr, eCmp, eChain, eChain3, eIte, eTup, eLst, eIdx, eIdxm, eLenset, eJoin, eSlc, eRev, eCall, eFn, ePop, ePopAt, tVal, tAndd, tOrr, tNott, toNone, toSome, oNone, oSome, esNil, esCons, hsNil, hsCons, hVar, hCon, hBin, hNeg, hNott, hAndd, hOrr, hCmp, hChain, hChain3, hIte, hTup, hLst, hIdx, hIdxm, hLenset, hJoin, hSlc, hRev, hCall, hFn, hLc, hGq, hPop, hPopAt, iSeq, iRng1, iRng2, iEnm, iZip, RV.fetch, fetchs, asn1, asnT, asnN, asnC, lkU, lkS, lkO, lkL, slF, slL, leC, leUs, leUo, leN, PyData.int.injEq, PyData.bool.injEq, PyData.str.injEq, PyData.tuple.injEq, PyData.list.injEq, Prod.mk.injEq, List.cons.injEq, Sum.inl.injEq, Option.some.injEq, leS, leO, leL, ow?, retD, varD, hvar, rAdd, rAddL, rAddT, rAddS, rSub, rMul, aAdd, aSub, aAddS, cLt, cLe, cGt, cGe, cEqI, cNeI, cEqB, cNeB, truI, truB, truL, truT, truN, intI, ixL, ixT, atN, atL, atM, atPlus, atPlus2, fdiv_pos, mod_pos, Int.reduceLT, Int.reduceLE, Int.reduceEq, Int.reduceMod, Int.reduceDiv, Nat.reduceLT, fnLenL, fnLenT, fnLenF, fnLenS, fnAbs, fnInt, fnList, fnListT, fnTuple, fnTupleT, fnMax2, fnMin2, fnSumL, fnSumT, fnMaxL, fnMaxT, fnMinL, fnMinT, fnAllL, fnAnyL, fnIsNone, fnNotNone, fnIsInt, fnIsBool, fnIsStr, fnIsTup, nN, nI, nB, nS, nL, nT, itmL, itmT, itmS, enmL', enmS', lckV, slcT, slcL, slcS, rgD_nat, rgD_pred, rgD_succ, setIxE, intsOf_ints, boolsOf_bools, strsOf_strs, List.getElem?_cons_succ, List.getElem?_cons_zero, List.set_cons_succ, List.set_cons_zero, List.getElem?_map, List.length_map, List.length_cons, List.length_nil, List.length_append, List.map_append, Option.bind_some, Option.bind_none, Option.map_some, Option.map_none, if_true, if_false, ite_true, ite_false, if_false_right, decide_eq_true_eq, Bool.not_eq_true', decide_eq_false_iff_not, Bool.not_eq_true, reduceCtorEq, reduceIte, ne_eq, not_false_eq_true, not_true_eq_false, true_and, and_true, false_and, and_false, implies_true, Bool.false_eq_true, List.isEmpty_cons, List.isEmpty_nil, Bool.not_true, Bool.not_false, List.map_cons, List.map_nil, List.cons_append, List.nil_append, List.replicate_succ, List.replicate_zero, Nat.reduceSub, Nat.reduceAdd, Nat.reduceMul, Int.reduceSub, Int.reduceNeg, Int.reduceAdd, Int.reduceMul, Nat.reduceLeDiff, lock, unls, unl, wip, rsto, fzO, frz, noal, lfree, lfrees, lfrees_ints, aft, Bool.and_self, Bool.and_true, Bool.true_and, e0, e1, e2, g1, g2, hp, pow20, hM, show (0 + 1 + 1 + 1 : Nat) ≤ sizeLine by decide, show (3 : Nat) ≤ sizeLine by decide, Nat.zero_add, show (0 : Int) - 1 = -1 by decide]
    by_cases w0 : d0 % 6 = 0
    · simp -implicitDefEqProofs only [↓Wp_def, Wp_some, Wp_none, Wp_bind, Wp_ite, Wp_map, wNil, wEx, wAsg, wApp, wSto, wAug, augD, augK_some, augK_none, stE, wAugs, wRetV, wRet, wRetn, wIfe, FQ_nx, FQ_rt, eCon, eVar, eBin, eNeg, eNott, eAndd, eOrr, eCmp, eChain, eChain3, eIte, eTup, eLst, eIdx, eIdxm, eLenset, eJoin, eSlc, eRev, eCall, eFn, ePop, ePopAt, tVal, tAndd, tOrr, tNott, toNone, toSome, oNone, oSome, esNil, esCons, hsNil, hsCons, hVar, hCon, hBin, hNeg, hNott, hAndd, hOrr, hCmp, hChain, hChain3, hIte, hTup, hLst, hIdx, hIdxm, hLenset, hJoin, hSlc, hRev, hCall, hFn, hLc, hGq, hPop, hPopAt, iSeq, iRng1, iRng2, iEnm, iZip, RV.fetch, fetchs, asn1, asnT, asnN, asnC, lkU, lkS, lkO, lkL, slF, slL, leC, leUs, leUo, leN, PyData.int.injEq, PyData.bool.injEq, PyData.str.injEq, PyData.tuple.injEq, PyData.list.injEq, Prod.mk.injEq, List.cons.injEq, Sum.inl.injEq, Option.some.injEq, leS, leO, leL, ow?, retD, varD, hvar, rAdd, rAddL, rAddT, rAddS, rSub, rMul, rPow, aAdd, aSub, aAddS, cLt, cLe, cGt, cGe, cEqI, cNeI, cEqB, cNeB, truI, truB, truL, truT, truN, intI, ixL, ixT, atN, atL, atM, atPlus, atPlus2, fdiv_pos, mod_pos, Int.reduceLT, Int.reduceLE, Int.reduceEq, Int.reduceMod, Int.reduceDiv, Nat.reduceLT, fnLenL, fnLenT, fnLenF, fnLenS, fnAbs, fnInt, fnList, fnListT, fnTuple, fnTupleT, fnMax2, fnMin2, fnSumL, fnSumT, fnMaxL, fnMaxT, fnMinL, fnMinT, fnAllL, fnAnyL, fnIsNone, fnNotNone, fnIsInt, fnIsBool, fnIsStr, fnIsTup, nN, nI, nB, nS, nL, nT, itmL, itmT, itmS, enmL', enmS', lckV, slcT, slcL, slcS, rgD_nat, rgD_pred, rgD_succ, setIxE, intsOf_ints, boolsOf_bools, strsOf_strs, List.getElem?_cons_succ, List.getElem?_cons_zero, List.set_cons_succ, List.set_cons_zero, List.getElem?_map, List.length_map, List.length_cons, List.length_nil, List.length_append, List.map_append, Option.bind_some, Option.bind_none, Option.map_some, Option.map_none, if_true, if_false, ite_true, ite_false, if_false_right, decide_eq_true_eq, Bool.not_eq_true', decide_eq_false_iff_not, Bool.not_eq_true, reduceCtorEq, reduceIte, ne_eq, not_false_eq_true, not_true_eq_false, true_and, and_true, false_and, and_false, implies_true, Bool.false_eq_true, List.isEmpty_cons, List.isEmpty_nil, Bool.not_true, Bool.not_false, List.map_cons, List.map_nil, List.cons_append, List.nil_append, List.replicate_succ, List.replicate_zero, Nat.reduceSub, Nat.reduceAdd, Nat.reduceMul, Int.reduceSub, Int.reduceNeg, Int.reduceAdd, Int.reduceMul, Int.reducePow, Int.reduceToNat, Nat.reduceLeDiff, lock, unls, unl, wip, rsto, fzO, frz, noal, lfree, lfrees, lfrees_ints, aft, Bool.and_self, Bool.and_true, Bool.true_and, w0, c1, c2, s1, decide_true]
      exact ⟨row.take p ++ row.drop (p + 1), by simp⟩
    · by_cases w1 : d0 % 6 = 1
      · simp -implicitDefEqProofs only [↓Wp_def, Wp_some, Wp_none, Wp_bind, Wp_ite, Wp_map, wNil, wEx, wAsg, wApp, wSto, wAug, augD, augK_some, augK_none, stE, wAugs, wRetV, wRet, wRetn, wIfe, FQ_nx, FQ_rt, eCon, eVar, eBin, eNeg, eNott, eAndd, eOrr, eCmp, eChain, eChain3, eIte, eTup, eLst, eIdx, eIdxm, eLenset, eJoin, eSlc, eRev, eCall, eFn, ePop, ePopAt, tVal, tAndd, tOrr, tNott, toNone, toSome, oNone, oSome, esNil, esCons, hsNil, hsCons, hVar, hCon, hBin, hNeg, hNott, hAndd, hOrr, hCmp, hChain, hChain3, hIte, hTup, hLst, hIdx, hIdxm, hLenset, hJoin, hSlc, hRev, hCall, hFn, hLc, hGq, hPop, hPopAt, iSeq, iRng1, iRng2, iEnm, iZip, RV.fetch, fetchs, asn1, asnT, asnN, asnC, lkU, lkS, lkO, lkL, slF, slL, leC, leUs, leUo, leN, PyData.int.injEq, PyData.bool.injEq, PyData.str.injEq, PyData.tuple.injEq, PyData.list.injEq, Prod.mk.injEq, List.cons.injEq, Sum.inl.injEq, Option.some.injEq, leS, leO, leL, ow?, retD, varD, hvar, rAdd, rAddL, rAddT, rAddS, rSub, rMul, rPow, aAdd, aSub, aAddS, cLt, cLe, cGt, cGe, cEqI, cNeI, cEqB, cNeB, truI, truB, truL, truT, truN, intI, ixL, ixT, atN, atL, atM, atPlus, atPlus2, fdiv_pos, mod_pos, Int.reduceLT, Int.reduceLE, Int.reduceEq, Int.reduceMod, Int.reduceDiv, Nat.reduceLT, fnLenL, fnLenT, fnLenF, fnLenS, fnAbs, fnInt, fnList, fnListT, fnTuple, fnTupleT, fnMax2, fnMin2, fnSumL, fnSumT, fnMaxL, fnMaxT, fnMinL, fnMinT, fnAllL, fnAnyL, fnIsNone, fnNotNone, fnIsInt, fnIsBool, fnIsStr, fnIsTup, nN, nI, nB, nS, nL, nT, itmL, itmT, itmS, enmL', enmS', lckV, slcT, slcL, slcS, rgD_nat, rgD_pred, rgD_succ, setIxE, intsOf_ints, boolsOf_bools, strsOf_strs, List.getElem?_cons_succ, List.getElem?_cons_zero, List.set_cons_succ, List.set_cons_zero, List.getElem?_map, List.length_map, List.length_cons, List.length_nil, List.length_append, List.map_append, Option.bind_some, Option.bind_none, Option.map_some, Option.map_none, if_true, if_false, ite_true, ite_false, if_false_right, decide_eq_true_eq, Bool.not_eq_true', decide_eq_false_iff_not, Bool.not_eq_true, reduceCtorEq, reduceIte, ne_eq, not_false_eq_true, not_true_eq_false, true_and, and_true, false_and, and_false, implies_true, Bool.false_eq_true, List.isEmpty_cons, List.isEmpty_nil, Bool.not_true, Bool.not_false, List.map_cons, List.map_nil, List.cons_append, List.nil_append, List.replicate_succ, List.replicate_zero, Nat.reduceSub, Nat.reduceAdd, Nat.reduceMul, Int.reduceSub, Int.reduceNeg, Int.reduceAdd, Int.reduceMul, Int.reducePow, Int.reduceToNat, Nat.reduceLeDiff, lock, unls, unl, wip, rsto, fzO, frz, noal, lfree, lfrees, lfrees_ints, aft, Bool.and_self, Bool.and_true, Bool.true_and, w1, c1, c3, s2, s3, decide_true, decide_false, Nat.zero_add, show (1 : Nat) ≤ sizeLine by decide, show (0 + 1 : Nat) ≤ sizeLine by decide]
        exact ⟨row.take p ++ [M] ++ row.drop p, by simp⟩
      · by_cases w2 : d0 % 6 < 4
        · simp -implicitDefEqProofs only [↓Wp_def, Wp_some, Wp_none, Wp_bind, Wp_ite, Wp_map, wNil, wEx, wAsg, wApp, wSto, wAug, augD, augK_some, augK_none, stE, wAugs, wRetV, wRet, wRetn, wIfe, FQ_nx, FQ_rt, eCon, eVar, eBin, eNeg, eNott, eAndd, eOrr, eCmp, eChain, eChain3, eIte, eTup, eLst, eIdx, eIdxm, eLenset, eJoin, eSlc, eRev, eCall, eFn, ePop, ePopAt, tVal, tAndd, tOrr, tNott, toNone, toSome, oNone, oSome, esNil, esCons, hsNil, hsCons, hVar, hCon, hBin, hNeg, hNott, hAndd, hOrr, hCmp, hChain, hChain3, hIte, hTup, hLst, hIdx, hIdxm, hLenset, hJoin, hSlc, hRev, hCall, hFn, hLc, hGq, hPop, hPopAt, iSeq, iRng1, iRng2, iEnm, iZip, RV.fetch, fetchs, asn1, asnT, asnN, asnC, lkU, lkS, lkO, lkL, slF, slL, leC, leUs, leUo, leN, PyData.int.injEq, PyData.bool.injEq, PyData.str.injEq, PyData.tuple.injEq, PyData.list.injEq, Prod.mk.injEq, List.cons.injEq, Sum.inl.injEq, Option.some.injEq, leS, leO, leL, ow?, retD, varD, hvar, rAdd, rAddL, rAddT, rAddS, rSub, rMul, rPow, aAdd, aSub, aAddS, cLt, cLe, cGt, cGe, cEqI, cNeI, cEqB, cNeB, truI, truB, truL, truT, truN, intI, ixL, ixT, atN, atL, atM, atPlus, atPlus2, fdiv_pos, mod_pos, Int.reduceLT, Int.reduceLE, Int.reduceEq, Int.reduceMod, Int.reduceDiv, Nat.reduceLT, fnLenL, fnLenT, fnLenF, fnLenS, fnAbs, fnInt, fnList, fnListT, fnTuple, fnTupleT, fnMax2, fnMin2, fnSumL, fnSumT, fnMaxL, fnMaxT, fnMinL, fnMinT, fnAllL, fnAnyL, fnIsNone, fnNotNone, fnIsInt, fnIsBool, fnIsStr, fnIsTup, nN, nI, nB, nS, nL, nT, itmL, itmT, itmS, enmL', enmS', lckV, slcT, slcL, slcS, rgD_nat, rgD_pred, rgD_succ, setIxE, intsOf_ints, boolsOf_bools, strsOf_strs, List.getElem?_cons_succ, List.getElem?_cons_zero, List.set_cons_succ, List.set_cons_zero, List.getElem?_map, List.length_map, List.length_cons, List.length_nil, List.length_append, List.map_append, Option.bind_some, Option.bind_none, Option.map_some, Option.map_none, if_true, if_false, ite_true, ite_false, if_false_right, decide_eq_true_eq, Bool.not_eq_true', decide_eq_false_iff_not, Bool.not_eq_true, reduceCtorEq, reduceIte, ne_eq, not_false_eq_true, not_true_eq_false, true_and, and_true, false_and, and_false, implies_true, Bool.false_eq_true, List.isEmpty_cons, List.isEmpty_nil, Bool.not_true, Bool.not_false, List.map_cons, List.map_nil, List.cons_append, List.nil_append, List.replicate_succ, List.replicate_zero, Nat.reduceSub, Nat.reduceAdd, Nat.reduceMul, Int.reduceSub, Int.reduceNeg, Int.reduceAdd, Int.reduceMul, Int.reducePow, Int.reduceToNat, Nat.reduceLeDiff, lock, unls, unl, wip, rsto, fzO, frz, noal, lfree, lfrees, lfrees_ints, aft, Bool.and_self, Bool.and_true, Bool.true_and, w0, w1, w2, c1, c2, s2, s4, decide_true, decide_false, Nat.zero_add, show (1 : Nat) ≤ sizeLine by decide, show (0 + 1 : Nat) ≤ sizeLine by decide]
          exact ⟨row.take p ++ [M] ++ row.drop (p + 1), by simp⟩
        · by_cases w3 : d0 % 6 = 4
          · simp -implicitDefEqProofs only [↓Wp_def, Wp_some, Wp_none, Wp_bind, Wp_ite, Wp_map, wNil, wEx, wAsg, wApp, wSto, wAug, augD, augK_some, augK_none, stE, wAugs, wRetV, wRet, wRetn, wIfe, FQ_nx, FQ_rt, eCon, eVar, eBin, eNeg, eNott, eAndd, eOrr, eCmp, eChain, eChain3, eIte, eTup, eLst, eIdx, eIdxm, eLenset, eJoin, eSlc, eRev, eCall, eFn, ePop, ePopAt, tVal, tAndd, tOrr, tNott, toNone, toSome, oNone, oSome, esNil, esCons, hsNil, hsCons, hVar, hCon, hBin, hNeg, hNott, hAndd, hOrr, hCmp, hChain, hChain3, hIte, hTup, hLst, hIdx, hIdxm, hLenset, hJoin, hSlc, hRev, hCall, hFn, hLc, hGq, hPop, hPopAt, iSeq, iRng1, iRng2, iEnm, iZip, RV.fetch, fetchs, asn1, asnT, asnN, asnC, lkU, lkS, lkO, lkL, slF, slL, leC, leUs, leUo, leN, PyData.int.injEq, PyData.bool.injEq, PyData.str.injEq, PyData.tuple.injEq, PyData.list.injEq, Prod.mk.injEq, List.cons.injEq, Sum.inl.injEq, Option.some.injEq, leS, leO, leL, ow?, retD, varD, hvar, rAdd, rAddL, rAddT, rAddS, rSub, rMul, rPow, aAdd, aSub, aAddS, cLt, cLe, cGt, cGe, cEqI, cNeI, cEqB, cNeB, truI, truB, truL, truT, truN, intI, ixL, ixT, atN, atL, atM, atPlus, atPlus2, fdiv_pos, mod_pos, Int.reduceLT, Int.reduceLE, Int.reduceEq, Int.reduceMod, Int.reduceDiv, Nat.reduceLT, fnLenL, fnLenT, fnLenF, fnLenS, fnAbs, fnInt, fnList, fnListT, fnTuple, fnTupleT, fnMax2, fnMin2, fnSumL, fnSumT, fnMaxL, fnMaxT, fnMinL, fnMinT, fnAllL, fnAnyL, fnIsNone, fnNotNone, fnIsInt, fnIsBool, fnIsStr, fnIsTup, nN, nI, nB, nS, nL, nT, itmL, itmT, itmS, enmL', enmS', lckV, slcT, slcL, slcS, rgD_nat, rgD_pred, rgD_succ, setIxE, intsOf_ints, boolsOf_bools, strsOf_strs, List.getElem?_cons_succ, List.getElem?_cons_zero, List.set_cons_succ, List.set_cons_zero, List.getElem?_map, List.length_map, List.length_cons, List.length_nil, List.length_append, List.map_append, Option.bind_some, Option.bind_none, Option.map_some, Option.map_none, if_true, if_false, ite_true, ite_false, if_false_right, decide_eq_true_eq, Bool.not_eq_true', decide_eq_false_iff_not, Bool.not_eq_true, reduceCtorEq, reduceIte, ne_eq, not_false_eq_true, not_true_eq_false, true_and, and_true, false_and, and_false, implies_true, Bool.false_eq_true, List.isEmpty_cons, List.isEmpty_nil, Bool.not_true, Bool.not_false, List.map_cons, List.map_nil, List.cons_append, List.nil_append, List.replicate_succ, List.replicate_zero, Nat.reduceSub, Nat.reduceAdd, Nat.reduceMul, Int.reduceSub, Int.reduceNeg, Int.reduceAdd, Int.reduceMul, Int.reducePow, Int.reduceToNat, Nat.reduceLeDiff, lock, unls, unl, wip, rsto, fzO, frz, noal, lfree, lfrees, lfrees_ints, aft, Bool.and_self, Bool.and_true, Bool.true_and, w3, revD, decide_true, decide_false]
            exact ⟨row.reverse, by simp⟩
          · simp -implicitDefEqProofs only [↓Wp_def, Wp_some, Wp_none, Wp_bind, Wp_ite, Wp_map, wNil, wEx, wAsg, wApp, wSto, wAug, augD, augK_some, augK_none, stE, wAugs, wRetV, wRet, wRetn, wIfe, FQ_nx, FQ_rt, eCon, eVar, eBin, eNeg, eNott, eAndd, eOrr, eCmp, eChain, eChain3, eIte, eTup, eLst, eIdx, eIdxm, eLenset, eJoin, eSlc, eRev, eCall, eFn, ePop, ePopAt, tVal, tAndd, tOrr, tNott, toNone, toSome, oNone, oSome, esNil, esCons, hsNil, hsCons, hVar, hCon, hBin, hNeg, hNott, hAndd, hOrr, hCmp, hChain, hChain3, hIte, hTup, hLst, hIdx, hIdxm, hLenset, hJoin, hSlc, hRev, hCall, hFn, hLc, hGq, hPop, hPopAt, iSeq, iRng1, iRng2, iEnm, iZip, RV.fetch, fetchs, asn1, asnT, asnN, asnC, lkU, lkS, lkO, lkL, slF, slL, leC, leUs, leUo, leN, PyData.int.injEq, PyData.bool.injEq, PyData.str.injEq, PyData.tuple.injEq, PyData.list.injEq, Prod.mk.injEq, List.cons.injEq, Sum.inl.injEq, Option.some.injEq, leS, leO, leL, ow?, retD, varD, hvar, rAdd, rAddL, rAddT, rAddS, rSub, rMul, rPow, aAdd, aSub, aAddS, cLt, cLe, cGt, cGe, cEqI, cNeI, cEqB, cNeB, truI, truB, truL, truT, truN, intI, ixL, ixT, atN, atL, atM, atPlus, atPlus2, fdiv_pos, mod_pos, Int.reduceLT, Int.reduceLE, Int.reduceEq, Int.reduceMod, Int.reduceDiv, Nat.reduceLT, fnLenL, fnLenT, fnLenF, fnLenS, fnAbs, fnInt, fnList, fnListT, fnTuple, fnTupleT, fnMax2, fnMin2, fnSumL, fnSumT, fnMaxL, fnMaxT, fnMinL, fnMinT, fnAllL, fnAnyL, fnIsNone, fnNotNone, fnIsInt, fnIsBool, fnIsStr, fnIsTup, nN, nI, nB, nS, nL, nT, itmL, itmT, itmS, enmL', enmS', lckV, slcT, slcL, slcS, rgD_nat, rgD_pred, rgD_succ, setIxE, intsOf_ints, boolsOf_bools, strsOf_strs, List.getElem?_cons_succ, List.getElem?_cons_zero, List.set_cons_succ, List.set_cons_zero, List.getElem?_map, List.length_map, List.length_cons, List.length_nil, List.length_append, List.map_append, Option.bind_some, Option.bind_none, Option.map_some, Option.map_none, if_true, if_false, ite_true, ite_false, if_false_right, decide_eq_true_eq, Bool.not_eq_true', decide_eq_false_iff_not, Bool.not_eq_true, reduceCtorEq, reduceIte, ne_eq, not_false_eq_true, not_true_eq_false, true_and, and_true, false_and, and_false, implies_true, Bool.false_eq_true, List.isEmpty_cons, List.isEmpty_nil, Bool.not_true, Bool.not_false, List.map_cons, List.map_nil, List.cons_append, List.nil_append, List.replicate_succ, List.replicate_zero, Nat.reduceSub, Nat.reduceAdd, Nat.reduceMul, Int.reduceSub, Int.reduceNeg, Int.reduceAdd, Int.reduceMul, Int.reducePow, Int.reduceToNat, Nat.reduceLeDiff, lock, unls, unl, wip, rsto, fzO, frz, noal, lfree, lfrees, lfrees_ints, aft, Bool.and_self, Bool.and_true, Bool.true_and, w0, w1, w2, w3, c1, c4, s5, decide_true, decide_false]
            exact ⟨row.take p ++ row.drop (p - 1), by simp⟩
  obtain ⟨x, h1, qs, h2⟩ := main
  exact ⟨qs, by rw [h1, h2]⟩
end KX

namespace KX
open PySem RV K73
theorem stacks_ok {k : Nat} (hk : 1 ≤ k) (D : List Int) (hD : Drw 8 D) (n : Nat) (hn : n ≤ 6) : ∃ ns : List Int, ns.length = n ∧ Bd ns ∧ run prog wf k 11 [.list (D.map .int), .int n] = some (T ns, false) := by
  have main : Wp (run prog wf k 11 [.list (D.map .int), .int n]) fun x => ∃ ns : List Int, ns.length = n ∧ Bd ns ∧ x = (T ns, false) := by
    refine run_wp (d := 0) (p := c11) rfl hk fun k _ => Wp.fn rfl ?_
    unfold c11
    obtain ⟨d0, e0, _⟩ := drw_at hD (j := 0) (by decide)
    obtain ⟨M, hM, hM1, hM2⟩ : ∃ M : Int, L2.atI [PyData.int 3, .int 10, .int 6] (d0 % 3) = some (.int M) ∧ 1 ≤ M ∧ M ≤ 10 := by
      obtain ⟨n, h1, h2⟩ := mod_nat (d := d0) (m := 3) (by decide)
      rw [h1, atN]
      have : n = 0 ∨ n = 1 ∨ n = 2 := by omega
      rcases this with rfl | rfl | rfl
      · exact ⟨3, rfl, by decide, by decide⟩
      · exact ⟨10, rfl, by decide, by decide⟩
      · exact ⟨6, rfl, by decide, by decide⟩
    have hM0 : 0 < M := by omega
    simp -implicitDefEqProofs only [↓Wp_def, Wp_some, Wp_none, Wp_bind, Wp_ite, Wp_map, wNil, wEx, wAsg, wApp, wSto, wAug, augD, augK_some, augK_none, stE, wAugs, wRetV, wRet, wRetn, wIfe, FQ_nx, FQ_rt, eCon, eVar, eBin, eNeg, eNott, eAndd, eOrr, eCmp, eChain, eChain3, eIte, eTup, eLst, eIdx, eIdxm, eLenset, eJoin, eSlc, eRev, eCall, eFn, ePop, ePopAt, tVal, tAndd, tOrr, tNott, toNone, toSome, oNone, oSome, esNil, esCons, hsNil, hsCons, hVar, hCon, hBin, hNeg, hNott, hAndd, hOrr, hCmp, hChain, hChain3, hIte, hTup, hLst, hIdx, hIdxm, hLenset, hJoin, hSlc, hRev, hCall, hFn, hLc, hGq, hPop, hPopAt, iSeq, iRng1, iRng2, iEnm, iZip, RV.fetch, fetchs, asn1, asnT, asnN, asnC, lkU, lkS, lkO, lkL, slF, slL, leC, leUs, leUo, leN, PyData.int.injEq, PyData.bool.injEq, PyData.str.injEq, PyData.tuple.injEq, PyData.list.injEq, Prod.mk.injEq, List.cons.injEq, Sum.inl.injEq, Option.some.injEq, leS, leO, leL, ow?, retD, varD, hvar, rAdd, rAddL, rAddT, rAddS, rSub, rMul, rPow, aAdd, aSub, aAddS, cLt, cLe, cGt, cGe, cEqI, cNeI, cEqB, cNeB, truI, truB, truL, truT, truN, intI, ixL, ixT, atN, atL, atM, atPlus, atPlus2, fdiv_pos, mod_pos, Int.reduceLT, Int.reduceLE, Int.reduceEq, Int.reduceMod, Int.reduceDiv, Nat.reduceLT, fnLenL, fnLenT, fnLenF, fnLenS, fnAbs, fnInt, fnList, fnListT, fnTuple, fnTupleT, fnMax2, fnMin2, fnSumL, fnSumT, fnMaxL, fnMaxT, fnMinL, fnMinT, fnAllL, fnAnyL, fnIsNone, fnNotNone, fnIsInt, fnIsBool, fnIsStr, fnIsTup, nN, nI, nB, nS, nL, nT, itmL, itmT, itmS, enmL', enmS', lckV, slcT, slcL, slcS, rgD_nat, rgD_pred, rgD_succ, setIxE, intsOf_ints, boolsOf_bools, strsOf_strs, List.getElem?_cons_succ, List.getElem?_cons_zero, List.set_cons_succ, List.set_cons_zero, List.getElem?_map, List.length_map, List.length_cons, List.length_nil, List.length_append, List.map_append, Option.bind_some, Option.bind_none, Option.map_some, Option.map_none, if_true, if_false, ite_true, ite_false, if_false_right, decide_eq_true_eq, Bool.not_eq_true', decide_eq_false_iff_not, Bool.not_eq_true, reduceCtorEq, reduceIte, ne_eq, not_false_eq_true, not_true_eq_false, true_and, and_true, false_and, and_false, implies_true, Bool.false_eq_true, List.isEmpty_cons, List.isEmpty_nil, Bool.not_true, Bool.not_false, List.map_cons, List.map_nil, List.cons_append, List.nil_append, List.replicate_succ, List.replicate_zero, Nat.reduceSub, Nat.reduceAdd, Nat.reduceMul, Int.reduceSub, Int.reduceNeg, Int.reduceAdd, Int.reduceMul, Int.reducePow, Int.reduceToNat, Nat.reduceLeDiff, lock, unls, unl, wip, rsto, fzO, frz, noal, lfree, lfrees, lfrees_ints, aft, Bool.and_self, Bool.and_true, Bool.true_and, e0, hM, show (0 + 1 + 1 + 1 : Nat) ≤ sizeLine by decide, show (3 : Nat) ≤ sizeLine by decide]
    refine Wp.lcM (as := List.range n) (enc := fun j : Nat => .int j) (fun j => .int ((D[1 + j]?).getD 0 % M)) [.sh (.list (D.map .int)), .sh (.int n), .sh (.int M), .un] [.sh (.list (D.map .int)), .sh (.int n), .sh (.int M), .un] ?_ (by rw [List.length_range]; omega) ?_ ?_
    · simp -implicitDefEqProofs only [↓Wp_def, Wp_some, Wp_none, Wp_bind, Wp_ite, Wp_map, wNil, wEx, wAsg, wApp, wSto, wAug, augD, augK_some, augK_none, stE, wAugs, wRetV, wRet, wRetn, wIfe, FQ_nx, FQ_rt, eCon, eVar, eBin, eNeg, eNott, eAndd, eOrr, eCmp, eChain, eChain3, eIte, eTup, eLst, eIdx, eIdxm, eLenset, eJoin, eSlc, eRev, eCall, eFn, ePop, ePopAt, tVal, tAndd, tOrr, tNott, toNone, toSome, oNone, oSome, esNil, esCons, hsNil, hsCons, hVar, hCon, hBin, hNeg, hNott, hAndd, hOrr, hCmp, hChain, hChain3, hIte, hTup, hLst, hIdx, hIdxm, hLenset, hJoin, hSlc, hRev, hCall, hFn, hLc, hGq, hPop, hPopAt, iSeq, iRng1, iRng2, iEnm, iZip, RV.fetch, fetchs, asn1, asnT, asnN, asnC, lkU, lkS, lkO, lkL, slF, slL, leC, leUs, leUo, leN, PyData.int.injEq, PyData.bool.injEq, PyData.str.injEq, PyData.tuple.injEq, PyData.list.injEq, Prod.mk.injEq, List.cons.injEq, Sum.inl.injEq, Option.some.injEq, leS, leO, leL, ow?, retD, varD, hvar, rAdd, rAddL, rAddT, rAddS, rSub, rMul, rPow, aAdd, aSub, aAddS, cLt, cLe, cGt, cGe, cEqI, cNeI, cEqB, cNeB, truI, truB, truL, truT, truN, intI, ixL, ixT, atN, atL, atM, atPlus, atPlus2, fdiv_pos, mod_pos, Int.reduceLT, Int.reduceLE, Int.reduceEq, Int.reduceMod, Int.reduceDiv, Nat.reduceLT, fnLenL, fnLenT, fnLenF, fnLenS, fnAbs, fnInt, fnList, fnListT, fnTuple, fnTupleT, fnMax2, fnMin2, fnSumL, fnSumT, fnMaxL, fnMaxT, fnMinL, fnMinT, fnAllL, fnAnyL, fnIsNone, fnNotNone, fnIsInt, fnIsBool, fnIsStr, fnIsTup, nN, nI, nB, nS, nL, nT, itmL, itmT, itmS, enmL', enmS', lckV, slcT, slcL, slcS, rgD_nat, rgD_pred, rgD_succ, setIxE, intsOf_ints, boolsOf_bools, strsOf_strs, List.getElem?_cons_succ, List.getElem?_cons_zero, List.set_cons_succ, List.set_cons_zero, List.getElem?_map, List.length_map, List.length_cons, List.length_nil, List.length_append, List.map_append, Option.bind_some, Option.bind_none, Option.map_some, Option.map_none, if_true, if_false, ite_true, ite_false, if_false_right, decide_eq_true_eq, Bool.not_eq_true', decide_eq_false_iff_not, Bool.not_eq_true, reduceCtorEq, reduceIte, ne_eq, not_false_eq_true, not_true_eq_false, true_and, and_true, false_and, and_false, implies_true, Bool.false_eq_true, List.isEmpty_cons, List.isEmpty_nil, Bool.not_true, Bool.not_false, List.map_cons, List.map_nil, List.cons_append, List.nil_append, List.replicate_succ, List.replicate_zero, Nat.reduceSub, Nat.reduceAdd, Nat.reduceMul, Int.reduceSub, Int.reduceNeg, Int.reduceAdd, Int.reduceMul, Int.reducePow, Int.reduceToNat, Nat.reduceLeDiff, lock, unls, unl, wip, rsto, fzO, frz, noal, lfree, lfrees, lfrees_ints, aft, Bool.and_self, Bool.and_true, Bool.true_and, rgq_of (i := (n : Int)) (by omega) (by omega)]
    · intro j hj
      have hj := List.mem_range.mp hj
      obtain ⟨d, ed, _⟩ := drw_at hD (j := 1 + j) (by omega)
      simp -implicitDefEqProofs only [↓Wp_def, Wp_some, Wp_none, Wp_bind, Wp_ite, Wp_map, wNil, wEx, wAsg, wApp, wSto, wAug, augD, augK_some, augK_none, stE, wAugs, wRetV, wRet, wRetn, wIfe, FQ_nx, FQ_rt, eCon, eVar, eBin, eNeg, eNott, eAndd, eOrr, eCmp, eChain, eChain3, eIte, eTup, eLst, eIdx, eIdxm, eLenset, eJoin, eSlc, eRev, eCall, eFn, ePop, ePopAt, tVal, tAndd, tOrr, tNott, toNone, toSome, oNone, oSome, esNil, esCons, hsNil, hsCons, hVar, hCon, hBin, hNeg, hNott, hAndd, hOrr, hCmp, hChain, hChain3, hIte, hTup, hLst, hIdx, hIdxm, hLenset, hJoin, hSlc, hRev, hCall, hFn, hLc, hGq, hPop, hPopAt, iSeq, iRng1, iRng2, iEnm, iZip, RV.fetch, fetchs, asn1, asnT, asnN, asnC, lkU, lkS, lkO, lkL, slF, slL, leC, leUs, leUo, leN, PyData.int.injEq, PyData.bool.injEq, PyData.str.injEq, PyData.tuple.injEq, PyData.list.injEq, Prod.mk.injEq, List.cons.injEq, Sum.inl.injEq, Option.some.injEq, leS, leO, leL, ow?, retD, varD, hvar, rAdd, rAddL, rAddT, rAddS, rSub, rMul, rPow, aAdd, aSub, aAddS, cLt, cLe, cGt, cGe, cEqI, cNeI, cEqB, cNeB, truI, truB, truL, truT, truN, intI, ixL, ixT, atN, atL, atM, atPlus, atPlus2, fdiv_pos, mod_pos, Int.reduceLT, Int.reduceLE, Int.reduceEq, Int.reduceMod, Int.reduceDiv, Nat.reduceLT, fnLenL, fnLenT, fnLenF, fnLenS, fnAbs, fnInt, fnList, fnListT, fnTuple, fnTupleT, fnMax2, fnMin2, fnSumL, fnSumT, fnMaxL, fnMaxT, fnMinL, fnMinT, fnAllL, fnAnyL, fnIsNone, fnNotNone, fnIsInt, fnIsBool, fnIsStr, fnIsTup, nN, nI, nB, nS, nL, nT, itmL, itmT, itmS, enmL', enmS', lckV, slcT, slcL, slcS, rgD_nat, rgD_pred, rgD_succ, setIxE, intsOf_ints, boolsOf_bools, strsOf_strs, List.getElem?_cons_succ, List.getElem?_cons_zero, List.set_cons_succ, List.set_cons_zero, List.getElem?_map, List.length_map, List.length_cons, List.length_nil, List.length_append, List.map_append, Option.bind_some, Option.bind_none, Option.map_some, Option.map_none, if_true, if_false, ite_true, ite_false, if_false_right, decide_eq_true_eq, Bool.not_eq_true', decide_eq_false_iff_not, Bool.not_eq_true, reduceCtorEq, reduceIte, ne_eq, not_false_eq_true, not_true_eq_false, true_and, and_true, false_and, and_false, implies_true, Bool.false_eq_true, List.isEmpty_cons, List.isEmpty_nil, Bool.not_true, Bool.not_false, List.map_cons, List.map_nil, List.cons_append, List.nil_append, List.replicate_succ, List.replicate_zero, Nat.reduceSub, Nat.reduceAdd, Nat.reduceMul, Int.reduceSub, Int.reduceNeg, Int.reduceAdd, Int.reduceMul, Int.reducePow, Int.reduceToNat, Nat.reduceLeDiff, lock, unls, unl, wip, rsto, fzO, frz, noal, lfree, lfrees, lfrees_ints, aft, Bool.and_self, Bool.and_true, Bool.true_and, ed, hM0, Option.getD_some]
    · simp -implicitDefEqProofs only [↓Wp_def, Wp_some, Wp_none, Wp_bind, Wp_ite, Wp_map, wNil, wEx, wAsg, wApp, wSto, wAug, augD, augK_some, augK_none, stE, wAugs, wRetV, wRet, wRetn, wIfe, FQ_nx, FQ_rt, eCon, eVar, eBin, eNeg, eNott, eAndd, eOrr, eCmp, eChain, eChain3, eIte, eTup, eLst, eIdx, eIdxm, eLenset, eJoin, eSlc, eRev, eCall, eFn, ePop, ePopAt, tVal, tAndd, tOrr, tNott, toNone, toSome, oNone, oSome, esNil, esCons, hsNil, hsCons, hVar, hCon, hBin, hNeg, hNott, hAndd, hOrr, hCmp, hChain, hChain3, hIte, hTup, hLst, hIdx, hIdxm, hLenset, hJoin, hSlc, hRev, hCall, hFn, hLc, hGq, hPop, hPopAt, iSeq, iRng1, iRng2, iEnm, iZip, RV.fetch, fetchs, asn1, asnT, asnN, asnC, lkU, lkS, lkO, lkL, slF, slL, leC, leUs, leUo, leN, PyData.int.injEq, PyData.bool.injEq, PyData.str.injEq, PyData.tuple.injEq, PyData.list.injEq, Prod.mk.injEq, List.cons.injEq, Sum.inl.injEq, Option.some.injEq, leS, leO, leL, ow?, retD, varD, hvar, rAdd, rAddL, rAddT, rAddS, rSub, rMul, rPow, aAdd, aSub, aAddS, cLt, cLe, cGt, cGe, cEqI, cNeI, cEqB, cNeB, truI, truB, truL, truT, truN, intI, ixL, ixT, atN, atL, atM, atPlus, atPlus2, fdiv_pos, mod_pos, Int.reduceLT, Int.reduceLE, Int.reduceEq, Int.reduceMod, Int.reduceDiv, Nat.reduceLT, fnLenL, fnLenT, fnLenF, fnLenS, fnAbs, fnInt, fnList, fnListT, fnTuple, fnTupleT, fnMax2, fnMin2, fnSumL, fnSumT, fnMaxL, fnMaxT, fnMinL, fnMinT, fnAllL, fnAnyL, fnIsNone, fnNotNone, fnIsInt, fnIsBool, fnIsStr, fnIsTup, nN, nI, nB, nS, nL, nT, itmL, itmT, itmS, enmL', enmS', lckV, slcT, slcL, slcS, rgD_nat, rgD_pred, rgD_succ, setIxE, intsOf_ints, boolsOf_bools, strsOf_strs, List.getElem?_cons_succ, List.getElem?_cons_zero, List.set_cons_succ, List.set_cons_zero, List.getElem?_map, List.length_map, List.length_cons, List.length_nil, List.length_append, List.map_append, Option.bind_some, Option.bind_none, Option.map_some, Option.map_none, if_true, if_false, ite_true, ite_false, if_false_right, decide_eq_true_eq, Bool.not_eq_true', decide_eq_false_iff_not, Bool.not_eq_true, reduceCtorEq, reduceIte, ne_eq, not_false_eq_true, not_true_eq_false, true_and, and_true, false_and, and_false, implies_true, Bool.false_eq_true, List.isEmpty_cons, List.isEmpty_nil, Bool.not_true, Bool.not_false, List.map_cons, List.map_nil, List.cons_append, List.nil_append, List.replicate_succ, List.replicate_zero, Nat.reduceSub, Nat.reduceAdd, Nat.reduceMul, Int.reduceSub, Int.reduceNeg, Int.reduceAdd, Int.reduceMul, Int.reducePow, Int.reduceToNat, Nat.reduceLeDiff, lock, unls, unl, wip, rsto, fzO, frz, noal, lfree, lfrees, lfrees_ints, aft, Bool.and_self, Bool.and_true, Bool.true_and]
      refine ⟨(List.range n).map fun j => (D[1 + j]?).getD 0 % M, by simp, fun z hz => ?_, by rw [List.map_map]; rfl⟩
      obtain ⟨j, _, rfl⟩ := List.mem_map.mp hz
      have h1 := Int.emod_nonneg ((D[1 + j]?).getD 0) (show M ≠ 0 by omega)
      have h2 := Int.emod_lt_of_pos ((D[1 + j]?).getD 0) hM0
      exact ⟨h1, by omega⟩
  obtain ⟨x, h1, ns, h2, h3, h4⟩ := main
  exact ⟨ns, h2, h3, by rw [h1, h4]⟩
theorem nud_bd (now : List Int) (p : Nat) (h : p + 1 < now.length) (b : Bd now) (h1 : 0 < now[p]'(by omega)) (h2 : now[p + 1] < 15) : Bd (nud now p) := fun z hz => by
  rw [← nud_at now p h] at hz
  rcases List.mem_or_eq_of_mem_set hz with hz | hz
  · rcases List.mem_or_eq_of_mem_set hz with hz | hz
    · exact b z hz
    · have := b _ (List.getElem_mem (show p < now.length by omega)); omega
  · have := b _ (List.getElem_mem h); omega
theorem nud_sum (now : List Int) (p : Nat) (h : p + 1 < now.length) : (nud now p).sum = now.sum := by
  have := S_nud now p now.length h
  rw [S_all _ _ (by rw [nud_len]; exact Nat.le_refl _), S_all now _ (Nat.le_refl _), if_neg (by omega), Int.sub_zero] at this
  exact this
theorem moved_ok {k : Nat} (hk : 1 ≤ k) (a D : List Int) (hD : Drw 13 D) (hl : a.length ≤ 6) (h0 : 1 ≤ a.length) (hb : Bd a) : ∃ ms : List Int, ms.length = a.length ∧ ms.sum = a.sum ∧ Bd ms ∧ run prog wf k 12 [T a, .list (D.map .int)] = some (T ms, false) := by
  have main : Wp (run prog wf k 12 [T a, .list (D.map .int)]) fun x => ∃ ms : List Int, ms.length = a.length ∧ ms.sum = a.sum ∧ Bd ms ∧ x = (T ms, false) := by
    refine run_wp (d := 0) (p := c12) rfl hk fun k _ => Wp.fn rfl ?_
    unfold c12
    obtain ⟨d0, e0, _⟩ := drw_at hD (j := 0) (by decide)
    obtain ⟨n, hn, hn2⟩ := mod_nat (d := d0) (m := 12) (by decide)
    simp -implicitDefEqProofs only [↓Wp_def, Wp_some, Wp_none, Wp_bind, Wp_ite, Wp_map, wNil, wEx, wAsg, wApp, wSto, wAug, augD, augK_some, augK_none, stE, wAugs, wRetV, wRet, wRetn, wIfe, FQ_nx, FQ_rt, eCon, eVar, eBin, eNeg, eNott, eAndd, eOrr, eCmp, eChain, eChain3, eIte, eTup, eLst, eIdx, eIdxm, eLenset, eJoin, eSlc, eRev, eCall, eFn, ePop, ePopAt, tVal, tAndd, tOrr, tNott, toNone, toSome, oNone, oSome, esNil, esCons, hsNil, hsCons, hVar, hCon, hBin, hNeg, hNott, hAndd, hOrr, hCmp, hChain, hChain3, hIte, hTup, hLst, hIdx, hIdxm, hLenset, hJoin, hSlc, hRev, hCall, hFn, hLc, hGq, hPop, hPopAt, iSeq, iRng1, iRng2, iEnm, iZip, RV.fetch, fetchs, asn1, asnT, asnN, asnC, lkU, lkS, lkO, lkL, slF, slL, leC, leUs, leUo, leN, PyData.int.injEq, PyData.bool.injEq, PyData.str.injEq, PyData.tuple.injEq, PyData.list.injEq, Prod.mk.injEq, List.cons.injEq, Sum.inl.injEq, Option.some.injEq, leS, leO, leL, ow?, retD, varD, hvar, rAdd, rAddL, rAddT, rAddS, rSub, rMul, rPow, aAdd, aSub, aAddS, cLt, cLe, cGt, cGe, cEqI, cNeI, cEqB, cNeB, truI, truB, truL, truT, truN, intI, ixL, ixT, atN, atL, atM, atPlus, atPlus2, fdiv_pos, mod_pos, Int.reduceLT, Int.reduceLE, Int.reduceEq, Int.reduceMod, Int.reduceDiv, Nat.reduceLT, fnLenL, fnLenT, fnLenF, fnLenS, fnAbs, fnInt, fnList, fnListT, fnTuple, fnTupleT, fnMax2, fnMin2, fnSumL, fnSumT, fnMaxL, fnMaxT, fnMinL, fnMinT, fnAllL, fnAnyL, fnIsNone, fnNotNone, fnIsInt, fnIsBool, fnIsStr, fnIsTup, nN, nI, nB, nS, nL, nT, itmL, itmT, itmS, enmL', enmS', lckV, slcT, slcL, slcS, rgD_nat, rgD_pred, rgD_succ, setIxE, intsOf_ints, boolsOf_bools, strsOf_strs, List.getElem?_cons_succ, List.getElem?_cons_zero, List.set_cons_succ, List.set_cons_zero, List.getElem?_map, List.length_map, List.length_cons, List.length_nil, List.length_append, List.map_append, Option.bind_some, Option.bind_none, Option.map_some, Option.map_none, if_true, if_false, ite_true, ite_false, if_false_right, decide_eq_true_eq, Bool.not_eq_true', decide_eq_false_iff_not, Bool.not_eq_true, reduceCtorEq, reduceIte, ne_eq, not_false_eq_true, not_true_eq_false, true_and, and_true, false_and, and_false, implies_true, Bool.false_eq_true, List.isEmpty_cons, List.isEmpty_nil, Bool.not_true, Bool.not_false, List.map_cons, List.map_nil, List.cons_append, List.nil_append, List.replicate_succ, List.replicate_zero, Nat.reduceSub, Nat.reduceAdd, Nat.reduceMul, Int.reduceSub, Int.reduceNeg, Int.reduceAdd, Int.reduceMul, Int.reducePow, Int.reduceToNat, Nat.reduceLeDiff, lock, unls, unl, wip, rsto, fzO, frz, noal, lfree, lfrees, lfrees_ints, aft, Bool.and_self, Bool.and_true, Bool.true_and]
    refine Wp.forS (as := List.range n) (enc := fun j : Nat => .int j) (σ := List Int) [] (fun p s => s.length = a.length ∧ s.sum = a.sum ∧ Bd s) (fun _ s => [.sh (T a), .sh (.list (D.map .int)), .ow (s.map .int), .un, .un]) a ?_ ?_ ?_ cl_const
    · simp -implicitDefEqProofs only [↓Wp_def, Wp_some, Wp_none, Wp_bind, Wp_ite, Wp_map, wNil, wEx, wAsg, wApp, wSto, wAug, augD, augK_some, augK_none, stE, wAugs, wRetV, wRet, wRetn, wIfe, FQ_nx, FQ_rt, eCon, eVar, eBin, eNeg, eNott, eAndd, eOrr, eCmp, eChain, eChain3, eIte, eTup, eLst, eIdx, eIdxm, eLenset, eJoin, eSlc, eRev, eCall, eFn, ePop, ePopAt, tVal, tAndd, tOrr, tNott, toNone, toSome, oNone, oSome, esNil, esCons, hsNil, hsCons, hVar, hCon, hBin, hNeg, hNott, hAndd, hOrr, hCmp, hChain, hChain3, hIte, hTup, hLst, hIdx, hIdxm, hLenset, hJoin, hSlc, hRev, hCall, hFn, hLc, hGq, hPop, hPopAt, iSeq, iRng1, iRng2, iEnm, iZip, RV.fetch, fetchs, asn1, asnT, asnN, asnC, lkU, lkS, lkO, lkL, slF, slL, leC, leUs, leUo, leN, PyData.int.injEq, PyData.bool.injEq, PyData.str.injEq, PyData.tuple.injEq, PyData.list.injEq, Prod.mk.injEq, List.cons.injEq, Sum.inl.injEq, Option.some.injEq, leS, leO, leL, ow?, retD, varD, hvar, rAdd, rAddL, rAddT, rAddS, rSub, rMul, rPow, aAdd, aSub, aAddS, cLt, cLe, cGt, cGe, cEqI, cNeI, cEqB, cNeB, truI, truB, truL, truT, truN, intI, ixL, ixT, atN, atL, atM, atPlus, atPlus2, fdiv_pos, mod_pos, Int.reduceLT, Int.reduceLE, Int.reduceEq, Int.reduceMod, Int.reduceDiv, Nat.reduceLT, fnLenL, fnLenT, fnLenF, fnLenS, fnAbs, fnInt, fnList, fnListT, fnTuple, fnTupleT, fnMax2, fnMin2, fnSumL, fnSumT, fnMaxL, fnMaxT, fnMinL, fnMinT, fnAllL, fnAnyL, fnIsNone, fnNotNone, fnIsInt, fnIsBool, fnIsStr, fnIsTup, nN, nI, nB, nS, nL, nT, itmL, itmT, itmS, enmL', enmS', lckV, slcT, slcL, slcS, rgD_nat, rgD_pred, rgD_succ, setIxE, intsOf_ints, boolsOf_bools, strsOf_strs, List.getElem?_cons_succ, List.getElem?_cons_zero, List.set_cons_succ, List.set_cons_zero, List.getElem?_map, List.length_map, List.length_cons, List.length_nil, List.length_append, List.map_append, Option.bind_some, Option.bind_none, Option.map_some, Option.map_none, if_true, if_false, ite_true, ite_false, if_false_right, decide_eq_true_eq, Bool.not_eq_true', decide_eq_false_iff_not, Bool.not_eq_true, reduceCtorEq, reduceIte, ne_eq, not_false_eq_true, not_true_eq_false, true_and, and_true, false_and, and_false, implies_true, Bool.false_eq_true, List.isEmpty_cons, List.isEmpty_nil, Bool.not_true, Bool.not_false, List.map_cons, List.map_nil, List.cons_append, List.nil_append, List.replicate_succ, List.replicate_zero, Nat.reduceSub, Nat.reduceAdd, Nat.reduceMul, Int.reduceSub, Int.reduceNeg, Int.reduceAdd, Int.reduceMul, Int.reducePow, Int.reduceToNat, Nat.reduceLeDiff, lock, unls, unl, wip, rsto, fzO, frz, noal, lfree, lfrees, lfrees_ints, aft, Bool.and_self, Bool.and_true, Bool.true_and, e0, hn, rgq_of (i := (n : Int)) (by omega) (by omega)]
      exact hb
    · intro p j q now hpq ⟨i1, i2, i3⟩
      have hj : j < n := List.mem_range.mp (by rw [hpq]; simp)
      obtain ⟨d, ed, _⟩ := drw_at hD (j := 1 + j) (by omega)
      obtain ⟨t, ht, ht2⟩ := mod_nat (d := d) (m := (now.length : Int)) (by omega)
      have hpos : (0 : Int) < (now.length : Int) := by omega
      have ht0 : t < now.length := by omega
      simp -implicitDefEqProofs only [↓Wp_def, Wp_some, Wp_none, Wp_bind, Wp_ite, Wp_map, wNil, wEx, wAsg, wApp, wSto, wAug, augD, augK_some, augK_none, stE, wAugs, wRetV, wRet, wRetn, wIfe, FQ_nx, FQ_rt, eCon, eVar, eBin, eNeg, eNott, eAndd, eOrr, eCmp, eChain, eChain3, eIte, eTup, eLst, eIdx, eIdxm, eLenset, eJoin, eSlc, eRev, eCall, eFn, ePop, ePopAt, tVal, tAndd, tOrr, tNott, toNone, toSome, oNone, oSome, esNil, esCons, hsNil, hsCons, hVar, hCon, hBin, hNeg, hNott, hAndd, hOrr, hCmp, hChain, hChain3, hIte, hTup, hLst, hIdx, hIdxm, hLenset, hJoin, hSlc, hRev, hCall, hFn, hLc, hGq, hPop, hPopAt, iSeq, iRng1, iRng2, iEnm, iZip, RV.fetch, fetchs, asn1, asnT, asnN, asnC, lkU, lkS, lkO, lkL, slF, slL, leC, leUs, leUo, leN, PyData.int.injEq, PyData.bool.injEq, PyData.str.injEq, PyData.tuple.injEq, PyData.list.injEq, Prod.mk.injEq, List.cons.injEq, Sum.inl.injEq, Option.some.injEq, leS, leO, leL, ow?, retD, varD, hvar, rAdd, rAddL, rAddT, rAddS, rSub, rMul, rPow, aAdd, aSub, aAddS, cLt, cLe, cGt, cGe, cEqI, cNeI, cEqB, cNeB, truI, truB, truL, truT, truN, intI, ixL, ixT, atN, atL, atM, atPlus, atPlus2, fdiv_pos, mod_pos, Int.reduceLT, Int.reduceLE, Int.reduceEq, Int.reduceMod, Int.reduceDiv, Nat.reduceLT, fnLenL, fnLenT, fnLenF, fnLenS, fnAbs, fnInt, fnList, fnListT, fnTuple, fnTupleT, fnMax2, fnMin2, fnSumL, fnSumT, fnMaxL, fnMaxT, fnMinL, fnMinT, fnAllL, fnAnyL, fnIsNone, fnNotNone, fnIsInt, fnIsBool, fnIsStr, fnIsTup, nN, nI, nB, nS, nL, nT, itmL, itmT, itmS, enmL', enmS', lckV, slcT, slcL, slcS, rgD_nat, rgD_pred, rgD_succ, setIxE, intsOf_ints, boolsOf_bools, strsOf_strs, List.getElem?_cons_succ, List.getElem?_cons_zero, List.set_cons_succ, List.set_cons_zero, List.getElem?_map, List.length_map, List.length_cons, List.length_nil, List.length_append, List.map_append, Option.bind_some, Option.bind_none, Option.map_some, Option.map_none, if_true, if_false, ite_true, ite_false, if_false_right, decide_eq_true_eq, Bool.not_eq_true', decide_eq_false_iff_not, Bool.not_eq_true, reduceCtorEq, reduceIte, ne_eq, not_false_eq_true, not_true_eq_false, true_and, and_true, false_and, and_false, implies_true, Bool.false_eq_true, List.isEmpty_cons, List.isEmpty_nil, Bool.not_true, Bool.not_false, List.map_cons, List.map_nil, List.cons_append, List.nil_append, List.replicate_succ, List.replicate_zero, Nat.reduceSub, Nat.reduceAdd, Nat.reduceMul, Int.reduceSub, Int.reduceNeg, Int.reduceAdd, Int.reduceMul, Int.reducePow, Int.reduceToNat, Nat.reduceLeDiff, lock, unls, unl, wip, rsto, fzO, frz, noal, lfree, lfrees, lfrees_ints, aft, Bool.and_self, Bool.and_true, Bool.true_and, ed, hpos, ht]
      by_cases c1 : (t : Int) + 1 < (now.length : Int)
      · have hp : t + 1 < now.length := by omega
        have pc : ((t : Int) + 1) = ((t + 1 : Nat) : Int) := by omega
        simp -implicitDefEqProofs only [↓Wp_def, Wp_some, Wp_none, Wp_bind, Wp_ite, Wp_map, wNil, wEx, wAsg, wApp, wSto, wAug, augD, augK_some, augK_none, stE, wAugs, wRetV, wRet, wRetn, wIfe, FQ_nx, FQ_rt, eCon, eVar, eBin, eNeg, eNott, eAndd, eOrr, eCmp, eChain, eChain3, eIte, eTup, eLst, eIdx, eIdxm, eLenset, eJoin, eSlc, eRev, eCall, eFn, ePop, ePopAt, tVal, tAndd, tOrr, tNott, toNone, toSome, oNone, oSome, esNil, esCons, hsNil, hsCons, hVar, hCon, hBin, hNeg, hNott, hAndd, hOrr, hCmp, hChain, hChain3, hIte, hTup, hLst, hIdx, hIdxm, hLenset, hJoin, hSlc, hRev, hCall, hFn, hLc, hGq, hPop, hPopAt, iSeq, iRng1, iRng2, iEnm, iZip, RV.fetch, fetchs, asn1, asnT, asnN, asnC, lkU, lkS, lkO, lkL, slF, slL, leC, leUs, leUo, leN, PyData.int.injEq, PyData.bool.injEq, PyData.str.injEq, PyData.tuple.injEq, PyData.list.injEq, Prod.mk.injEq, List.cons.injEq, Sum.inl.injEq, Option.some.injEq, leS, leO, leL, ow?, retD, varD, hvar, rAdd, rAddL, rAddT, rAddS, rSub, rMul, rPow, aAdd, aSub, aAddS, cLt, cLe, cGt, cGe, cEqI, cNeI, cEqB, cNeB, truI, truB, truL, truT, truN, intI, ixL, ixT, atN, atL, atM, atPlus, atPlus2, fdiv_pos, mod_pos, Int.reduceLT, Int.reduceLE, Int.reduceEq, Int.reduceMod, Int.reduceDiv, Nat.reduceLT, fnLenL, fnLenT, fnLenF, fnLenS, fnAbs, fnInt, fnList, fnListT, fnTuple, fnTupleT, fnMax2, fnMin2, fnSumL, fnSumT, fnMaxL, fnMaxT, fnMinL, fnMinT, fnAllL, fnAnyL, fnIsNone, fnNotNone, fnIsInt, fnIsBool, fnIsStr, fnIsTup, nN, nI, nB, nS, nL, nT, itmL, itmT, itmS, enmL', enmS', lckV, slcT, slcL, slcS, rgD_nat, rgD_pred, rgD_succ, setIxE, intsOf_ints, boolsOf_bools, strsOf_strs, List.getElem?_cons_succ, List.getElem?_cons_zero, List.set_cons_succ, List.set_cons_zero, List.getElem?_map, List.length_map, List.length_cons, List.length_nil, List.length_append, List.map_append, Option.bind_some, Option.bind_none, Option.map_some, Option.map_none, if_true, if_false, ite_true, ite_false, if_false_right, decide_eq_true_eq, Bool.not_eq_true', decide_eq_false_iff_not, Bool.not_eq_true, reduceCtorEq, reduceIte, ne_eq, not_false_eq_true, not_true_eq_false, true_and, and_true, false_and, and_false, implies_true, Bool.false_eq_true, List.isEmpty_cons, List.isEmpty_nil, Bool.not_true, Bool.not_false, List.map_cons, List.map_nil, List.cons_append, List.nil_append, List.replicate_succ, List.replicate_zero, Nat.reduceSub, Nat.reduceAdd, Nat.reduceMul, Int.reduceSub, Int.reduceNeg, Int.reduceAdd, Int.reduceMul, Int.reducePow, Int.reduceToNat, Nat.reduceLeDiff, lock, unls, unl, wip, rsto, fzO, frz, noal, lfree, lfrees, lfrees_ints, aft, Bool.and_self, Bool.and_true, Bool.true_and, c1, decide_true, List.getElem?_eq_getElem ht0]
        by_cases c2 : 0 < now[t]
        · simp -implicitDefEqProofs only [↓Wp_def, Wp_some, Wp_none, Wp_bind, Wp_ite, Wp_map, wNil, wEx, wAsg, wApp, wSto, wAug, augD, augK_some, augK_none, stE, wAugs, wRetV, wRet, wRetn, wIfe, FQ_nx, FQ_rt, eCon, eVar, eBin, eNeg, eNott, eAndd, eOrr, eCmp, eChain, eChain3, eIte, eTup, eLst, eIdx, eIdxm, eLenset, eJoin, eSlc, eRev, eCall, eFn, ePop, ePopAt, tVal, tAndd, tOrr, tNott, toNone, toSome, oNone, oSome, esNil, esCons, hsNil, hsCons, hVar, hCon, hBin, hNeg, hNott, hAndd, hOrr, hCmp, hChain, hChain3, hIte, hTup, hLst, hIdx, hIdxm, hLenset, hJoin, hSlc, hRev, hCall, hFn, hLc, hGq, hPop, hPopAt, iSeq, iRng1, iRng2, iEnm, iZip, RV.fetch, fetchs, asn1, asnT, asnN, asnC, lkU, lkS, lkO, lkL, slF, slL, leC, leUs, leUo, leN, PyData.int.injEq, PyData.bool.injEq, PyData.str.injEq, PyData.tuple.injEq, PyData.list.injEq, Prod.mk.injEq, List.cons.injEq, Sum.inl.injEq, Option.some.injEq, leS, leO, leL, ow?, retD, varD, hvar, rAdd, rAddL, rAddT, rAddS, rSub, rMul, rPow, aAdd, aSub, aAddS, cLt, cLe, cGt, cGe, cEqI, cNeI, cEqB, cNeB, truI, truB, truL, truT, truN, intI, ixL, ixT, atN, atL, atM, atPlus, atPlus2, fdiv_pos, mod_pos, Int.reduceLT, Int.reduceLE, Int.reduceEq, Int.reduceMod, Int.reduceDiv, Nat.reduceLT, fnLenL, fnLenT, fnLenF, fnLenS, fnAbs, fnInt, fnList, fnListT, fnTuple, fnTupleT, fnMax2, fnMin2, fnSumL, fnSumT, fnMaxL, fnMaxT, fnMinL, fnMinT, fnAllL, fnAnyL, fnIsNone, fnNotNone, fnIsInt, fnIsBool, fnIsStr, fnIsTup, nN, nI, nB, nS, nL, nT, itmL, itmT, itmS, enmL', enmS', lckV, slcT, slcL, slcS, rgD_nat, rgD_pred, rgD_succ, setIxE, intsOf_ints, boolsOf_bools, strsOf_strs, List.getElem?_cons_succ, List.getElem?_cons_zero, List.set_cons_succ, List.set_cons_zero, List.getElem?_map, List.length_map, List.length_cons, List.length_nil, List.length_append, List.map_append, Option.bind_some, Option.bind_none, Option.map_some, Option.map_none, if_true, if_false, ite_true, ite_false, if_false_right, decide_eq_true_eq, Bool.not_eq_true', decide_eq_false_iff_not, Bool.not_eq_true, reduceCtorEq, reduceIte, ne_eq, not_false_eq_true, not_true_eq_false, true_and, and_true, false_and, and_false, implies_true, Bool.false_eq_true, List.isEmpty_cons, List.isEmpty_nil, Bool.not_true, Bool.not_false, List.map_cons, List.map_nil, List.cons_append, List.nil_append, List.replicate_succ, List.replicate_zero, Nat.reduceSub, Nat.reduceAdd, Nat.reduceMul, Int.reduceSub, Int.reduceNeg, Int.reduceAdd, Int.reduceMul, Int.reducePow, Int.reduceToNat, Nat.reduceLeDiff, lock, unls, unl, wip, rsto, fzO, frz, noal, lfree, lfrees, lfrees_ints, aft, Bool.and_self, Bool.and_true, Bool.true_and, c2, decide_true, pc, List.getElem?_eq_getElem hp]
          by_cases c3 : now[t + 1] < 15
          · obtain ⟨g1, g2⟩ := nudge_sets now t hp
            simp -implicitDefEqProofs only [↓Wp_def, Wp_some, Wp_none, Wp_bind, Wp_ite, Wp_map, wNil, wEx, wAsg, wApp, wSto, wAug, augD, augK_some, augK_none, stE, wAugs, wRetV, wRet, wRetn, wIfe, FQ_nx, FQ_rt, eCon, eVar, eBin, eNeg, eNott, eAndd, eOrr, eCmp, eChain, eChain3, eIte, eTup, eLst, eIdx, eIdxm, eLenset, eJoin, eSlc, eRev, eCall, eFn, ePop, ePopAt, tVal, tAndd, tOrr, tNott, toNone, toSome, oNone, oSome, esNil, esCons, hsNil, hsCons, hVar, hCon, hBin, hNeg, hNott, hAndd, hOrr, hCmp, hChain, hChain3, hIte, hTup, hLst, hIdx, hIdxm, hLenset, hJoin, hSlc, hRev, hCall, hFn, hLc, hGq, hPop, hPopAt, iSeq, iRng1, iRng2, iEnm, iZip, RV.fetch, fetchs, asn1, asnT, asnN, asnC, lkU, lkS, lkO, lkL, slF, slL, leC, leUs, leUo, leN, PyData.int.injEq, PyData.bool.injEq, PyData.str.injEq, PyData.tuple.injEq, PyData.list.injEq, Prod.mk.injEq, List.cons.injEq, Sum.inl.injEq, Option.some.injEq, leS, leO, leL, ow?, retD, varD, hvar, rAdd, rAddL, rAddT, rAddS, rSub, rMul, rPow, aAdd, aSub, aAddS, cLt, cLe, cGt, cGe, cEqI, cNeI, cEqB, cNeB, truI, truB, truL, truT, truN, intI, ixL, ixT, atN, atL, atM, atPlus, atPlus2, fdiv_pos, mod_pos, Int.reduceLT, Int.reduceLE, Int.reduceEq, Int.reduceMod, Int.reduceDiv, Nat.reduceLT, fnLenL, fnLenT, fnLenF, fnLenS, fnAbs, fnInt, fnList, fnListT, fnTuple, fnTupleT, fnMax2, fnMin2, fnSumL, fnSumT, fnMaxL, fnMaxT, fnMinL, fnMinT, fnAllL, fnAnyL, fnIsNone, fnNotNone, fnIsInt, fnIsBool, fnIsStr, fnIsTup, nN, nI, nB, nS, nL, nT, itmL, itmT, itmS, enmL', enmS', lckV, slcT, slcL, slcS, rgD_nat, rgD_pred, rgD_succ, setIxE, intsOf_ints, boolsOf_bools, strsOf_strs, List.getElem?_cons_succ, List.getElem?_cons_zero, List.set_cons_succ, List.set_cons_zero, List.getElem?_map, List.length_map, List.length_cons, List.length_nil, List.length_append, List.map_append, Option.bind_some, Option.bind_none, Option.map_some, Option.map_none, if_true, if_false, ite_true, ite_false, if_false_right, decide_eq_true_eq, Bool.not_eq_true', decide_eq_false_iff_not, Bool.not_eq_true, reduceCtorEq, reduceIte, ne_eq, not_false_eq_true, not_true_eq_false, true_and, and_true, false_and, and_false, implies_true, Bool.false_eq_true, List.isEmpty_cons, List.isEmpty_nil, Bool.not_true, Bool.not_false, List.map_cons, List.map_nil, List.cons_append, List.nil_append, List.replicate_succ, List.replicate_zero, Nat.reduceSub, Nat.reduceAdd, Nat.reduceMul, Int.reduceSub, Int.reduceNeg, Int.reduceAdd, Int.reduceMul, Int.reducePow, Int.reduceToNat, Nat.reduceLeDiff, lock, unls, unl, wip, rsto, fzO, frz, noal, lfree, lfrees, lfrees_ints, aft, Bool.and_self, Bool.and_true, Bool.true_and, c3, decide_true, List.getElem?_eq_getElem ht0, ixNn ht0, g1, g2, pc, List.length_set, ixNn hp]
            refine ⟨nud now t, ⟨by rw [nud_len, i1], by rw [nud_sum now t hp, i2], nud_bd now t hp i3 c2 c3⟩, ?_⟩
            simp -implicitDefEqProofs only [↓Wp_def, Wp_some, Wp_none, Wp_bind, Wp_ite, Wp_map, wNil, wEx, wAsg, wApp, wSto, wAug, augD, augK_some, augK_none, stE, wAugs, wRetV, wRet, wRetn, wIfe, FQ_nx, FQ_rt, eCon, eVar, eBin, eNeg, eNott, eAndd, eOrr, eCmp, eChain, eChain3, eIte, eTup, eLst, eIdx, eIdxm, eLenset, eJoin, eSlc, eRev, eCall, eFn, ePop, ePopAt, tVal, tAndd, tOrr, tNott, toNone, toSome, oNone, oSome, esNil, esCons, hsNil, hsCons, hVar, hCon, hBin, hNeg, hNott, hAndd, hOrr, hCmp, hChain, hChain3, hIte, hTup, hLst, hIdx, hIdxm, hLenset, hJoin, hSlc, hRev, hCall, hFn, hLc, hGq, hPop, hPopAt, iSeq, iRng1, iRng2, iEnm, iZip, RV.fetch, fetchs, asn1, asnT, asnN, asnC, lkU, lkS, lkO, lkL, slF, slL, leC, leUs, leUo, leN, PyData.int.injEq, PyData.bool.injEq, PyData.str.injEq, PyData.tuple.injEq, PyData.list.injEq, Prod.mk.injEq, List.cons.injEq, Sum.inl.injEq, Option.some.injEq, leS, leO, leL, ow?, retD, varD, hvar, rAdd, rAddL, rAddT, rAddS, rSub, rMul, rPow, aAdd, aSub, aAddS, cLt, cLe, cGt, cGe, cEqI, cNeI, cEqB, cNeB, truI, truB, truL, truT, truN, intI, ixL, ixT, atN, atL, atM, atPlus, atPlus2, fdiv_pos, mod_pos, Int.reduceLT, Int.reduceLE, Int.reduceEq, Int.reduceMod, Int.reduceDiv, Nat.reduceLT, fnLenL, fnLenT, fnLenF, fnLenS, fnAbs, fnInt, fnList, fnListT, fnTuple, fnTupleT, fnMax2, fnMin2, fnSumL, fnSumT, fnMaxL, fnMaxT, fnMinL, fnMinT, fnAllL, fnAnyL, fnIsNone, fnNotNone, fnIsInt, fnIsBool, fnIsStr, fnIsTup, nN, nI, nB, nS, nL, nT, itmL, itmT, itmS, enmL', enmS', lckV, slcT, slcL, slcS, rgD_nat, rgD_pred, rgD_succ, setIxE, intsOf_ints, boolsOf_bools, strsOf_strs, List.getElem?_cons_succ, List.getElem?_cons_zero, List.set_cons_succ, List.set_cons_zero, List.getElem?_map, List.length_map, List.length_cons, List.length_nil, List.length_append, List.map_append, Option.bind_some, Option.bind_none, Option.map_some, Option.map_none, if_true, if_false, ite_true, ite_false, if_false_right, decide_eq_true_eq, Bool.not_eq_true', decide_eq_false_iff_not, Bool.not_eq_true, reduceCtorEq, reduceIte, ne_eq, not_false_eq_true, not_true_eq_false, true_and, and_true, false_and, and_false, implies_true, Bool.false_eq_true, List.isEmpty_cons, List.isEmpty_nil, Bool.not_true, Bool.not_false, List.map_cons, List.map_nil, List.cons_append, List.nil_append, List.replicate_succ, List.replicate_zero, Nat.reduceSub, Nat.reduceAdd, Nat.reduceMul, Int.reduceSub, Int.reduceNeg, Int.reduceAdd, Int.reduceMul, Int.reducePow, Int.reduceToNat, Nat.reduceLeDiff, lock, unls, unl, wip, rsto, fzO, frz, noal, lfree, lfrees, lfrees_ints, aft, Bool.and_self, Bool.and_true, Bool.true_and]
          · simp -implicitDefEqProofs only [↓Wp_def, Wp_some, Wp_none, Wp_bind, Wp_ite, Wp_map, wNil, wEx, wAsg, wApp, wSto, wAug, augD, augK_some, augK_none, stE, wAugs, wRetV, wRet, wRetn, wIfe, FQ_nx, FQ_rt, eCon, eVar, eBin, eNeg, eNott, eAndd, eOrr, eCmp, eChain, eChain3, eIte, eTup, eLst, eIdx, eIdxm, eLenset, eJoin, eSlc, eRev, eCall, eFn, ePop, ePopAt, tVal, tAndd, tOrr, tNott, toNone, toSome, oNone, oSome, esNil, esCons, hsNil, hsCons, hVar, hCon, hBin, hNeg, hNott, hAndd, hOrr, hCmp, hChain, hChain3, hIte, hTup, hLst, hIdx, hIdxm, hLenset, hJoin, hSlc, hRev, hCall, hFn, hLc, hGq, hPop, hPopAt, iSeq, iRng1, iRng2, iEnm, iZip, RV.fetch, fetchs, asn1, asnT, asnN, asnC, lkU, lkS, lkO, lkL, slF, slL, leC, leUs, leUo, leN, PyData.int.injEq, PyData.bool.injEq, PyData.str.injEq, PyData.tuple.injEq, PyData.list.injEq, Prod.mk.injEq, List.cons.injEq, Sum.inl.injEq, Option.some.injEq, leS, leO, leL, ow?, retD, varD, hvar, rAdd, rAddL, rAddT, rAddS, rSub, rMul, rPow, aAdd, aSub, aAddS, cLt, cLe, cGt, cGe, cEqI, cNeI, cEqB, cNeB, truI, truB, truL, truT, truN, intI, ixL, ixT, atN, atL, atM, atPlus, atPlus2, fdiv_pos, mod_pos, Int.reduceLT, Int.reduceLE, Int.reduceEq, Int.reduceMod, Int.reduceDiv, Nat.reduceLT, fnLenL, fnLenT, fnLenF, fnLenS, fnAbs, fnInt, fnList, fnListT, fnTuple, fnTupleT, fnMax2, fnMin2, fnSumL, fnSumT, fnMaxL, fnMaxT, fnMinL, fnMinT, fnAllL, fnAnyL, fnIsNone, fnNotNone, fnIsInt, fnIsBool, fnIsStr, fnIsTup, nN, nI, nB, nS, nL, nT, itmL, itmT, itmS, enmL', enmS', lckV, slcT, slcL, slcS, rgD_nat, rgD_pred, rgD_succ, setIxE, intsOf_ints, boolsOf_bools, strsOf_strs, List.getElem?_cons_succ, List.getElem?_cons_zero, List.set_cons_succ, List.set_cons_zero, List.getElem?_map, List.length_map, List.length_cons, List.length_nil, List.length_append, List.map_append, Option.bind_some, Option.bind_none, Option.map_some, Option.map_none, if_true, if_false, ite_true, ite_false, if_false_right, decide_eq_true_eq, Bool.not_eq_true', decide_eq_false_iff_not, Bool.not_eq_true, reduceCtorEq, reduceIte, ne_eq, not_false_eq_true, not_true_eq_false, true_and, and_true, false_and, and_false, implies_true, Bool.false_eq_true, List.isEmpty_cons, List.isEmpty_nil, Bool.not_true, Bool.not_false, List.map_cons, List.map_nil, List.cons_append, List.nil_append, List.replicate_succ, List.replicate_zero, Nat.reduceSub, Nat.reduceAdd, Nat.reduceMul, Int.reduceSub, Int.reduceNeg, Int.reduceAdd, Int.reduceMul, Int.reducePow, Int.reduceToNat, Nat.reduceLeDiff, lock, unls, unl, wip, rsto, fzO, frz, noal, lfree, lfrees, lfrees_ints, aft, Bool.and_self, Bool.and_true, Bool.true_and, c3, decide_false]
            exact ⟨now, ⟨i1, i2, i3⟩, rfl⟩
        · simp -implicitDefEqProofs only [↓Wp_def, Wp_some, Wp_none, Wp_bind, Wp_ite, Wp_map, wNil, wEx, wAsg, wApp, wSto, wAug, augD, augK_some, augK_none, stE, wAugs, wRetV, wRet, wRetn, wIfe, FQ_nx, FQ_rt, eCon, eVar, eBin, eNeg, eNott, eAndd, eOrr, eCmp, eChain, eChain3, eIte, eTup, eLst, eIdx, eIdxm, eLenset, eJoin, eSlc, eRev, eCall, eFn, ePop, ePopAt, tVal, tAndd, tOrr, tNott, toNone, toSome, oNone, oSome, esNil, esCons, hsNil, hsCons, hVar, hCon, hBin, hNeg, hNott, hAndd, hOrr, hCmp, hChain, hChain3, hIte, hTup, hLst, hIdx, hIdxm, hLenset, hJoin, hSlc, hRev, hCall, hFn, hLc, hGq, hPop, hPopAt, iSeq, iRng1, iRng2, iEnm, iZip, RV.fetch, fetchs, asn1, asnT, asnN, asnC, lkU, lkS, lkO, lkL, slF, slL, leC, leUs, leUo, leN, PyData.int.injEq, PyData.bool.injEq, PyData.str.injEq, PyData.tuple.injEq, PyData.list.injEq, Prod.mk.injEq, List.cons.injEq, Sum.inl.injEq, Option.some.injEq, leS, leO, leL, ow?, retD, varD, hvar, rAdd, rAddL, rAddT, rAddS, rSub, rMul, rPow, aAdd, aSub, aAddS, cLt, cLe, cGt, cGe, cEqI, cNeI, cEqB, cNeB, truI, truB, truL, truT, truN, intI, ixL, ixT, atN, atL, atM, atPlus, atPlus2, fdiv_pos, mod_pos, Int.reduceLT, Int.reduceLE, Int.reduceEq, Int.reduceMod, Int.reduceDiv, Nat.reduceLT, fnLenL, fnLenT, fnLenF, fnLenS, fnAbs, fnInt, fnList, fnListT, fnTuple, fnTupleT, fnMax2, fnMin2, fnSumL, fnSumT, fnMaxL, fnMaxT, fnMinL, fnMinT, fnAllL, fnAnyL, fnIsNone, fnNotNone, fnIsInt, fnIsBool, fnIsStr, fnIsTup, nN, nI, nB, nS, nL, nT, itmL, itmT, itmS, enmL', enmS', lckV, slcT, slcL, slcS, rgD_nat, rgD_pred, rgD_succ, setIxE, intsOf_ints, boolsOf_bools, strsOf_strs, List.getElem?_cons_succ, List.getElem?_cons_zero, List.set_cons_succ, List.set_cons_zero, List.getElem?_map, List.length_map, List.length_cons, List.length_nil, List.length_append, List.map_append, Option.bind_some, Option.bind_none, Option.map_some, Option.map_none, if_true, if_false, ite_true, ite_false, if_false_right, decide_eq_true_eq, Bool.not_eq_true', decide_eq_false_iff_not, Bool.not_eq_true, reduceCtorEq, reduceIte, ne_eq, not_false_eq_true, not_true_eq_false, true_and, and_true, false_and, and_false, implies_true, Bool.false_eq_true, List.isEmpty_cons, List.isEmpty_nil, Bool.not_true, Bool.not_false, List.map_cons, List.map_nil, List.cons_append, List.nil_append, List.replicate_succ, List.replicate_zero, Nat.reduceSub, Nat.reduceAdd, Nat.reduceMul, Int.reduceSub, Int.reduceNeg, Int.reduceAdd, Int.reduceMul, Int.reducePow, Int.reduceToNat, Nat.reduceLeDiff, lock, unls, unl, wip, rsto, fzO, frz, noal, lfree, lfrees, lfrees_ints, aft, Bool.and_self, Bool.and_true, Bool.true_and, c2, decide_false]
          exact ⟨now, ⟨i1, i2, i3⟩, rfl⟩
      · simp -implicitDefEqProofs only [↓Wp_def, Wp_some, Wp_none, Wp_bind, Wp_ite, Wp_map, wNil, wEx, wAsg, wApp, wSto, wAug, augD, augK_some, augK_none, stE, wAugs, wRetV, wRet, wRetn, wIfe, FQ_nx, FQ_rt, eCon, eVar, eBin, eNeg, eNott, eAndd, eOrr, eCmp, eChain, eChain3, eIte, eTup, eLst, eIdx, eIdxm, eLenset, eJoin, eSlc, eRev, eCall, eFn, ePop, ePopAt, tVal, tAndd, tOrr, tNott, toNone, toSome, oNone, oSome, esNil, esCons, hsNil, hsCons, hVar, hCon, hBin, hNeg, hNott, hAndd, hOrr, hCmp, hChain, hChain3, hIte, hTup, hLst, hIdx, hIdxm, hLenset, hJoin, hSlc, hRev, hCall, hFn, hLc, hGq, hPop, hPopAt, iSeq, iRng1, iRng2, iEnm, iZip, RV.fetch, fetchs, asn1, asnT, asnN, asnC, lkU, lkS, lkO, lkL, slF, slL, leC, leUs, leUo, leN, PyData.int.injEq, PyData.bool.injEq, PyData.str.injEq, PyData.tuple.injEq, PyData.list.injEq, Prod.mk.injEq, List.cons.injEq, Sum.inl.injEq, Option.some.injEq, leS, leO, leL, ow?, retD, varD, hvar, rAdd, rAddL, rAddT, rAddS, rSub, rMul, rPow, aAdd, aSub, aAddS, cLt, cLe, cGt, cGe, cEqI, cNeI, cEqB, cNeB, truI, truB, truL, truT, truN, intI, ixL, ixT, atN, atL, atM, atPlus, atPlus2, fdiv_pos, mod_pos, Int.reduceLT, Int.reduceLE, Int.reduceEq, Int.reduceMod, Int.reduceDiv, Nat.reduceLT, fnLenL, fnLenT, fnLenF, fnLenS, fnAbs, fnInt, fnList, fnListT, fnTuple, fnTupleT, fnMax2, fnMin2, fnSumL, fnSumT, fnMaxL, fnMaxT, fnMinL, fnMinT, fnAllL, fnAnyL, fnIsNone, fnNotNone, fnIsInt, fnIsBool, fnIsStr, fnIsTup, nN, nI, nB, nS, nL, nT, itmL, itmT, itmS, enmL', enmS', lckV, slcT, slcL, slcS, rgD_nat, rgD_pred, rgD_succ, setIxE, intsOf_ints, boolsOf_bools, strsOf_strs, List.getElem?_cons_succ, List.getElem?_cons_zero, List.set_cons_succ, List.set_cons_zero, List.getElem?_map, List.length_map, List.length_cons, List.length_nil, List.length_append, List.map_append, Option.bind_some, Option.bind_none, Option.map_some, Option.map_none, if_true, if_false, ite_true, ite_false, if_false_right, decide_eq_true_eq, Bool.not_eq_true', decide_eq_false_iff_not, Bool.not_eq_true, reduceCtorEq, reduceIte, ne_eq, not_false_eq_true, not_true_eq_false, true_and, and_true, false_and, and_false, implies_true, Bool.false_eq_true, List.isEmpty_cons, List.isEmpty_nil, Bool.not_true, Bool.not_false, List.map_cons, List.map_nil, List.cons_append, List.nil_append, List.replicate_succ, List.replicate_zero, Nat.reduceSub, Nat.reduceAdd, Nat.reduceMul, Int.reduceSub, Int.reduceNeg, Int.reduceAdd, Int.reduceMul, Int.reducePow, Int.reduceToNat, Nat.reduceLeDiff, lock, unls, unl, wip, rsto, fzO, frz, noal, lfree, lfrees, lfrees_ints, aft, Bool.and_self, Bool.and_true, Bool.true_and, c1, decide_false]
        exact ⟨now, ⟨i1, i2, i3⟩, rfl⟩
    · intro ms ⟨i1, i2, i3⟩
      simp -implicitDefEqProofs only [↓Wp_def, Wp_some, Wp_none, Wp_bind, Wp_ite, Wp_map, wNil, wEx, wAsg, wApp, wSto, wAug, augD, augK_some, augK_none, stE, wAugs, wRetV, wRet, wRetn, wIfe, FQ_nx, FQ_rt, eCon, eVar, eBin, eNeg, eNott, eAndd, eOrr, eCmp, eChain, eChain3, eIte, eTup, eLst, eIdx, eIdxm, eLenset, eJoin, eSlc, eRev, eCall, eFn, ePop, ePopAt, tVal, tAndd, tOrr, tNott, toNone, toSome, oNone, oSome, esNil, esCons, hsNil, hsCons, hVar, hCon, hBin, hNeg, hNott, hAndd, hOrr, hCmp, hChain, hChain3, hIte, hTup, hLst, hIdx, hIdxm, hLenset, hJoin, hSlc, hRev, hCall, hFn, hLc, hGq, hPop, hPopAt, iSeq, iRng1, iRng2, iEnm, iZip, RV.fetch, fetchs, asn1, asnT, asnN, asnC, lkU, lkS, lkO, lkL, slF, slL, leC, leUs, leUo, leN, PyData.int.injEq, PyData.bool.injEq, PyData.str.injEq, PyData.tuple.injEq, PyData.list.injEq, Prod.mk.injEq, List.cons.injEq, Sum.inl.injEq, Option.some.injEq, leS, leO, leL, ow?, retD, varD, hvar, rAdd, rAddL, rAddT, rAddS, rSub, rMul, rPow, aAdd, aSub, aAddS, cLt, cLe, cGt, cGe, cEqI, cNeI, cEqB, cNeB, truI, truB, truL, truT, truN, intI, ixL, ixT, atN, atL, atM, atPlus, atPlus2, fdiv_pos, mod_pos, Int.reduceLT, Int.reduceLE, Int.reduceEq, Int.reduceMod, Int.reduceDiv, Nat.reduceLT, fnLenL, fnLenT, fnLenF, fnLenS, fnAbs, fnInt, fnList, fnListT, fnTuple, fnTupleT, fnMax2, fnMin2, fnSumL, fnSumT, fnMaxL, fnMaxT, fnMinL, fnMinT, fnAllL, fnAnyL, fnIsNone, fnNotNone, fnIsInt, fnIsBool, fnIsStr, fnIsTup, nN, nI, nB, nS, nL, nT, itmL, itmT, itmS, enmL', enmS', lckV, slcT, slcL, slcS, rgD_nat, rgD_pred, rgD_succ, setIxE, intsOf_ints, boolsOf_bools, strsOf_strs, List.getElem?_cons_succ, List.getElem?_cons_zero, List.set_cons_succ, List.set_cons_zero, List.getElem?_map, List.length_map, List.length_cons, List.length_nil, List.length_append, List.map_append, Option.bind_some, Option.bind_none, Option.map_some, Option.map_none, if_true, if_false, ite_true, ite_false, if_false_right, decide_eq_true_eq, Bool.not_eq_true', decide_eq_false_iff_not, Bool.not_eq_true, reduceCtorEq, reduceIte, ne_eq, not_false_eq_true, not_true_eq_false, true_and, and_true, false_and, and_false, implies_true, Bool.false_eq_true, List.isEmpty_cons, List.isEmpty_nil, Bool.not_true, Bool.not_false, List.map_cons, List.map_nil, List.cons_append, List.nil_append, List.replicate_succ, List.replicate_zero, Nat.reduceSub, Nat.reduceAdd, Nat.reduceMul, Int.reduceSub, Int.reduceNeg, Int.reduceAdd, Int.reduceMul, Int.reducePow, Int.reduceToNat, Nat.reduceLeDiff, lock, unls, unl, wip, rsto, fzO, frz, noal, lfree, lfrees, lfrees_ints, aft, Bool.and_self, Bool.and_true, Bool.true_and]
      exact ⟨ms, i1, i2, i3, rfl⟩
  obtain ⟨x, h1, ms, h2, h3, h4, h5⟩ := main
  exact ⟨ms, h2, h3, h4, by rw [h1, h5]⟩
end KX

namespace KX
open PySem RV K73
def leadsL (a b : List Int) : List Int := (List.range (a.length + 1)).map fun k => lead a b k
theorem leads_sum (a b : List Int) : (leadsL a b).sum = tot a b := by
  unfold leadsL tot
  rw [List.range_succ_eq_map, List.map_cons, List.sum_cons, List.map_map]
  have : lead a b 0 = 0 := by simp [lead, S_zero]
  rw [this, Int.zero_add]
  rfl
theorem S_bd (a : List Int) (h : Bd a) : ∀ k, 0 ≤ S a k ∧ S a k ≤ 15 * k := fun k => by
  unfold S
  have : ∀ (l : List Int) (k : Nat), (∀ z ∈ l, 0 ≤ z ∧ z ≤ 15) → 0 ≤ (l.take k).sum ∧ (l.take k).sum ≤ 15 * k := fun l => by
    induction l with
    | nil => intro k _; simp; omega
    | cons x l ih =>
      intro k h
      cases k with
      | zero => simp
      | succ k =>
        have h1 := ih k fun z hz => h z (List.mem_cons_of_mem _ hz)
        have h2 := h x List.mem_cons_self
        rw [List.take_succ_cons, List.sum_cons]
        omega
  exact this a k h
theorem tot_bd (a b : List Int) (ha : Bd a) (hb : Bd b) (hl : a.length ≤ 6) : tot a b ≤ 600 := by
  unfold tot
  have : ∀ n, n ≤ 6 → ((List.range n).map fun k => lead a b (k + 1)).sum ≤ 90 * n := fun n => by
    induction n with
    | zero => intro _; simp
    | succ n ih =>
      intro hn
      rw [List.range_succ, List.map_append, List.sum_append]
      have h1 := ih (by omega)
      have h2 := S_bd a ha (n + 1)
      have h3 := S_bd b hb (n + 1)
      simp only [List.map_cons, List.map_nil, List.sum_cons, List.sum_nil]
      have h4 : lead a b (n + 1) = S a (n + 1) - S b (n + 1) := rfl
      omega
  have := this a.length hl
  omega
theorem isT {m : Nat} {d : PyData} (h : Pl m d) {k : Nat} (hk : m + 2 ≤ k) : run prog wf k 8 [d, d] = some (.bool true, false) := is_ok (iI := 7) rfl rfl m d h k hk
theorem pl_opt (o : Option (List Int)) (h : ∀ l, o = some l → l.length ≤ 1000) : Pl 1 (optT o) := by
  cases o with
  | none => exact .none 1
  | some l => exact Pl.ints (by have := h l rfl; omega)
theorem lf_opt (o : Option (List Int)) : lfree (optT o) = true := by
  cases o with
  | none => rfl
  | some l => simp [optT, lfree, lfrees_ints]
/-- the six turns -/
theorem turns_ok {k : Nat} (hk : 4 ≤ k) (a b base D : List Int) (m : Nat) (hD : Drw m D) (hm : 18 ≤ m) (hl : a.length ≤ 6) (hbase : base.length ≤ 1000) (l3 l4 : List PyData) (d5 : PyData) {I : En → Prop} {Q : PyData → Bool → Prop} (hI : Cl I) (hQ : Q (.bool true) false) :
    Wp (evSs (run prog wf k) wf (c14.body.drop 8) [.sh (T a), .sh (T b), .sh (.list (D.map .int)), .ow l3, .ow l4, .sh d5, .sh (T base), .un, .un, .un]) (FQ I Q) := by
  unfold c14
  simp only [List.drop_succ_cons, List.drop_zero]
  refine Wp.forP (as := List.range 6) (enc := fun j : Nat => .int j) [] (fun _ => True) (fun _ => [.sh (T a), .sh (T b), .sh (.list (D.map .int)), .ow l3, .ow l4, .sh d5, .sh (T base), .un, .un, .un]) ?_ ?_ ?_ hI
  · simp -implicitDefEqProofs only [↓Wp_def, Wp_some, Wp_none, Wp_bind, Wp_ite, Wp_map, wNil, wEx, wAsg, wApp, wSto, wAug, augD, augK_some, augK_none, stE, wAugs, wRetV, wRet, wRetn, wIfe, FQ_nx, FQ_rt, eCon, eVar, eBin, eNeg, eNott, eAndd, eOrr, eCmp, eChain, eChain3, eIte, eTup, eLst, eIdx, eIdxm, eLenset, eJoin, eSlc, eRev, eCall, eFn, ePop, ePopAt, tVal, tAndd, tOrr, tNott, toNone, toSome, oNone, oSome, esNil, esCons, hsNil, hsCons, hVar, hCon, hBin, hNeg, hNott, hAndd, hOrr, hCmp, hChain, hChain3, hIte, hTup, hLst, hIdx, hIdxm, hLenset, hJoin, hSlc, hRev, hCall, hFn, hLc, hGq, hPop, hPopAt, iSeq, iRng1, iRng2, iEnm, iZip, RV.fetch, fetchs, asn1, asnT, asnN, asnC, lkU, lkS, lkO, lkL, slF, slL, leC, leUs, leUo, leN, PyData.int.injEq, PyData.bool.injEq, PyData.str.injEq, PyData.tuple.injEq, PyData.list.injEq, Prod.mk.injEq, List.cons.injEq, Sum.inl.injEq, Option.some.injEq, leS, leO, leL, ow?, retD, varD, hvar, rAdd, rAddL, rAddT, rAddS, rSub, rMul, rPow, aAdd, aSub, aAddS, cLt, cLe, cGt, cGe, cEqI, cNeI, cEqB, cNeB, truI, truB, truL, truT, truN, intI, ixL, ixT, atN, atL, atM, atPlus, atPlus2, fdiv_pos, mod_pos, Int.reduceLT, Int.reduceLE, Int.reduceEq, Int.reduceMod, Int.reduceDiv, Nat.reduceLT, fnLenL, fnLenT, fnLenF, fnLenS, fnAbs, fnInt, fnList, fnListT, fnTuple, fnTupleT, fnMax2, fnMin2, fnSumL, fnSumT, fnMaxL, fnMaxT, fnMinL, fnMinT, fnAllL, fnAnyL, fnIsNone, fnNotNone, fnIsInt, fnIsBool, fnIsStr, fnIsTup, nN, nI, nB, nS, nL, nT, itmL, itmT, itmS, enmL', enmS', lckV, slcT, slcL, slcS, rgD_nat, rgD_pred, rgD_succ, setIxE, intsOf_ints, boolsOf_bools, strsOf_strs, List.getElem?_cons_succ, List.getElem?_cons_zero, List.set_cons_succ, List.set_cons_zero, List.getElem?_map, List.length_map, List.length_cons, List.length_nil, List.length_append, List.map_append, Option.bind_some, Option.bind_none, Option.map_some, Option.map_none, if_true, if_false, ite_true, ite_false, if_false_right, decide_eq_true_eq, Bool.not_eq_true', decide_eq_false_iff_not, Bool.not_eq_true, reduceCtorEq, reduceIte, ne_eq, not_false_eq_true, not_true_eq_false, true_and, and_true, false_and, and_false, implies_true, Bool.false_eq_true, List.isEmpty_cons, List.isEmpty_nil, Bool.not_true, Bool.not_false, List.map_cons, List.map_nil, List.cons_append, List.nil_append, List.replicate_succ, List.replicate_zero, Nat.reduceSub, Nat.reduceAdd, Nat.reduceMul, Int.reduceSub, Int.reduceNeg, Int.reduceAdd, Int.reduceMul, Int.reducePow, Int.reduceToNat, Nat.reduceLeDiff, lock, unls, unl, wip, rsto, fzO, frz, noal, lfree, lfrees, lfrees_ints, aft, Bool.and_self, Bool.and_true, Bool.true_and, show rgq 6 = some () from rgq_of (by decide) (by decide)]
    rfl
  · intro p j q hpq _
    have hj : j < 6 := List.mem_range.mp (by rw [hpq]; simp)
    have fin : ∀ qs : List Int, run prog wf k 8 [optT (led a qs), optT (led a qs)] = some (.bool true, false) := fun qs => isT (pl_opt _ fun l h => by rw [led_len a qs l h]; omega) (show 1 + 2 ≤ k by omega)
    simp -implicitDefEqProofs only [↓Wp_def, Wp_some, Wp_none, Wp_bind, Wp_ite, Wp_map, wNil, wEx, wAsg, wApp, wSto, wAug, augD, augK_some, augK_none, stE, wAugs, wRetV, wRet, wRetn, wIfe, FQ_nx, FQ_rt, eCon, eVar, eBin, eNeg, eNott, eAndd, eOrr, eCmp, eChain, eChain3, eIte, eTup, eLst, eIdx, eIdxm, eLenset, eJoin, eSlc, eRev, eCall, eFn, ePop, ePopAt, tVal, tAndd, tOrr, tNott, toNone, toSome, oNone, oSome, esNil, esCons, hsNil, hsCons, hVar, hCon, hBin, hNeg, hNott, hAndd, hOrr, hCmp, hChain, hChain3, hIte, hTup, hLst, hIdx, hIdxm, hLenset, hJoin, hSlc, hRev, hCall, hFn, hLc, hGq, hPop, hPopAt, iSeq, iRng1, iRng2, iEnm, iZip, RV.fetch, fetchs, asn1, asnT, asnN, asnC, lkU, lkS, lkO, lkL, slF, slL, leC, leUs, leUo, leN, PyData.int.injEq, PyData.bool.injEq, PyData.str.injEq, PyData.tuple.injEq, PyData.list.injEq, Prod.mk.injEq, List.cons.injEq, Sum.inl.injEq, Option.some.injEq, leS, leO, leL, ow?, retD, varD, hvar, rAdd, rAddL, rAddT, rAddS, rSub, rMul, rPow, aAdd, aSub, aAddS, cLt, cLe, cGt, cGe, cEqI, cNeI, cEqB, cNeB, truI, truB, truL, truT, truN, intI, ixL, ixT, atN, atL, atM, atPlus, atPlus2, fdiv_pos, mod_pos, Int.reduceLT, Int.reduceLE, Int.reduceEq, Int.reduceMod, Int.reduceDiv, Nat.reduceLT, fnLenL, fnLenT, fnLenF, fnLenS, fnAbs, fnInt, fnList, fnListT, fnTuple, fnTupleT, fnMax2, fnMin2, fnSumL, fnSumT, fnMaxL, fnMaxT, fnMinL, fnMinT, fnAllL, fnAnyL, fnIsNone, fnNotNone, fnIsInt, fnIsBool, fnIsStr, fnIsTup, nN, nI, nB, nS, nL, nT, itmL, itmT, itmS, enmL', enmS', lckV, slcT, slcL, slcS, rgD_nat, rgD_pred, rgD_succ, setIxE, intsOf_ints, boolsOf_bools, strsOf_strs, List.getElem?_cons_succ, List.getElem?_cons_zero, List.set_cons_succ, List.set_cons_zero, List.getElem?_map, List.length_map, List.length_cons, List.length_nil, List.length_append, List.map_append, Option.bind_some, Option.bind_none, Option.map_some, Option.map_none, if_true, if_false, ite_true, ite_false, if_false_right, decide_eq_true_eq, Bool.not_eq_true', decide_eq_false_iff_not, Bool.not_eq_true, reduceCtorEq, reduceIte, ne_eq, not_false_eq_true, not_true_eq_false, true_and, and_true, false_and, and_false, implies_true, Bool.false_eq_true, List.isEmpty_cons, List.isEmpty_nil, Bool.not_true, Bool.not_false, List.map_cons, List.map_nil, List.cons_append, List.nil_append, List.replicate_succ, List.replicate_zero, Nat.reduceSub, Nat.reduceAdd, Nat.reduceMul, Int.reduceSub, Int.reduceNeg, Int.reduceAdd, Int.reduceMul, Int.reducePow, Int.reduceToNat, Nat.reduceLeDiff, lock, unls, unl, wip, rsto, fzO, frz, noal, lfree, lfrees, lfrees_ints, aft, Bool.and_self, Bool.and_true, Bool.true_and]
    by_cases h0 : j = 0
    · subst h0
      simp -implicitDefEqProofs only [↓Wp_def, Wp_some, Wp_none, Wp_bind, Wp_ite, Wp_map, wNil, wEx, wAsg, wApp, wSto, wAug, augD, augK_some, augK_none, stE, wAugs, wRetV, wRet, wRetn, wIfe, FQ_nx, FQ_rt, eCon, eVar, eBin, eNeg, eNott, eAndd, eOrr, eCmp, eChain, eChain3, eIte, eTup, eLst, eIdx, eIdxm, eLenset, eJoin, eSlc, eRev, eCall, eFn, ePop, ePopAt, tVal, tAndd, tOrr, tNott, toNone, toSome, oNone, oSome, esNil, esCons, hsNil, hsCons, hVar, hCon, hBin, hNeg, hNott, hAndd, hOrr, hCmp, hChain, hChain3, hIte, hTup, hLst, hIdx, hIdxm, hLenset, hJoin, hSlc, hRev, hCall, hFn, hLc, hGq, hPop, hPopAt, iSeq, iRng1, iRng2, iEnm, iZip, RV.fetch, fetchs, asn1, asnT, asnN, asnC, lkU, lkS, lkO, lkL, slF, slL, leC, leUs, leUo, leN, PyData.int.injEq, PyData.bool.injEq, PyData.str.injEq, PyData.tuple.injEq, PyData.list.injEq, Prod.mk.injEq, List.cons.injEq, Sum.inl.injEq, Option.some.injEq, leS, leO, leL, ow?, retD, varD, hvar, rAdd, rAddL, rAddT, rAddS, rSub, rMul, rPow, aAdd, aSub, aAddS, cLt, cLe, cGt, cGe, cEqI, cNeI, cEqB, cNeB, truI, truB, truL, truT, truN, intI, ixL, ixT, atN, atL, atM, atPlus, atPlus2, fdiv_pos, mod_pos, Int.reduceLT, Int.reduceLE, Int.reduceEq, Int.reduceMod, Int.reduceDiv, Nat.reduceLT, fnLenL, fnLenT, fnLenF, fnLenS, fnAbs, fnInt, fnList, fnListT, fnTuple, fnTupleT, fnMax2, fnMin2, fnSumL, fnSumT, fnMaxL, fnMaxT, fnMinL, fnMinT, fnAllL, fnAnyL, fnIsNone, fnNotNone, fnIsInt, fnIsBool, fnIsStr, fnIsTup, nN, nI, nB, nS, nL, nT, itmL, itmT, itmS, enmL', enmS', lckV, slcT, slcL, slcS, rgD_nat, rgD_pred, rgD_succ, setIxE, intsOf_ints, boolsOf_bools, strsOf_strs, List.getElem?_cons_succ, List.getElem?_cons_zero, List.set_cons_succ, List.set_cons_zero, List.getElem?_map, List.length_map, List.length_cons, List.length_nil, List.length_append, List.map_append, Option.bind_some, Option.bind_none, Option.map_some, Option.map_none, if_true, if_false, ite_true, ite_false, if_false_right, decide_eq_true_eq, Bool.not_eq_true', decide_eq_false_iff_not, Bool.not_eq_true, reduceCtorEq, reduceIte, ne_eq, not_false_eq_true, not_true_eq_false, true_and, and_true, false_and, and_false, implies_true, Bool.false_eq_true, List.isEmpty_cons, List.isEmpty_nil, Bool.not_true, Bool.not_false, List.map_cons, List.map_nil, List.cons_append, List.nil_append, List.replicate_succ, List.replicate_zero, Nat.reduceSub, Nat.reduceAdd, Nat.reduceMul, Int.reduceSub, Int.reduceNeg, Int.reduceAdd, Int.reduceMul, Int.reducePow, Int.reduceToNat, Nat.reduceLeDiff, lock, unls, unl, wip, rsto, fzO, frz, noal, lfree, lfrees, lfrees_ints, aft, Bool.and_self, Bool.and_true, Bool.true_and, Int.natCast_zero, decide_true, afterN_ok (show 1 ≤ k by omega) a base (by omega), led_ok (show 1 ≤ k by omega) a base (by omega), lf_opt, fin]
    · have h0' : ¬ (j : Int) = 0 := by omega
      have c1 : (3 : Int) * (j : Int) = ((3 * j : Nat) : Int) := by omega
      have c2 : ((3 * j : Nat) : Int) + 3 = ((3 * j + 3 : Nat) : Int) := by omega
      have cm : cutD (D.map PyData.int) (some ((3 * j : Nat) : Int)) (some ((3 * j + 3 : Nat) : Int)) = ((D.drop (3 * j)).take 3).map .int := by
        rw [cut_mid (by rw [List.length_map, hD.1]; omega) (by omega), List.map_take, List.map_drop]
        congr 1
        omega
      have hD3 : Drw 3 ((D.drop (3 * j)).take 3) := drw_take (drw_drop hD (show 3 * j ≤ m by omega)) (by omega)
      obtain ⟨qs, hqs⟩ := bent_ok (show 1 ≤ k by omega) base ((D.drop (3 * j)).take 3) a.length hbase hD3 (by omega)
      have mo := mulOk_of (i := 3) (j := (j : Int)) (by decide) (by decide) (by omega) (by omega)
      simp -implicitDefEqProofs only [↓Wp_def, Wp_some, Wp_none, Wp_bind, Wp_ite, Wp_map, wNil, wEx, wAsg, wApp, wSto, wAug, augD, augK_some, augK_none, stE, wAugs, wRetV, wRet, wRetn, wIfe, FQ_nx, FQ_rt, eCon, eVar, eBin, eNeg, eNott, eAndd, eOrr, eCmp, eChain, eChain3, eIte, eTup, eLst, eIdx, eIdxm, eLenset, eJoin, eSlc, eRev, eCall, eFn, ePop, ePopAt, tVal, tAndd, tOrr, tNott, toNone, toSome, oNone, oSome, esNil, esCons, hsNil, hsCons, hVar, hCon, hBin, hNeg, hNott, hAndd, hOrr, hCmp, hChain, hChain3, hIte, hTup, hLst, hIdx, hIdxm, hLenset, hJoin, hSlc, hRev, hCall, hFn, hLc, hGq, hPop, hPopAt, iSeq, iRng1, iRng2, iEnm, iZip, RV.fetch, fetchs, asn1, asnT, asnN, asnC, lkU, lkS, lkO, lkL, slF, slL, leC, leUs, leUo, leN, PyData.int.injEq, PyData.bool.injEq, PyData.str.injEq, PyData.tuple.injEq, PyData.list.injEq, Prod.mk.injEq, List.cons.injEq, Sum.inl.injEq, Option.some.injEq, leS, leO, leL, ow?, retD, varD, hvar, rAdd, rAddL, rAddT, rAddS, rSub, rMul, rPow, aAdd, aSub, aAddS, cLt, cLe, cGt, cGe, cEqI, cNeI, cEqB, cNeB, truI, truB, truL, truT, truN, intI, ixL, ixT, atN, atL, atM, atPlus, atPlus2, fdiv_pos, mod_pos, Int.reduceLT, Int.reduceLE, Int.reduceEq, Int.reduceMod, Int.reduceDiv, Nat.reduceLT, fnLenL, fnLenT, fnLenF, fnLenS, fnAbs, fnInt, fnList, fnListT, fnTuple, fnTupleT, fnMax2, fnMin2, fnSumL, fnSumT, fnMaxL, fnMaxT, fnMinL, fnMinT, fnAllL, fnAnyL, fnIsNone, fnNotNone, fnIsInt, fnIsBool, fnIsStr, fnIsTup, nN, nI, nB, nS, nL, nT, itmL, itmT, itmS, enmL', enmS', lckV, slcT, slcL, slcS, rgD_nat, rgD_pred, rgD_succ, setIxE, intsOf_ints, boolsOf_bools, strsOf_strs, List.getElem?_cons_succ, List.getElem?_cons_zero, List.set_cons_succ, List.set_cons_zero, List.getElem?_map, List.length_map, List.length_cons, List.length_nil, List.length_append, List.map_append, Option.bind_some, Option.bind_none, Option.map_some, Option.map_none, if_true, if_false, ite_true, ite_false, if_false_right, decide_eq_true_eq, Bool.not_eq_true', decide_eq_false_iff_not, Bool.not_eq_true, reduceCtorEq, reduceIte, ne_eq, not_false_eq_true, not_true_eq_false, true_and, and_true, false_and, and_false, implies_true, Bool.false_eq_true, List.isEmpty_cons, List.isEmpty_nil, Bool.not_true, Bool.not_false, List.map_cons, List.map_nil, List.cons_append, List.nil_append, List.replicate_succ, List.replicate_zero, Nat.reduceSub, Nat.reduceAdd, Nat.reduceMul, Int.reduceSub, Int.reduceNeg, Int.reduceAdd, Int.reduceMul, Int.reducePow, Int.reduceToNat, Nat.reduceLeDiff, lock, unls, unl, wip, rsto, fzO, frz, noal, lfree, lfrees, lfrees_ints, aft, Bool.and_self, Bool.and_true, Bool.true_and, h0', decide_false, mo, c1, c2, cm, hqs, afterN_ok (show 1 ≤ k by omega) a qs (by omega), led_ok (show 1 ≤ k by omega) a qs (by omega), lf_opt, fin]
  · intro _
    simp -implicitDefEqProofs only [↓Wp_def, Wp_some, Wp_none, Wp_bind, Wp_ite, Wp_map, wNil, wEx, wAsg, wApp, wSto, wAug, augD, augK_some, augK_none, stE, wAugs, wRetV, wRet, wRetn, wIfe, FQ_nx, FQ_rt, eCon, eVar, eBin, eNeg, eNott, eAndd, eOrr, eCmp, eChain, eChain3, eIte, eTup, eLst, eIdx, eIdxm, eLenset, eJoin, eSlc, eRev, eCall, eFn, ePop, ePopAt, tVal, tAndd, tOrr, tNott, toNone, toSome, oNone, oSome, esNil, esCons, hsNil, hsCons, hVar, hCon, hBin, hNeg, hNott, hAndd, hOrr, hCmp, hChain, hChain3, hIte, hTup, hLst, hIdx, hIdxm, hLenset, hJoin, hSlc, hRev, hCall, hFn, hLc, hGq, hPop, hPopAt, iSeq, iRng1, iRng2, iEnm, iZip, RV.fetch, fetchs, asn1, asnT, asnN, asnC, lkU, lkS, lkO, lkL, slF, slL, leC, leUs, leUo, leN, PyData.int.injEq, PyData.bool.injEq, PyData.str.injEq, PyData.tuple.injEq, PyData.list.injEq, Prod.mk.injEq, List.cons.injEq, Sum.inl.injEq, Option.some.injEq, leS, leO, leL, ow?, retD, varD, hvar, rAdd, rAddL, rAddT, rAddS, rSub, rMul, rPow, aAdd, aSub, aAddS, cLt, cLe, cGt, cGe, cEqI, cNeI, cEqB, cNeB, truI, truB, truL, truT, truN, intI, ixL, ixT, atN, atL, atM, atPlus, atPlus2, fdiv_pos, mod_pos, Int.reduceLT, Int.reduceLE, Int.reduceEq, Int.reduceMod, Int.reduceDiv, Nat.reduceLT, fnLenL, fnLenT, fnLenF, fnLenS, fnAbs, fnInt, fnList, fnListT, fnTuple, fnTupleT, fnMax2, fnMin2, fnSumL, fnSumT, fnMaxL, fnMaxT, fnMinL, fnMinT, fnAllL, fnAnyL, fnIsNone, fnNotNone, fnIsInt, fnIsBool, fnIsStr, fnIsTup, nN, nI, nB, nS, nL, nT, itmL, itmT, itmS, enmL', enmS', lckV, slcT, slcL, slcS, rgD_nat, rgD_pred, rgD_succ, setIxE, intsOf_ints, boolsOf_bools, strsOf_strs, List.getElem?_cons_succ, List.getElem?_cons_zero, List.set_cons_succ, List.set_cons_zero, List.getElem?_map, List.length_map, List.length_cons, List.length_nil, List.length_append, List.map_append, Option.bind_some, Option.bind_none, Option.map_some, Option.map_none, if_true, if_false, ite_true, ite_false, if_false_right, decide_eq_true_eq, Bool.not_eq_true', decide_eq_false_iff_not, Bool.not_eq_true, reduceCtorEq, reduceIte, ne_eq, not_false_eq_true, not_true_eq_false, true_and, and_true, false_and, and_false, implies_true, Bool.false_eq_true, List.isEmpty_cons, List.isEmpty_nil, Bool.not_true, Bool.not_false, List.map_cons, List.map_nil, List.cons_append, List.nil_append, List.replicate_succ, List.replicate_zero, Nat.reduceSub, Nat.reduceAdd, Nat.reduceMul, Int.reduceSub, Int.reduceNeg, Int.reduceAdd, Int.reduceMul, Int.reducePow, Int.reduceToNat, Nat.reduceLeDiff, lock, unls, unl, wip, rsto, fzO, frz, noal, lfree, lfrees, lfrees_ints, aft, Bool.and_self, Bool.and_true, Bool.true_and]
    exact hQ
theorem pair_ok {k : Nat} (hk : 5 ≤ k) (a b D : List Int) (m : Nat) (hD : Drw m D) (hm : 18 ≤ m) (hl : a.length = b.length) (h6 : a.length ≤ 6) (hs : a.sum = b.sum) (ha : Bd a) (hb : Bd b) : run prog wf k 14 [T a, T b, .list (D.map .int)] = some (.bool true, false) := by
  refine run_eq (d := 4) (p := c14) rfl hk fun k hk => Wp.fn rfl ?_
  have tr := fun base hbase l3 l4 d5 => turns_ok (k := k) hk a b base D m hD hm h6 hbase l3 l4 d5 (I := fun _ => (PyData.none, false) = (PyData.bool true, false)) (Q := fun d f => (d, f) = (PyData.bool true, false)) cl_const rfl
  unfold c14 at tr ⊢
  simp only [List.drop_succ_cons, List.drop_zero] at tr
  simp -implicitDefEqProofs only [↓Wp_def, Wp_some, Wp_none, Wp_bind, Wp_ite, Wp_map, wNil, wEx, wAsg, wApp, wSto, wAug, augD, augK_some, augK_none, stE, wAugs, wRetV, wRet, wRetn, wIfe, FQ_nx, FQ_rt, eCon, eVar, eBin, eNeg, eNott, eAndd, eOrr, eCmp, eChain, eChain3, eIte, eTup, eLst, eIdx, eIdxm, eLenset, eJoin, eSlc, eRev, eCall, eFn, ePop, ePopAt, tVal, tAndd, tOrr, tNott, toNone, toSome, oNone, oSome, esNil, esCons, hsNil, hsCons, hVar, hCon, hBin, hNeg, hNott, hAndd, hOrr, hCmp, hChain, hChain3, hIte, hTup, hLst, hIdx, hIdxm, hLenset, hJoin, hSlc, hRev, hCall, hFn, hLc, hGq, hPop, hPopAt, iSeq, iRng1, iRng2, iEnm, iZip, RV.fetch, fetchs, asn1, asnT, asnN, asnC, lkU, lkS, lkO, lkL, slF, slL, leC, leUs, leUo, leN, PyData.int.injEq, PyData.bool.injEq, PyData.str.injEq, PyData.tuple.injEq, PyData.list.injEq, Prod.mk.injEq, List.cons.injEq, Sum.inl.injEq, Option.some.injEq, leS, leO, leL, ow?, retD, varD, hvar, rAdd, rAddL, rAddT, rAddS, rSub, rMul, rPow, aAdd, aSub, aAddS, cLt, cLe, cGt, cGe, cEqI, cNeI, cEqB, cNeB, truI, truB, truL, truT, truN, intI, ixL, ixT, atN, atL, atM, atPlus, atPlus2, fdiv_pos, mod_pos, Int.reduceLT, Int.reduceLE, Int.reduceEq, Int.reduceMod, Int.reduceDiv, Nat.reduceLT, fnLenL, fnLenT, fnLenF, fnLenS, fnAbs, fnInt, fnList, fnListT, fnTuple, fnTupleT, fnMax2, fnMin2, fnSumL, fnSumT, fnMaxL, fnMaxT, fnMinL, fnMinT, fnAllL, fnAnyL, fnIsNone, fnNotNone, fnIsInt, fnIsBool, fnIsStr, fnIsTup, nN, nI, nB, nS, nL, nT, itmL, itmT, itmS, enmL', enmS', lckV, slcT, slcL, slcS, rgD_nat, rgD_pred, rgD_succ, setIxE, intsOf_ints, boolsOf_bools, strsOf_strs, List.getElem?_cons_succ, List.getElem?_cons_zero, List.set_cons_succ, List.set_cons_zero, List.getElem?_map, List.length_map, List.length_cons, List.length_nil, List.length_append, List.map_append, Option.bind_some, Option.bind_none, Option.map_some, Option.map_none, if_true, if_false, ite_true, ite_false, if_false_right, decide_eq_true_eq, Bool.not_eq_true', decide_eq_false_iff_not, Bool.not_eq_true, reduceCtorEq, reduceIte, ne_eq, not_false_eq_true, not_true_eq_false, true_and, and_true, false_and, and_false, implies_true, Bool.false_eq_true, List.isEmpty_cons, List.isEmpty_nil, Bool.not_true, Bool.not_false, List.map_cons, List.map_nil, List.cons_append, List.nil_append, List.replicate_succ, List.replicate_zero, Nat.reduceSub, Nat.reduceAdd, Nat.reduceMul, Int.reduceSub, Int.reduceNeg, Int.reduceAdd, Int.reduceMul, Int.reducePow, Int.reduceToNat, Nat.reduceLeDiff, lock, unls, unl, wip, rsto, fzO, frz, noal, lfree, lfrees, lfrees_ints, aft, Bool.and_self, Bool.and_true, Bool.true_and]
  refine Wp.lcM (as := List.range (a.length + 1)) (enc := fun j : Nat => .int j) (fun j => .int (lead a b j)) [.sh (T a), .sh (T b), .sh (.list (D.map .int)), .un, .un, .un, .un, .un, .un, .un] [.sh (T a), .sh (T b), .sh (.list (D.map .int)), .un, .un, .un, .un, .un, .un, .un] ?_ (by rw [List.length_range]; omega) ?_ ?_
  · simp -implicitDefEqProofs only [↓Wp_def, Wp_some, Wp_none, Wp_bind, Wp_ite, Wp_map, wNil, wEx, wAsg, wApp, wSto, wAug, augD, augK_some, augK_none, stE, wAugs, wRetV, wRet, wRetn, wIfe, FQ_nx, FQ_rt, eCon, eVar, eBin, eNeg, eNott, eAndd, eOrr, eCmp, eChain, eChain3, eIte, eTup, eLst, eIdx, eIdxm, eLenset, eJoin, eSlc, eRev, eCall, eFn, ePop, ePopAt, tVal, tAndd, tOrr, tNott, toNone, toSome, oNone, oSome, esNil, esCons, hsNil, hsCons, hVar, hCon, hBin, hNeg, hNott, hAndd, hOrr, hCmp, hChain, hChain3, hIte, hTup, hLst, hIdx, hIdxm, hLenset, hJoin, hSlc, hRev, hCall, hFn, hLc, hGq, hPop, hPopAt, iSeq, iRng1, iRng2, iEnm, iZip, RV.fetch, fetchs, asn1, asnT, asnN, asnC, lkU, lkS, lkO, lkL, slF, slL, leC, leUs, leUo, leN, PyData.int.injEq, PyData.bool.injEq, PyData.str.injEq, PyData.tuple.injEq, PyData.list.injEq, Prod.mk.injEq, List.cons.injEq, Sum.inl.injEq, Option.some.injEq, leS, leO, leL, ow?, retD, varD, hvar, rAdd, rAddL, rAddT, rAddS, rSub, rMul, rPow, aAdd, aSub, aAddS, cLt, cLe, cGt, cGe, cEqI, cNeI, cEqB, cNeB, truI, truB, truL, truT, truN, intI, ixL, ixT, atN, atL, atM, atPlus, atPlus2, fdiv_pos, mod_pos, Int.reduceLT, Int.reduceLE, Int.reduceEq, Int.reduceMod, Int.reduceDiv, Nat.reduceLT, fnLenL, fnLenT, fnLenF, fnLenS, fnAbs, fnInt, fnList, fnListT, fnTuple, fnTupleT, fnMax2, fnMin2, fnSumL, fnSumT, fnMaxL, fnMaxT, fnMinL, fnMinT, fnAllL, fnAnyL, fnIsNone, fnNotNone, fnIsInt, fnIsBool, fnIsStr, fnIsTup, nN, nI, nB, nS, nL, nT, itmL, itmT, itmS, enmL', enmS', lckV, slcT, slcL, slcS, rgD_nat, rgD_pred, rgD_succ, setIxE, intsOf_ints, boolsOf_bools, strsOf_strs, List.getElem?_cons_succ, List.getElem?_cons_zero, List.set_cons_succ, List.set_cons_zero, List.getElem?_map, List.length_map, List.length_cons, List.length_nil, List.length_append, List.map_append, Option.bind_some, Option.bind_none, Option.map_some, Option.map_none, if_true, if_false, ite_true, ite_false, if_false_right, decide_eq_true_eq, Bool.not_eq_true', decide_eq_false_iff_not, Bool.not_eq_true, reduceCtorEq, reduceIte, ne_eq, not_false_eq_true, not_true_eq_false, true_and, and_true, false_and, and_false, implies_true, Bool.false_eq_true, List.isEmpty_cons, List.isEmpty_nil, Bool.not_true, Bool.not_false, List.map_cons, List.map_nil, List.cons_append, List.nil_append, List.replicate_succ, List.replicate_zero, Nat.reduceSub, Nat.reduceAdd, Nat.reduceMul, Int.reduceSub, Int.reduceNeg, Int.reduceAdd, Int.reduceMul, Int.reducePow, Int.reduceToNat, Nat.reduceLeDiff, lock, unls, unl, wip, rsto, fzO, frz, noal, lfree, lfrees, lfrees_ints, aft, Bool.and_self, Bool.and_true, Bool.true_and, rgq_of (i := (a.length : Int) + 1) (by omega) (by omega)]
  · intro j hj
    have t1 : ∀ l : List Int, cutD (l.map PyData.int) none (some (j : Int)) = (l.take j).map .int := fun l => by rw [cut_to, List.map_take]
    simp -implicitDefEqProofs only [↓Wp_def, Wp_some, Wp_none, Wp_bind, Wp_ite, Wp_map, wNil, wEx, wAsg, wApp, wSto, wAug, augD, augK_some, augK_none, stE, wAugs, wRetV, wRet, wRetn, wIfe, FQ_nx, FQ_rt, eCon, eVar, eBin, eNeg, eNott, eAndd, eOrr, eCmp, eChain, eChain3, eIte, eTup, eLst, eIdx, eIdxm, eLenset, eJoin, eSlc, eRev, eCall, eFn, ePop, ePopAt, tVal, tAndd, tOrr, tNott, toNone, toSome, oNone, oSome, esNil, esCons, hsNil, hsCons, hVar, hCon, hBin, hNeg, hNott, hAndd, hOrr, hCmp, hChain, hChain3, hIte, hTup, hLst, hIdx, hIdxm, hLenset, hJoin, hSlc, hRev, hCall, hFn, hLc, hGq, hPop, hPopAt, iSeq, iRng1, iRng2, iEnm, iZip, RV.fetch, fetchs, asn1, asnT, asnN, asnC, lkU, lkS, lkO, lkL, slF, slL, leC, leUs, leUo, leN, PyData.int.injEq, PyData.bool.injEq, PyData.str.injEq, PyData.tuple.injEq, PyData.list.injEq, Prod.mk.injEq, List.cons.injEq, Sum.inl.injEq, Option.some.injEq, leS, leO, leL, ow?, retD, varD, hvar, rAdd, rAddL, rAddT, rAddS, rSub, rMul, rPow, aAdd, aSub, aAddS, cLt, cLe, cGt, cGe, cEqI, cNeI, cEqB, cNeB, truI, truB, truL, truT, truN, intI, ixL, ixT, atN, atL, atM, atPlus, atPlus2, fdiv_pos, mod_pos, Int.reduceLT, Int.reduceLE, Int.reduceEq, Int.reduceMod, Int.reduceDiv, Nat.reduceLT, fnLenL, fnLenT, fnLenF, fnLenS, fnAbs, fnInt, fnList, fnListT, fnTuple, fnTupleT, fnMax2, fnMin2, fnSumL, fnSumT, fnMaxL, fnMaxT, fnMinL, fnMinT, fnAllL, fnAnyL, fnIsNone, fnNotNone, fnIsInt, fnIsBool, fnIsStr, fnIsTup, nN, nI, nB, nS, nL, nT, itmL, itmT, itmS, enmL', enmS', lckV, slcT, slcL, slcS, rgD_nat, rgD_pred, rgD_succ, setIxE, intsOf_ints, boolsOf_bools, strsOf_strs, List.getElem?_cons_succ, List.getElem?_cons_zero, List.set_cons_succ, List.set_cons_zero, List.getElem?_map, List.length_map, List.length_cons, List.length_nil, List.length_append, List.map_append, Option.bind_some, Option.bind_none, Option.map_some, Option.map_none, if_true, if_false, ite_true, ite_false, if_false_right, decide_eq_true_eq, Bool.not_eq_true', decide_eq_false_iff_not, Bool.not_eq_true, reduceCtorEq, reduceIte, ne_eq, not_false_eq_true, not_true_eq_false, true_and, and_true, false_and, and_false, implies_true, Bool.false_eq_true, List.isEmpty_cons, List.isEmpty_nil, Bool.not_true, Bool.not_false, List.map_cons, List.map_nil, List.cons_append, List.nil_append, List.replicate_succ, List.replicate_zero, Nat.reduceSub, Nat.reduceAdd, Nat.reduceMul, Int.reduceSub, Int.reduceNeg, Int.reduceAdd, Int.reduceMul, Int.reducePow, Int.reduceToNat, Nat.reduceLeDiff, lock, unls, unl, wip, rsto, fzO, frz, noal, lfree, lfrees, lfrees_ints, aft, Bool.and_self, Bool.and_true, Bool.true_and, t1]
    rfl
  · have e1 : (List.range (a.length + 1)).map (fun j => PyData.int (lead a b j)) = (leadsL a b).map .int := by simp [leadsL]
    have ll : (leadsL a b).length = a.length + 1 := by simp [leadsL]
    simp -implicitDefEqProofs only [↓Wp_def, Wp_some, Wp_none, Wp_bind, Wp_ite, Wp_map, wNil, wEx, wAsg, wApp, wSto, wAug, augD, augK_some, augK_none, stE, wAugs, wRetV, wRet, wRetn, wIfe, FQ_nx, FQ_rt, eCon, eVar, eBin, eNeg, eNott, eAndd, eOrr, eCmp, eChain, eChain3, eIte, eTup, eLst, eIdx, eIdxm, eLenset, eJoin, eSlc, eRev, eCall, eFn, ePop, ePopAt, tVal, tAndd, tOrr, tNott, toNone, toSome, oNone, oSome, esNil, esCons, hsNil, hsCons, hVar, hCon, hBin, hNeg, hNott, hAndd, hOrr, hCmp, hChain, hChain3, hIte, hTup, hLst, hIdx, hIdxm, hLenset, hJoin, hSlc, hRev, hCall, hFn, hLc, hGq, hPop, hPopAt, iSeq, iRng1, iRng2, iEnm, iZip, RV.fetch, fetchs, asn1, asnT, asnN, asnC, lkU, lkS, lkO, lkL, slF, slL, leC, leUs, leUo, leN, PyData.int.injEq, PyData.bool.injEq, PyData.str.injEq, PyData.tuple.injEq, PyData.list.injEq, Prod.mk.injEq, List.cons.injEq, Sum.inl.injEq, Option.some.injEq, leS, leO, leL, ow?, retD, varD, hvar, rAdd, rAddL, rAddT, rAddS, rSub, rMul, rPow, aAdd, aSub, aAddS, cLt, cLe, cGt, cGe, cEqI, cNeI, cEqB, cNeB, truI, truB, truL, truT, truN, intI, ixL, ixT, atN, atL, atM, atPlus, atPlus2, fdiv_pos, mod_pos, Int.reduceLT, Int.reduceLE, Int.reduceEq, Int.reduceMod, Int.reduceDiv, Nat.reduceLT, fnLenL, fnLenT, fnLenF, fnLenS, fnAbs, fnInt, fnList, fnListT, fnTuple, fnTupleT, fnMax2, fnMin2, fnSumL, fnSumT, fnMaxL, fnMaxT, fnMinL, fnMinT, fnAllL, fnAnyL, fnIsNone, fnNotNone, fnIsInt, fnIsBool, fnIsStr, fnIsTup, nN, nI, nB, nS, nL, nT, itmL, itmT, itmS, enmL', enmS', lckV, slcT, slcL, slcS, rgD_nat, rgD_pred, rgD_succ, setIxE, intsOf_ints, boolsOf_bools, strsOf_strs, List.getElem?_cons_succ, List.getElem?_cons_zero, List.set_cons_succ, List.set_cons_zero, List.getElem?_map, List.length_map, List.length_cons, List.length_nil, List.length_append, List.map_append, Option.bind_some, Option.bind_none, Option.map_some, Option.map_none, if_true, if_false, ite_true, ite_false, if_false_right, decide_eq_true_eq, Bool.not_eq_true', decide_eq_false_iff_not, Bool.not_eq_true, reduceCtorEq, reduceIte, ne_eq, not_false_eq_true, not_true_eq_false, true_and, and_true, false_and, and_false, implies_true, Bool.false_eq_true, List.isEmpty_cons, List.isEmpty_nil, Bool.not_true, Bool.not_false, List.map_cons, List.map_nil, List.cons_append, List.nil_append, List.replicate_succ, List.replicate_zero, Nat.reduceSub, Nat.reduceAdd, Nat.reduceMul, Int.reduceSub, Int.reduceNeg, Int.reduceAdd, Int.reduceMul, Int.reducePow, Int.reduceToNat, Nat.reduceLeDiff, lock, unls, unl, wip, rsto, fzO, frz, noal, lfree, lfrees, lfrees_ints, aft, Bool.and_self, Bool.and_true, Bool.true_and, e1]
    refine Wp.lcF (as := List.range (a.length + 1)) (enc := fun j : Nat => .int j) (fun j => decide (lead a b j < 0)) (fun j : Nat => .int j) [.sh (T a), .sh (T b), .sh (.list (D.map .int)), .ow ((leadsL a b).map .int), .un, .un, .un, .un, .un, .un] [.sh (T a), .sh (T b), .sh (.list (D.map .int)), .ow ((leadsL a b).map .int), .un, .un, .un, .un, .un, .un] ?_ (by rw [List.length_range]; omega) ?_ ?_
    · simp -implicitDefEqProofs only [↓Wp_def, Wp_some, Wp_none, Wp_bind, Wp_ite, Wp_map, wNil, wEx, wAsg, wApp, wSto, wAug, augD, augK_some, augK_none, stE, wAugs, wRetV, wRet, wRetn, wIfe, FQ_nx, FQ_rt, eCon, eVar, eBin, eNeg, eNott, eAndd, eOrr, eCmp, eChain, eChain3, eIte, eTup, eLst, eIdx, eIdxm, eLenset, eJoin, eSlc, eRev, eCall, eFn, ePop, ePopAt, tVal, tAndd, tOrr, tNott, toNone, toSome, oNone, oSome, esNil, esCons, hsNil, hsCons, hVar, hCon, hBin, hNeg, hNott, hAndd, hOrr, hCmp, hChain, hChain3, hIte, hTup, hLst, hIdx, hIdxm, hLenset, hJoin, hSlc, hRev, hCall, hFn, hLc, hGq, hPop, hPopAt, iSeq, iRng1, iRng2, iEnm, iZip, RV.fetch, fetchs, asn1, asnT, asnN, asnC, lkU, lkS, lkO, lkL, slF, slL, leC, leUs, leUo, leN, PyData.int.injEq, PyData.bool.injEq, PyData.str.injEq, PyData.tuple.injEq, PyData.list.injEq, Prod.mk.injEq, List.cons.injEq, Sum.inl.injEq, Option.some.injEq, leS, leO, leL, ow?, retD, varD, hvar, rAdd, rAddL, rAddT, rAddS, rSub, rMul, rPow, aAdd, aSub, aAddS, cLt, cLe, cGt, cGe, cEqI, cNeI, cEqB, cNeB, truI, truB, truL, truT, truN, intI, ixL, ixT, atN, atL, atM, atPlus, atPlus2, fdiv_pos, mod_pos, Int.reduceLT, Int.reduceLE, Int.reduceEq, Int.reduceMod, Int.reduceDiv, Nat.reduceLT, fnLenL, fnLenT, fnLenF, fnLenS, fnAbs, fnInt, fnList, fnListT, fnTuple, fnTupleT, fnMax2, fnMin2, fnSumL, fnSumT, fnMaxL, fnMaxT, fnMinL, fnMinT, fnAllL, fnAnyL, fnIsNone, fnNotNone, fnIsInt, fnIsBool, fnIsStr, fnIsTup, nN, nI, nB, nS, nL, nT, itmL, itmT, itmS, enmL', enmS', lckV, slcT, slcL, slcS, rgD_nat, rgD_pred, rgD_succ, setIxE, intsOf_ints, boolsOf_bools, strsOf_strs, List.getElem?_cons_succ, List.getElem?_cons_zero, List.set_cons_succ, List.set_cons_zero, List.getElem?_map, List.length_map, List.length_cons, List.length_nil, List.length_append, List.map_append, Option.bind_some, Option.bind_none, Option.map_some, Option.map_none, if_true, if_false, ite_true, ite_false, if_false_right, decide_eq_true_eq, Bool.not_eq_true', decide_eq_false_iff_not, Bool.not_eq_true, reduceCtorEq, reduceIte, ne_eq, not_false_eq_true, not_true_eq_false, true_and, and_true, false_and, and_false, implies_true, Bool.false_eq_true, List.isEmpty_cons, List.isEmpty_nil, Bool.not_true, Bool.not_false, List.map_cons, List.map_nil, List.cons_append, List.nil_append, List.replicate_succ, List.replicate_zero, Nat.reduceSub, Nat.reduceAdd, Nat.reduceMul, Int.reduceSub, Int.reduceNeg, Int.reduceAdd, Int.reduceMul, Int.reducePow, Int.reduceToNat, Nat.reduceLeDiff, lock, unls, unl, wip, rsto, fzO, frz, noal, lfree, lfrees, lfrees_ints, aft, Bool.and_self, Bool.and_true, Bool.true_and, ll, rgq_of (i := ((a.length + 1 : Nat) : Int)) (by omega) (by omega)]
    · intro j hj
      have hj := List.mem_range.mp hj
      have g : (leadsL a b)[j]? = some (lead a b j) := by simp [leadsL, hj]
      simp -implicitDefEqProofs only [↓Wp_def, Wp_some, Wp_none, Wp_bind, Wp_ite, Wp_map, wNil, wEx, wAsg, wApp, wSto, wAug, augD, augK_some, augK_none, stE, wAugs, wRetV, wRet, wRetn, wIfe, FQ_nx, FQ_rt, eCon, eVar, eBin, eNeg, eNott, eAndd, eOrr, eCmp, eChain, eChain3, eIte, eTup, eLst, eIdx, eIdxm, eLenset, eJoin, eSlc, eRev, eCall, eFn, ePop, ePopAt, tVal, tAndd, tOrr, tNott, toNone, toSome, oNone, oSome, esNil, esCons, hsNil, hsCons, hVar, hCon, hBin, hNeg, hNott, hAndd, hOrr, hCmp, hChain, hChain3, hIte, hTup, hLst, hIdx, hIdxm, hLenset, hJoin, hSlc, hRev, hCall, hFn, hLc, hGq, hPop, hPopAt, iSeq, iRng1, iRng2, iEnm, iZip, RV.fetch, fetchs, asn1, asnT, asnN, asnC, lkU, lkS, lkO, lkL, slF, slL, leC, leUs, leUo, leN, PyData.int.injEq, PyData.bool.injEq, PyData.str.injEq, PyData.tuple.injEq, PyData.list.injEq, Prod.mk.injEq, List.cons.injEq, Sum.inl.injEq, Option.some.injEq, leS, leO, leL, ow?, retD, varD, hvar, rAdd, rAddL, rAddT, rAddS, rSub, rMul, rPow, aAdd, aSub, aAddS, cLt, cLe, cGt, cGe, cEqI, cNeI, cEqB, cNeB, truI, truB, truL, truT, truN, intI, ixL, ixT, atN, atL, atM, atPlus, atPlus2, fdiv_pos, mod_pos, Int.reduceLT, Int.reduceLE, Int.reduceEq, Int.reduceMod, Int.reduceDiv, Nat.reduceLT, fnLenL, fnLenT, fnLenF, fnLenS, fnAbs, fnInt, fnList, fnListT, fnTuple, fnTupleT, fnMax2, fnMin2, fnSumL, fnSumT, fnMaxL, fnMaxT, fnMinL, fnMinT, fnAllL, fnAnyL, fnIsNone, fnNotNone, fnIsInt, fnIsBool, fnIsStr, fnIsTup, nN, nI, nB, nS, nL, nT, itmL, itmT, itmS, enmL', enmS', lckV, slcT, slcL, slcS, rgD_nat, rgD_pred, rgD_succ, setIxE, intsOf_ints, boolsOf_bools, strsOf_strs, List.getElem?_cons_succ, List.getElem?_cons_zero, List.set_cons_succ, List.set_cons_zero, List.getElem?_map, List.length_map, List.length_cons, List.length_nil, List.length_append, List.map_append, Option.bind_some, Option.bind_none, Option.map_some, Option.map_none, if_true, if_false, ite_true, ite_false, if_false_right, decide_eq_true_eq, Bool.not_eq_true', decide_eq_false_iff_not, Bool.not_eq_true, reduceCtorEq, reduceIte, ne_eq, not_false_eq_true, not_true_eq_false, true_and, and_true, false_and, and_false, implies_true, Bool.false_eq_true, List.isEmpty_cons, List.isEmpty_nil, Bool.not_true, Bool.not_false, List.map_cons, List.map_nil, List.cons_append, List.nil_append, List.replicate_succ, List.replicate_zero, Nat.reduceSub, Nat.reduceAdd, Nat.reduceMul, Int.reduceSub, Int.reduceNeg, Int.reduceAdd, Int.reduceMul, Int.reducePow, Int.reduceToNat, Nat.reduceLeDiff, lock, unls, unl, wip, rsto, fzO, frz, noal, lfree, lfrees, lfrees_ints, aft, Bool.and_self, Bool.and_true, Bool.true_and, g]
      split <;> trivial
    · have e2 : (List.range (a.length + 1)).filter (fun j => decide (lead a b j < 0)) = earlyL a b := rfl
      rw [e2]
      cases he : earlyL a b with
      | nil =>
        have haf := (early_nil a b).mp he
        obtain ⟨ps, p1, p2, p3⟩ := nudges_ok (show 3 ≤ k by omega) a b hl (by omega) ⟨hl, hs, haf⟩ (fun z hz => (hb z hz).1) (by have := tot_bd a b ha hb h6; omega)
        have pl := tot_bd a b ha hb h6
        have hps : ps.length ≤ 1000 := by omega
        have q1 := isInts_ok (prog := prog) (wf := wf) (i := 9) (iI := 7) rfl rfl (show 2 ≤ k by omega) ps (by omega)
        have f1 := led_ok (show 1 ≤ k by omega) a ps (by omega)
        rw [p2] at f1
        have e3 : optT (some b) = .tuple (b.map .int) := rfl
        rw [e3] at f1
        simp -implicitDefEqProofs only [↓Wp_def, Wp_some, Wp_none, Wp_bind, Wp_ite, Wp_map, wNil, wEx, wAsg, wApp, wSto, wAug, augD, augK_some, augK_none, stE, wAugs, wRetV, wRet, wRetn, wIfe, FQ_nx, FQ_rt, eCon, eVar, eBin, eNeg, eNott, eAndd, eOrr, eCmp, eChain, eChain3, eIte, eTup, eLst, eIdx, eIdxm, eLenset, eJoin, eSlc, eRev, eCall, eFn, ePop, ePopAt, tVal, tAndd, tOrr, tNott, toNone, toSome, oNone, oSome, esNil, esCons, hsNil, hsCons, hVar, hCon, hBin, hNeg, hNott, hAndd, hOrr, hCmp, hChain, hChain3, hIte, hTup, hLst, hIdx, hIdxm, hLenset, hJoin, hSlc, hRev, hCall, hFn, hLc, hGq, hPop, hPopAt, iSeq, iRng1, iRng2, iEnm, iZip, RV.fetch, fetchs, asn1, asnT, asnN, asnC, lkU, lkS, lkO, lkL, slF, slL, leC, leUs, leUo, leN, PyData.int.injEq, PyData.bool.injEq, PyData.str.injEq, PyData.tuple.injEq, PyData.list.injEq, Prod.mk.injEq, List.cons.injEq, Sum.inl.injEq, Option.some.injEq, leS, leO, leL, ow?, retD, varD, hvar, rAdd, rAddL, rAddT, rAddS, rSub, rMul, rPow, aAdd, aSub, aAddS, cLt, cLe, cGt, cGe, cEqI, cNeI, cEqB, cNeB, truI, truB, truL, truT, truN, intI, ixL, ixT, atN, atL, atM, atPlus, atPlus2, fdiv_pos, mod_pos, Int.reduceLT, Int.reduceLE, Int.reduceEq, Int.reduceMod, Int.reduceDiv, Nat.reduceLT, fnLenL, fnLenT, fnLenF, fnLenS, fnAbs, fnInt, fnList, fnListT, fnTuple, fnTupleT, fnMax2, fnMin2, fnSumL, fnSumT, fnMaxL, fnMaxT, fnMinL, fnMinT, fnAllL, fnAnyL, fnIsNone, fnNotNone, fnIsInt, fnIsBool, fnIsStr, fnIsTup, nN, nI, nB, nS, nL, nT, itmL, itmT, itmS, enmL', enmS', lckV, slcT, slcL, slcS, rgD_nat, rgD_pred, rgD_succ, setIxE, intsOf_ints, boolsOf_bools, strsOf_strs, List.getElem?_cons_succ, List.getElem?_cons_zero, List.set_cons_succ, List.set_cons_zero, List.getElem?_map, List.length_map, List.length_cons, List.length_nil, List.length_append, List.map_append, Option.bind_some, Option.bind_none, Option.map_some, Option.map_none, if_true, if_false, ite_true, ite_false, if_false_right, decide_eq_true_eq, Bool.not_eq_true', decide_eq_false_iff_not, Bool.not_eq_true, reduceCtorEq, reduceIte, ne_eq, not_false_eq_true, not_true_eq_false, true_and, and_true, false_and, and_false, implies_true, Bool.false_eq_true, List.isEmpty_cons, List.isEmpty_nil, Bool.not_true, Bool.not_false, List.map_cons, List.map_nil, List.cons_append, List.nil_append, List.replicate_succ, List.replicate_zero, Nat.reduceSub, Nat.reduceAdd, Nat.reduceMul, Int.reduceSub, Int.reduceNeg, Int.reduceAdd, Int.reduceMul, Int.reducePow, Int.reduceToNat, Nat.reduceLeDiff, lock, unls, unl, wip, rsto, fzO, frz, noal, lfree, lfrees, lfrees_ints, aft, Bool.and_self, Bool.and_true, Bool.true_and, after_ok (show 2 ≤ k by omega) a b hl (by omega), early_ok (show 2 ≤ k by omega) a b hl (by omega), he, haf, decide_true, optK, isT (.bool 0 true) (show 0 + 2 ≤ k by omega), isT (.none 0) (show 0 + 2 ≤ k by omega), p3, q1, f1, leads_sum, p1, ne_intsT, Int.natCast_zero, Int.lt_irrefl, decide_false, beq_self_eq_true]
        exact tr ps hps _ _ _
      | cons e0 es =>
        have haf : ¬ After a b := fun z => by have := (early_nil a b).mpr z; rw [he] at this; cases this
        have z1 : ¬ (((es.length + 1 : Nat) : Int) = 0) := by omega
        have z2 : (0 : Int) < ((es.length + 1 : Nat) : Int) := by omega
        simp -implicitDefEqProofs only [↓Wp_def, Wp_some, Wp_none, Wp_bind, Wp_ite, Wp_map, wNil, wEx, wAsg, wApp, wSto, wAug, augD, augK_some, augK_none, stE, wAugs, wRetV, wRet, wRetn, wIfe, FQ_nx, FQ_rt, eCon, eVar, eBin, eNeg, eNott, eAndd, eOrr, eCmp, eChain, eChain3, eIte, eTup, eLst, eIdx, eIdxm, eLenset, eJoin, eSlc, eRev, eCall, eFn, ePop, ePopAt, tVal, tAndd, tOrr, tNott, toNone, toSome, oNone, oSome, esNil, esCons, hsNil, hsCons, hVar, hCon, hBin, hNeg, hNott, hAndd, hOrr, hCmp, hChain, hChain3, hIte, hTup, hLst, hIdx, hIdxm, hLenset, hJoin, hSlc, hRev, hCall, hFn, hLc, hGq, hPop, hPopAt, iSeq, iRng1, iRng2, iEnm, iZip, RV.fetch, fetchs, asn1, asnT, asnN, asnC, lkU, lkS, lkO, lkL, slF, slL, leC, leUs, leUo, leN, PyData.int.injEq, PyData.bool.injEq, PyData.str.injEq, PyData.tuple.injEq, PyData.list.injEq, Prod.mk.injEq, List.cons.injEq, Sum.inl.injEq, Option.some.injEq, leS, leO, leL, ow?, retD, varD, hvar, rAdd, rAddL, rAddT, rAddS, rSub, rMul, rPow, aAdd, aSub, aAddS, cLt, cLe, cGt, cGe, cEqI, cNeI, cEqB, cNeB, truI, truB, truL, truT, truN, intI, ixL, ixT, atN, atL, atM, atPlus, atPlus2, fdiv_pos, mod_pos, Int.reduceLT, Int.reduceLE, Int.reduceEq, Int.reduceMod, Int.reduceDiv, Nat.reduceLT, fnLenL, fnLenT, fnLenF, fnLenS, fnAbs, fnInt, fnList, fnListT, fnTuple, fnTupleT, fnMax2, fnMin2, fnSumL, fnSumT, fnMaxL, fnMaxT, fnMinL, fnMinT, fnAllL, fnAnyL, fnIsNone, fnNotNone, fnIsInt, fnIsBool, fnIsStr, fnIsTup, nN, nI, nB, nS, nL, nT, itmL, itmT, itmS, enmL', enmS', lckV, slcT, slcL, slcS, rgD_nat, rgD_pred, rgD_succ, setIxE, intsOf_ints, boolsOf_bools, strsOf_strs, List.getElem?_cons_succ, List.getElem?_cons_zero, List.set_cons_succ, List.set_cons_zero, List.getElem?_map, List.length_map, List.length_cons, List.length_nil, List.length_append, List.map_append, Option.bind_some, Option.bind_none, Option.map_some, Option.map_none, if_true, if_false, ite_true, ite_false, if_false_right, decide_eq_true_eq, Bool.not_eq_true', decide_eq_false_iff_not, Bool.not_eq_true, reduceCtorEq, reduceIte, ne_eq, not_false_eq_true, not_true_eq_false, true_and, and_true, false_and, and_false, implies_true, Bool.false_eq_true, List.isEmpty_cons, List.isEmpty_nil, Bool.not_true, Bool.not_false, List.map_cons, List.map_nil, List.cons_append, List.nil_append, List.replicate_succ, List.replicate_zero, Nat.reduceSub, Nat.reduceAdd, Nat.reduceMul, Int.reduceSub, Int.reduceNeg, Int.reduceAdd, Int.reduceMul, Int.reducePow, Int.reduceToNat, Nat.reduceLeDiff, lock, unls, unl, wip, rsto, fzO, frz, noal, lfree, lfrees, lfrees_ints, aft, Bool.and_self, Bool.and_true, Bool.true_and, after_ok (show 2 ≤ k by omega) a b hl (by omega), early_ok (show 2 ≤ k by omega) a b hl (by omega), he, haf, decide_false, optK, isT (.bool 0 false) (show 0 + 2 ≤ k by omega), nudges_none (show 3 ≤ k by omega) a b hl (by omega) haf, z1, z2, decide_true, isT (.int 0 (e0 : Int)) (show 0 + 2 ≤ k by omega), beq_self_eq_true]
        exact ⟨by decide, tr [0, 0, 1] (by decide) _ _ _⟩
end KX

namespace KX
open PySem RV K73
theorem sizes6 {d : Int} : ∃ n : Nat, L2.atI [PyData.int 4, .int 6, .int 2, .int 5, .int 3, .int 1] (d % 6) = some (.int n) ∧ 1 ≤ n ∧ n ≤ 6 := by
  obtain ⟨n, h1, h2⟩ := mod_nat (d := d) (m := 6) (by decide)
  rw [h1, atN]
  have : n = 0 ∨ n = 1 ∨ n = 2 ∨ n = 3 ∨ n = 4 ∨ n = 5 := by omega
  rcases this with rfl | rfl | rfl | rfl | rfl | rfl
  · exact ⟨4, rfl, by decide, by decide⟩
  · exact ⟨6, rfl, by decide, by decide⟩
  · exact ⟨2, rfl, by decide, by decide⟩
  · exact ⟨5, rfl, by decide, by decide⟩
  · exact ⟨3, rfl, by decide, by decide⟩
  · exact ⟨1, rfl, by decide, by decide⟩
theorem sorted_ex (l : List Int) : ∃ s, l.Perm s ∧ s.Pairwise (· ≤ ·) := by
  refine ⟨l.mergeSort fun a b => decide (a ≤ b), (List.mergeSort_perm _ _).symm, ?_⟩
  have := List.pairwise_mergeSort (le := fun a b : Int => decide (a ≤ b)) (fun a b c h1 h2 => by have := of_decide_eq_true h1; have := of_decide_eq_true h2; exact decide_eq_true (by omega)) (fun a b => by rw [Bool.or_eq_true, decide_eq_true_iff, decide_eq_true_iff]; omega) l
  exact this.imp fun h => of_decide_eq_true h
theorem perm_sum {l s : List Int} (h : l.Perm s) : l.sum = s.sum := by
  induction h with
  | nil => rfl
  | cons x _ ih => rw [List.sum_cons, List.sum_cons, ih]
  | swap x y l => simp only [List.sum_cons]; omega
  | trans _ _ h1 h2 => rw [h1, h2]
theorem law_run (Sc : PyData) (ns : List Int) (hS : Scr Sc ns) : run prog wf 12 15 [Sc] = some (.bool true, false) := by
  refine run_eq (d := 11) (p := c15) rfl (by decide) fun k hk => Wp.fn rfl ?_
  unfold c15
  refine Wp.forP (as := List.range 4) (enc := fun j : Nat => .int j) [] (fun _ => True) (fun _ => [.sh Sc, .un, .un, .un, .un, .un]) ?_ ?_ ?_ cl_const
  · simp -implicitDefEqProofs only [↓Wp_def, Wp_some, Wp_none, Wp_bind, Wp_ite, Wp_map, wNil, wEx, wAsg, wApp, wSto, wAug, augD, augK_some, augK_none, stE, wAugs, wRetV, wRet, wRetn, wIfe, FQ_nx, FQ_rt, eCon, eVar, eBin, eNeg, eNott, eAndd, eOrr, eCmp, eChain, eChain3, eIte, eTup, eLst, eIdx, eIdxm, eLenset, eJoin, eSlc, eRev, eCall, eFn, ePop, ePopAt, tVal, tAndd, tOrr, tNott, toNone, toSome, oNone, oSome, esNil, esCons, hsNil, hsCons, hVar, hCon, hBin, hNeg, hNott, hAndd, hOrr, hCmp, hChain, hChain3, hIte, hTup, hLst, hIdx, hIdxm, hLenset, hJoin, hSlc, hRev, hCall, hFn, hLc, hGq, hPop, hPopAt, iSeq, iRng1, iRng2, iEnm, iZip, RV.fetch, fetchs, asn1, asnT, asnN, asnC, lkU, lkS, lkO, lkL, slF, slL, leC, leUs, leUo, leN, PyData.int.injEq, PyData.bool.injEq, PyData.str.injEq, PyData.tuple.injEq, PyData.list.injEq, Prod.mk.injEq, List.cons.injEq, Sum.inl.injEq, Option.some.injEq, leS, leO, leL, ow?, retD, varD, hvar, rAdd, rAddL, rAddT, rAddS, rSub, rMul, rPow, aAdd, aSub, aAddS, cLt, cLe, cGt, cGe, cEqI, cNeI, cEqB, cNeB, truI, truB, truL, truT, truN, intI, ixL, ixT, atN, atL, atM, atPlus, atPlus2, fdiv_pos, mod_pos, Int.reduceLT, Int.reduceLE, Int.reduceEq, Int.reduceMod, Int.reduceDiv, Nat.reduceLT, fnLenL, fnLenT, fnLenF, fnLenS, fnAbs, fnInt, fnList, fnListT, fnTuple, fnTupleT, fnMax2, fnMin2, fnSumL, fnSumT, fnMaxL, fnMaxT, fnMinL, fnMinT, fnAllL, fnAnyL, fnIsNone, fnNotNone, fnIsInt, fnIsBool, fnIsStr, fnIsTup, nN, nI, nB, nS, nL, nT, itmL, itmT, itmS, enmL', enmS', lckV, slcT, slcL, slcS, rgD_nat, rgD_pred, rgD_succ, setIxE, intsOf_ints, boolsOf_bools, strsOf_strs, List.getElem?_cons_succ, List.getElem?_cons_zero, List.set_cons_succ, List.set_cons_zero, List.getElem?_map, List.length_map, List.length_cons, List.length_nil, List.length_append, List.map_append, Option.bind_some, Option.bind_none, Option.map_some, Option.map_none, if_true, if_false, ite_true, ite_false, if_false_right, decide_eq_true_eq, Bool.not_eq_true', decide_eq_false_iff_not, Bool.not_eq_true, reduceCtorEq, reduceIte, ne_eq, not_false_eq_true, not_true_eq_false, true_and, and_true, false_and, and_false, implies_true, Bool.false_eq_true, List.isEmpty_cons, List.isEmpty_nil, Bool.not_true, Bool.not_false, List.map_cons, List.map_nil, List.cons_append, List.nil_append, List.replicate_succ, List.replicate_zero, Nat.reduceSub, Nat.reduceAdd, Nat.reduceMul, Int.reduceSub, Int.reduceNeg, Int.reduceAdd, Int.reduceMul, Int.reducePow, Int.reduceToNat, Nat.reduceLeDiff, lock, unls, unl, wip, rsto, fzO, frz, noal, lfree, lfrees, lfrees_ints, aft, Bool.and_self, Bool.and_true, Bool.true_and, show rgq 4 = some () from rgq_of (by decide) (by decide)]
    rfl
  · intro p j q hpq _
    have hj : j < 4 := List.mem_range.mp (by rw [hpq]; simp)
    obtain ⟨D, hD, eD⟩ := draws_ok (prog := prog) (wf := wf) (i := 6) rfl (show 1 ≤ k by omega) (cellV ns j) 60 (by decide)
    have eD' : run prog wf k 6 [.int (cellV ns j), .int 60] = some (.list (D.map .int), true) := eD
    have eC := cell_ok (prog := prog) (wf := wf) (i := 5) rfl (show 1 ≤ k by omega) ns hS j (by omega)
    obtain ⟨d8, e8, _⟩ := drw_at hD (j := 8) (by decide)
    obtain ⟨n, hn, n1, n2⟩ := sizes6 (d := d8)
    obtain ⟨a, a1, a2, ea⟩ := stacks_ok (show 1 ≤ k by omega) (D.take 8) (drw_take hD (by decide)) n n2
    have hDm : ∀ s, s + 13 ≤ 60 → Drw 13 ((D.drop s).take 13) := fun s h => drw_take (drw_drop hD (by omega)) (by omega)
    obtain ⟨b, b1, b2, b3, eb⟩ := moved_ok (show 1 ≤ k by omega) a ((D.drop 9).take 13) (hDm 9 (by decide)) (by omega) (by omega) a2
    obtain ⟨c, c1, c2, c3, ec⟩ := moved_ok (show 1 ≤ k by omega) a ((D.drop 22).take 13) (hDm 22 (by decide)) (by omega) (by omega) a2
    obtain ⟨s, s1, s2⟩ := sorted_ex b
    have sl := s1.length_eq
    have ss := perm_sum s1
    have sb : Bd s := fun z hz => b3 z (s1.mem_iff.mpr hz)
    have es := sort_ints (l := b) (s := s) (by omega) s1 s2
    have p1 := pair_ok (show 5 ≤ k by omega) a b (D.drop 36) _ (drw_drop hD (by decide)) (by decide) b1.symm (by omega) b2.symm a2 b3
    have p2 := pair_ok (show 5 ≤ k by omega) b a (D.drop 37) _ (drw_drop hD (by decide)) (by decide) b1 (by omega) b2 b3 a2
    have p3 := pair_ok (show 5 ≤ k by omega) b c (D.drop 38) _ (drw_drop hD (by decide)) (by decide) (by omega) (by omega) (by omega) b3 c3
    have p4 := pair_ok (show 5 ≤ k by omega) b s (D.drop 39) _ (drw_drop hD (by decide)) (by decide) (by omega) (by omega) (by omega) b3 sb
    have k1 : cutD (D.map PyData.int) none (some 8) = (D.take 8).map .int := by rw [cut_toL (p := 8), List.map_take]
    have km : ∀ i j : Nat, j ≤ 60 → i ≤ j → cutD (D.map PyData.int) (some (i : Int)) (some (j : Int)) = ((D.drop i).take (j - i)).map .int := fun i j h1 h2 => by
      rw [cut_mid (by rw [List.length_map, hD.1]; omega) h2, List.map_take, List.map_drop]
    have k2 : cutD (D.map PyData.int) (some 9) (some 22) = ((D.drop 9).take 13).map .int := km 9 22 (by decide) (by decide)
    have k3 : cutD (D.map PyData.int) (some 22) (some 35) = ((D.drop 22).take 13).map .int := km 22 35 (by decide) (by decide)
    have kd : ∀ i : Nat, cutD (D.map PyData.int) (some (i : Int)) none = (D.drop i).map .int := fun i => by rw [cut_fromA, List.map_drop]
    have k4 : cutD (D.map PyData.int) (some 36) none = (D.drop 36).map .int := kd 36
    have k5 : cutD (D.map PyData.int) (some 37) none = (D.drop 37).map .int := kd 37
    have k6 : cutD (D.map PyData.int) (some 38) none = (D.drop 38).map .int := kd 38
    have k7 : cutD (D.map PyData.int) (some 39) none = (D.drop 39).map .int := kd 39
    simp -implicitDefEqProofs only [↓Wp_def, Wp_some, Wp_none, Wp_bind, Wp_ite, Wp_map, wNil, wEx, wAsg, wApp, wSto, wAug, augD, augK_some, augK_none, stE, wAugs, wRetV, wRet, wRetn, wIfe, FQ_nx, FQ_rt, eCon, eVar, eBin, eNeg, eNott, eAndd, eOrr, eCmp, eChain, eChain3, eIte, eTup, eLst, eIdx, eIdxm, eLenset, eJoin, eSlc, eRev, eCall, eFn, ePop, ePopAt, tVal, tAndd, tOrr, tNott, toNone, toSome, oNone, oSome, esNil, esCons, hsNil, hsCons, hVar, hCon, hBin, hNeg, hNott, hAndd, hOrr, hCmp, hChain, hChain3, hIte, hTup, hLst, hIdx, hIdxm, hLenset, hJoin, hSlc, hRev, hCall, hFn, hLc, hGq, hPop, hPopAt, iSeq, iRng1, iRng2, iEnm, iZip, RV.fetch, fetchs, asn1, asnT, asnN, asnC, lkU, lkS, lkO, lkL, slF, slL, leC, leUs, leUo, leN, PyData.int.injEq, PyData.bool.injEq, PyData.str.injEq, PyData.tuple.injEq, PyData.list.injEq, Prod.mk.injEq, List.cons.injEq, Sum.inl.injEq, Option.some.injEq, leS, leO, leL, ow?, retD, varD, hvar, rAdd, rAddL, rAddT, rAddS, rSub, rMul, rPow, aAdd, aSub, aAddS, cLt, cLe, cGt, cGe, cEqI, cNeI, cEqB, cNeB, truI, truB, truL, truT, truN, intI, ixL, ixT, atN, atL, atM, atPlus, atPlus2, fdiv_pos, mod_pos, Int.reduceLT, Int.reduceLE, Int.reduceEq, Int.reduceMod, Int.reduceDiv, Nat.reduceLT, fnLenL, fnLenT, fnLenF, fnLenS, fnAbs, fnInt, fnList, fnListT, fnTuple, fnTupleT, fnMax2, fnMin2, fnSumL, fnSumT, fnMaxL, fnMaxT, fnMinL, fnMinT, fnAllL, fnAnyL, fnIsNone, fnNotNone, fnIsInt, fnIsBool, fnIsStr, fnIsTup, nN, nI, nB, nS, nL, nT, itmL, itmT, itmS, enmL', enmS', lckV, slcT, slcL, slcS, rgD_nat, rgD_pred, rgD_succ, setIxE, intsOf_ints, boolsOf_bools, strsOf_strs, List.getElem?_cons_succ, List.getElem?_cons_zero, List.set_cons_succ, List.set_cons_zero, List.getElem?_map, List.length_map, List.length_cons, List.length_nil, List.length_append, List.map_append, Option.bind_some, Option.bind_none, Option.map_some, Option.map_none, if_true, if_false, ite_true, ite_false, if_false_right, decide_eq_true_eq, Bool.not_eq_true', decide_eq_false_iff_not, Bool.not_eq_true, reduceCtorEq, reduceIte, ne_eq, not_false_eq_true, not_true_eq_false, true_and, and_true, false_and, and_false, implies_true, Bool.false_eq_true, List.isEmpty_cons, List.isEmpty_nil, Bool.not_true, Bool.not_false, List.map_cons, List.map_nil, List.cons_append, List.nil_append, List.replicate_succ, List.replicate_zero, Nat.reduceSub, Nat.reduceAdd, Nat.reduceMul, Int.reduceSub, Int.reduceNeg, Int.reduceAdd, Int.reduceMul, Int.reducePow, Int.reduceToNat, Nat.reduceLeDiff, lock, unls, unl, wip, rsto, fzO, frz, noal, lfree, lfrees, lfrees_ints, aft, Bool.and_self, Bool.and_true, Bool.true_and, eC, eD', k1, e8, hn, ea, k2, eb, k3, ec, k4, p1, k5, p2, k6, p3, fnSortedT, es, k7, p4, show (6 : Nat) ≤ sizeLine by decide]
  · intro _
    have t1 := early_ok (show 2 ≤ k by omega) [0, 2] [1, 1] rfl (by decide)
    have t2 := after_ok (show 2 ≤ k by omega) [1, 1] [0, 2] rfl (by decide)
    have g1 : earlyL [0, 2] [1, 1] = [1] := by decide +kernel
    have g2 : decide (After [1, 1] [0, 2]) = true := by decide +kernel
    rw [g1] at t1
    rw [g2] at t2
    simp only [T, List.map_cons, List.map_nil] at t1 t2
    simp -implicitDefEqProofs only [↓Wp_def, Wp_some, Wp_none, Wp_bind, Wp_ite, Wp_map, wNil, wEx, wAsg, wApp, wSto, wAug, augD, augK_some, augK_none, stE, wAugs, wRetV, wRet, wRetn, wIfe, FQ_nx, FQ_rt, eCon, eVar, eBin, eNeg, eNott, eAndd, eOrr, eCmp, eChain, eChain3, eIte, eTup, eLst, eIdx, eIdxm, eLenset, eJoin, eSlc, eRev, eCall, eFn, ePop, ePopAt, tVal, tAndd, tOrr, tNott, toNone, toSome, oNone, oSome, esNil, esCons, hsNil, hsCons, hVar, hCon, hBin, hNeg, hNott, hAndd, hOrr, hCmp, hChain, hChain3, hIte, hTup, hLst, hIdx, hIdxm, hLenset, hJoin, hSlc, hRev, hCall, hFn, hLc, hGq, hPop, hPopAt, iSeq, iRng1, iRng2, iEnm, iZip, RV.fetch, fetchs, asn1, asnT, asnN, asnC, lkU, lkS, lkO, lkL, slF, slL, leC, leUs, leUo, leN, PyData.int.injEq, PyData.bool.injEq, PyData.str.injEq, PyData.tuple.injEq, PyData.list.injEq, Prod.mk.injEq, List.cons.injEq, Sum.inl.injEq, Option.some.injEq, leS, leO, leL, ow?, retD, varD, hvar, rAdd, rAddL, rAddT, rAddS, rSub, rMul, rPow, aAdd, aSub, aAddS, cLt, cLe, cGt, cGe, cEqI, cNeI, cEqB, cNeB, truI, truB, truL, truT, truN, intI, ixL, ixT, atN, atL, atM, atPlus, atPlus2, fdiv_pos, mod_pos, Int.reduceLT, Int.reduceLE, Int.reduceEq, Int.reduceMod, Int.reduceDiv, Nat.reduceLT, fnLenL, fnLenT, fnLenF, fnLenS, fnAbs, fnInt, fnList, fnListT, fnTuple, fnTupleT, fnMax2, fnMin2, fnSumL, fnSumT, fnMaxL, fnMaxT, fnMinL, fnMinT, fnAllL, fnAnyL, fnIsNone, fnNotNone, fnIsInt, fnIsBool, fnIsStr, fnIsTup, nN, nI, nB, nS, nL, nT, itmL, itmT, itmS, enmL', enmS', lckV, slcT, slcL, slcS, rgD_nat, rgD_pred, rgD_succ, setIxE, intsOf_ints, boolsOf_bools, strsOf_strs, List.getElem?_cons_succ, List.getElem?_cons_zero, List.set_cons_succ, List.set_cons_zero, List.getElem?_map, List.length_map, List.length_cons, List.length_nil, List.length_append, List.map_append, Option.bind_some, Option.bind_none, Option.map_some, Option.map_none, if_true, if_false, ite_true, ite_false, if_false_right, decide_eq_true_eq, Bool.not_eq_true', decide_eq_false_iff_not, Bool.not_eq_true, reduceCtorEq, reduceIte, ne_eq, not_false_eq_true, not_true_eq_false, true_and, and_true, false_and, and_false, implies_true, Bool.false_eq_true, List.isEmpty_cons, List.isEmpty_nil, Bool.not_true, Bool.not_false, List.map_cons, List.map_nil, List.cons_append, List.nil_append, List.replicate_succ, List.replicate_zero, Nat.reduceSub, Nat.reduceAdd, Nat.reduceMul, Int.reduceSub, Int.reduceNeg, Int.reduceAdd, Int.reduceMul, Int.reducePow, Int.reduceToNat, Nat.reduceLeDiff, lock, unls, unl, wip, rsto, fzO, frz, noal, lfree, lfrees, lfrees_ints, aft, Bool.and_self, Bool.and_true, Bool.true_and, t1, t2, optK, isT (.int 0 1) (show 0 + 2 ≤ k by omega), isT (.bool 0 true) (show 0 + 2 ≤ k by omega), show (0 + 1 + 1 : Nat) ≤ sizeLine by decide, show (2 : Nat) ≤ sizeLine by decide, Int.natCast_one, show ((1 : Nat) : Int) = 1 from rfl]
end KX

namespace KX
open PySem PySem.Spec PyProof.Rows L2 RV
/-! ### the text -/
def topS (i : Nat) : Stmt := PySem.Challenge.pw_reckonhall_k73_whole_stacks_and_nudges.main.body.getD i (.Pass ⟨0, 0, 0, 0⟩)
def defs : List DEF := [
  ("ahead_by", ["first", "second", "whole", "found", "one", "other"], topS 1),
  ("comes_after", ["first", "second", "number"], topS 2),
  ("nudges_to", ["first", "second", "now", "places", "ahead", "place", "at", "number"], topS 3),
  ("after_nudges", ["stacks", "places", "now", "place"], topS 4),
  ("early_count", ["first", "second", "at", "number"], topS 5),
  ("_law_cell", ["script", "k"], topS 7),
  ("_law_draws", ["cell", "count", "rest", "digits", "seed", "draws", "k", "mixed"], topS 8),
  ("_law_is_integer", ["value"], topS 9),
  ("_law_is", ["value", "due", "at"], topS 10),
  ("_law_is_integers", ["value", "number"], topS 11),
  ("_law_bent", ["row", "draws", "most", "way", "at", "odd"], topS 12),
  ("_law_stacks", ["draws", "size", "wide", "k"], topS 13),
  ("_law_moved", ["stacks", "draws", "now", "k", "at"], topS 14),
  ("_law_led", ["stacks", "places", "now", "place"], topS 15),
  ("_law_pair", ["first", "second", "draws", "leads", "early", "places", "base", "turn", "asked", "k"], topS 16),
  ("law", ["script", "k", "draws", "first", "second", "third"], topS 17)]
theorem prog_eq : progC 40 (fsOf defs) defs = some prog := by kernel_rfl
def kk : Nat := 12
/-! ### the head -/
def fn : List He.DefD := defs.map defD
def fa : List He.Fa := faOf defs
abbrev R : PySem.W.OpenRow := PySem.W.OpenLaw.row PySem.Challenge.rw_reckonhall_k73_whole_stacks_and_nudges
def tf : List He.Defn := tfOf defs
abbrev hk : PySem.W.Hook := He.hookX 4 fa fn [] tf (fun _ => true)
def ob (s : PySem.W.SharedT) : He.AlX := He.obsX 4 fa fn [] tf (fun _ => true) (HandSHeadRun.getT s)
theorem ob_eq (s : PySem.W.SharedT) : ob s = hk.obs s.abs := He.obsX_eq (HandSHeadRun.getT_eq s)
def loose : List Str := ["ahead_by", "comes_after", "nudges_to", "after_nudges", "early_count", "_law_cell", "_law_draws", "_law_is_integer", "_law_is", "_law_is_integers", "_law_bent", "_law_stacks", "_law_moved", "_law_led", "_law_pair"]
theorem runE (w : World) : HandSHeadRun.RunEq R (PySem.W.view R.prog [17]) hk ob 2000 loose w := by
  intro os
  kernel_rfl
end KX
open PySem PySem.W PySem.Calls PyProof.Rows
set_option maxHeartbeats 0 in
theorem PySem.Challenge.cw_reckonhall_k73_whole_stacks_and_nudges_holds : PySem.Challenge.rw_reckonhall_k73_whole_stacks_and_nudges.Holds := by
  w_on; o_law
  refine HandSHeadRun.head_any (r := OpenLaw.row PySem.Challenge.rw_reckonhall_k73_whole_stacks_and_nudges) (q := view (OpenLaw.row PySem.Challenge.rw_reckonhall_k73_whole_stacks_and_nudges).prog [17]) (H := KX.hk) (ob := KX.ob) (M := 2000) (loose := KX.loose) (d := HandSHeadRun.topDef (OpenLaw.row PySem.Challenge.rw_reckonhall_k73_whole_stacks_and_nudges).prog 17) (kwd := []) KX.ob_eq
    (by kernel_rfl) (fun s => by kernel_rfl) KX.runE (by kernel_rfl) (by kernel_rfl) (by kernel_rfl) (by rfl) (by first | assumption | decide +kernel) (by decide +kernel) ⟨rfl, rfl, rfl, rfl, rfl, by decide +kernel⟩ ?hw ?hc
  case hw => w_witness2
  case hc =>
    refine RV.walk_ofTX (l := PySem.Challenge.rw_reckonhall_k73_whole_stacks_and_nudges) (n := 63) (k := 2 * KX.kk) (x := "script") (CX := L2.CX0) rfl (by decide) (by kernel_rfl) ⟨rfl, by decide +kernel, by decide +kernel⟩ ?F (fun _ _ _ _ z => z)
    intro w mg fa h Y G hmg0
    obtain ⟨K, KX', c⟩ := Y
    have hmg : mg ("law" : PySem.Str) = some (.ref fa) := by
      have e : (HandSHeadRun.topDef (OpenLaw.row PySem.Challenge.rw_reckonhall_k73_whole_stacks_and_nudges).prog 17).name = ("law" : PySem.Str) := by kernel_rfl
      rw [← e]
      exact hmg0
    exact ⟨K, KX', RV.law_okT (ds := KX.defs) (prog := KX.prog) (n := 40) (wf := KX.wf) (i := 15) (lw := "law") (kk := KX.kk) KX.prog_eq rfl (by decide +kernel) KX' G hmg c fun S ns hS _ => KX.law_run S ns hS⟩


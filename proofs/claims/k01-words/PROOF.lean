import PyProof.Rows.All
import Wide.All
import OpenK.AllK
import Wide.FinOn
import HandS.ForMost
import HandS.Deep
import HandS.Strs
import HandS.TupAny
import HandS.TupMul
import HandS.Conv
import HandS.SortInts
import PyProof.TupleOfSeq
import HandS.Rev
import HandS.RevTup
import HandS.ForExc
import HandS.Exc
import HandS.ExcInit
import HandS.ExcOwn
import KE.KExcSuper
import KE.KSuper
import HandS.Lambda
import HandS.TryMany
import HandS.ExcField
import HandS.CallSlots
import HandS.Flow
import HandS.DictComp
import HandS.Wide
import HandS.IsInst
import HandS.Style
import PyProof.Rows.Chain
import HandS.WordsExc
import HandS.EndTab
import KE.KNestM
import HandS.WordsDict
import PySem.Challenge.RW_deafneedle_k01_whole_words_of_braids
section
set_option Elab.async false
set_option linter.all false
set_option maxRecDepth 100000
set_option maxHeartbeats 1000000
/-! tuples that are known by their one object -/
namespace DL
open PySem PySem.Spec PyProof.Rows L2
/-- a made tuple, by its one object; or a written one -/
def TupS (K : PySem.W.Frag) (F : Hp) (a : Addr) (xs : List V) : Prop :=
  (∃ o : Obj, F a = some (.frz o (.tup xs)) ∧ o.dict = none) ∨
    ∃ (o : Obj) (its : Array Value) (n : Nat), K.lookup a = some o ∧ (o.cls = .type "tuple" ∧ o.dict = none) ∧ o.data = .seq its n ∧ its.size ≤ sizeLine ∧ Vals xs its.toList
theorem TupS.sqt {K : PySem.W.Frag} {F : Hp} {a : Addr} {xs : List V} (h : TupS K F a xs) : SqT K F a xs := by
  rcases h with ⟨o, h, _⟩ | ⟨o, its, n, h1, ⟨h2, _⟩, h3, h4, h5⟩
  · exact .inl (.inr ⟨o, h⟩)
  · exact .inr ⟨o, its, n, h1, h2, h3, h4, h5⟩
/-- a new tuple is handed on -/
def TQ (H : Hp) (xs : List V) (Q : VK) : Prop := ∀ (p : Addr) (o : Obj), H p = none → o.dict = none → Q (.ref p) (upd H p (.frz o (.tup xs)))
section
variable {X : Cx} {pins : List (Addr × Obj)} {s : Shared} {σ : L2.St} {H : Hp} {Q : VK} {xs : List V} {us : List Value}
theorem layT {h' : Heap} {tk : Nat} (I : Inv X pins σ H { s with heap := h', toks := tk }) (z : xs.length ≤ sizeLine) (r : Vals xs us) (q : TQ H xs Q) :
    EP X pins σ Q (.ref h'.objs.size) { s with heap := h'.push { cls := .type "tuple", data := .seq us.toArray }, toks := tk } :=
  ⟨.ref h'.objs.size, upd H h'.objs.size (.frz { cls := .type "tuple", data := .seq us.toArray } (.tup xs)),
    I.laid (t' := tk) (fun _ _ e => Heap.get?_push_of_some _ e) (Nat.le_refl _) ⟨Heap.get?_push_size _ rfl, z, us, r, IsTup.new _ _⟩, rfl, q _ _ (I.hok.fresh (Nat.le_refl _)) rfl⟩
def tTupD (t : TA) : TE := fun σ H Q => t σ H fun vs H1 => vs.length ≤ sizeLine ∧ TQ H1 vs Q
theorem pe_tupD {es : List Expr} {t : TA} {x1} {pos : Pos} (h : PA X es t) : PE X (.Tuple es x1 pos) (tTupD t) := by
  refine ⟨fun pins s σ H Q I hq => wpAny_Tuple_spliced (thn (h.run pos pins s σ H _ I hq) fun us s1 ⟨vs, H1, I1, r, z, q⟩ => ⟨?_, ?_⟩)⟩
  · rw [← r.length]
    exact z
  · exact layT (s := s1) (h' := s1.heap) (tk := s1.toks) I1 z r q
/-- tuple(x) -/
theorem call_tupleD : CallR X (.type "tuple") (fun xs H Q => ∃ p ys, xs = [.ref p] ∧ ((SqL X.K H p ys ∧ TQ H ys Q) ∨ (SqT X.K H p ys ∧ Q (.ref p) H))) := by
  intro pins s σ H xs us Q I r h
  obtain ⟨p, ys, rfl, h⟩ := h
  obtain ⟨u, rfl, ru⟩ := vals1 r
  cases ru
  rcases h with ⟨hq, q⟩ | ⟨hq, q⟩
  · obtain ⟨its, rv, pl, hz⟩ := I.list hq
    exact call_tuple_list pl.isList (fun h' hk => layT (s := s) (h' := h') (tk := s.toks) (I.kept (t' := s.toks) hk) hz rv q) (by
      rw [List.size_toArray, ← rv.length]
      exact hz)
  · obtain ⟨its, rv, pl, hz⟩ := I.tuple hq
    exact call_tuple_same pl ⟨.ref p, H, I, rfl, q⟩
/-- t + u -/
def rCatD (K : PySem.W.Frag) : R2 := fun x y H Q => ∃ a b xs ys, (x = .ref a ∧ y = .ref b) ∧ (SqT K H a xs ∧ SqT K H b ys) ∧ xs.length + ys.length ≤ sizeLine ∧
  (xs = [] → Q (.ref b) H) ∧ (xs ≠ [] → ys = [] → Q (.ref a) H) ∧ (xs ≠ [] → ys ≠ [] → TQ H (xs ++ ys) Q)
theorem op_catD : OpR X (binaryOp .Add) (rCatD X.K) := by
  intro pins s σ H x y v u Q I rx ry h
  obtain ⟨a, b, xs, ys, ⟨rfl, rfl⟩, ⟨ha, hb⟩, hz, q0, q1, q2⟩ := h
  cases rx
  cases ry
  obtain ⟨its, r1, p1, z1⟩ := I.tuple ha
  obtain ⟨is2, r2, p2, z2⟩ := I.tuple hb
  by_cases hx : xs = []
  · subst hx
    cases r1
    exact L2.cat_tup0 p1 p2 ⟨.ref b, H, I, rfl, q0 rfl⟩
  · refine HT.cat_tup p1 p2 (fun z => hx (r1.nil_iff.mp z)) (fun z => ⟨.ref a, H, I, rfl, q1 hx (r2.nil_iff.mp z)⟩) (fun z => ?_) (by
      rw [← r1.length, ← r2.length]
      exact hz)
    exact layT (s := s) (h' := s.heap) (tk := s.toks) I (by
      rw [List.length_append]
      exact hz) (r1.append r2) (q2 hx fun w => z (r2.nil_iff.mpr w))
/-- t[lo:hi] -/
def rSlD (K : PySem.W.Frag) : V → Option Int → Option Int → Hp → VK → Prop := fun x lo hi H Q => ∃ a xs, x = .ref a ∧ SqT K H a xs ∧
  ((HT.sIx xs.length 0 lo = 0 ∧ HT.sIx xs.length xs.length hi = xs.length) → Q (.ref a) H) ∧ (¬ (HT.sIx xs.length 0 lo = 0 ∧ HT.sIx xs.length xs.length hi = xs.length) → TQ H (cutV xs lo hi) Q)
theorem sl_tupD : SlR X (rSlD X.K) := by
  intro pins s σ H x v vl vu lo hi sl Q I rx hs pl pu h
  obtain ⟨a, xs, rfl, hx, q1, q2⟩ := h
  cases rx
  obtain ⟨its, r, ht, hz⟩ := I.tuple hx
  have hlen : its.toArray.size = xs.length := by
    rw [List.size_toArray]
    exact r.length.symm
  refine ⟨"tuple", _, PyProof.Rows.slot_tuple_getitem.lookup, ht.typeIs, ?_⟩
  by_cases hw : HT.sIx xs.length 0 lo = 0 ∧ HT.sIx xs.length xs.length hi = xs.length
  · refine L2.getItem_tuple_whole ht hs pl pu ?_ ⟨.ref a, H, I, rfl, q1 hw⟩
    rw [hlen]
    exact hw
  · refine HT.getItem_tuple_cut ht hs pl pu ?_ ?_ ?_
    · rw [hlen]
      exact hw
    · rw [hlen]
      refine layT (s := s) (h' := s.heap) (tk := s.toks) I (Nat.le_trans (cutV_length xs lo hi) hz) ?_ (q2 hw)
      exact (r.drop (HT.sIx xs.length 0 lo)).take (HT.sIx xs.length xs.length hi - HT.sIx xs.length 0 lo)
    · rw [hlen]
      exact hz
/-- tuple(range(..)) -/
def tTupRgD (te : L2.St → Hp → (Int → Int → Hp → Prop) → Prop) : TE := fun σ H Q => te σ H fun a b H1 => RgOk a b ∧ TQ H1 (rgV a b) Q
theorem pe_tupRgD {e : Expr} {te : L2.St → Hp → (Int → Int → Hp → Prop) → Prop} {p pos : Pos} (hc : X.calm = true) (hg : Gl X "tuple") (hm : X.mg "tuple" = none) (he : PRg X e te) (na : starEach [e] X.env = (false, eval e X.env) :: starEach [] X.env := by rfl) :
    PE X (.Call (.Name "tuple" p) [e] [] pos) (tTupRgD te) := by
  refine ⟨fun pins s σ H Q I h => Call_ (ld_blt I hg hm boot_tuple (PyProof.Rows.callWith_type1 (args_cons (thn (he pins s σ H _ I h) fun x s1 ⟨r, a, b, t, u, v, H1, ex, hr, I1, ok, q⟩ => args_nil ?_) na) na))⟩
  subst ex
  obtain ⟨b1, b2, b3, b4, b5⟩ := ok
  refine call_tuple_range (n := (b - a).toNat) (I1.ok.hd hc) hr (small_one b1 b2 b3 b4) (rangeSize_nat a b) b5 fun h' tk acc hk hi => ?_
  have ea : acc = acc.toList.toArray := by rw [Array.toArray_toList]
  rw [ea]
  refine layT (s := s1) (h' := h') (tk := tk) (I1.kept hk) ?_ (vals_rg hi) q
  rw [rgV_length, sizeLine_eq]
  omega
end

/-! ### t[::-1] -/
section
variable {prog : Program} {w : World} {A : Around} {E : Value → Shared → Prop} {s : Shared}
theorem filterMap_same {α β : Type} {f g : α → Option β} : ∀ (l : List α), (∀ k ∈ l, f k = g k) → l.filterMap f = l.filterMap g
  | [], _ => rfl
  | a :: l, h => by
    rw [List.filterMap_cons, List.filterMap_cons, h a List.mem_cons_self, filterMap_same l fun k hk => h k (List.mem_cons_of_mem _ hk)]
theorem back_pick (xs : List Value) : (List.range xs.length).filterMap (fun (k : Nat) => xs.toArray[(((xs.length : Int) - 1) + (k : Int) * (-1)).toNat]?) = xs.reverse := by
  have e : (List.range xs.length).filterMap (fun (k : Nat) => xs.toArray[(((xs.length : Int) - 1) + (k : Int) * (-1)).toNat]?) = (List.range xs.length).filterMap fun k => xs.reverse[k]? := by
    refine filterMap_same _ fun k hk => ?_
    have hk' := List.mem_range.mp hk
    have e1 : (((xs.length : Int) - 1) + (k : Int) * (-1)).toNat = xs.length - 1 - k := by omega
    rw [e1, List.getElem?_reverse hk']
    simp
  rw [e]
  have e2 := PySem.W.krv_all xs.reverse.toArray
  simpa using e2
theorem sliceApplied_back {sl : Addr} {vl vu vs : Value} {n : Nat} {Q : Int × Int × Nat → Shared → Prop} (hs : s.heap.IsSliceOf sl vl vu vs) (pl : IsPart vl none) (pu : IsPart vu none) (ps : IsPart vs (some (-1)))
    (h : Q ((n : Int) - 1, -1, n) s) : wpAny (model prog w) A (Builtin.Slice.sliceApplied (.ref sl) (pure (n : Int))) Q E s := by
  obtain ⟨os, hos, _, hds⟩ := id hs
  unfold Builtin.Slice.sliceApplied Builtin.Slice.sliceFields
  refine wpAny_bind (wpAny_bind (wpAny_field hos hds (x := vl) rfl (wpAny_bind (wpAny_field hos hds (x := vu) rfl (wpAny_bind (wpAny_field hos hds (x := vs) rfl (wpAny_pure ?_)))))))
  refine wpAny_bind (HT.slicePart_ ps ?_)
  show wpAny _ _ (if ((-1 : Int) == 0) = true then _ else _) _ _ s
  rw [if_neg (by decide)]
  refine wpAny_bind (HT.slicePart_ pl (wpAny_bind (HT.slicePart_ pu (wpAny_bind (wpAny_pure (wpAny_pure ?_))))))
  have e : Builtin.Slice.slicePlaces ((n : Int) - 1) (-1) (-1) = n := by
    unfold Builtin.Slice.slicePlaces
    by_cases hn : n = 0
    · subst hn
      rfl
    · rw [if_neg (by decide), if_pos (by omega)]
      have : ((n : Int) - 1 - -1 - 1) / (- -1) + 1 = (n : Int) := by
        rw [show (- -1 : Int) = 1 by decide, Int.ediv_one]
        omega
      rw [this]
      rfl
  show Q ((n : Int) - 1, -1, Builtin.Slice.slicePlaces ((n : Int) - 1) (-1) (-1)) s
  rw [e]
  exact h
theorem getItem_tuple_back {t sl : Addr} {its : List Value} {vl vu vs : Value} {Q : Value → Shared → Prop} (ht : IsTup s.heap t its.toArray) (hs : s.heap.IsSliceOf sl vl vu vs) (pl : IsPart vl none) (pu : IsPart vu none) (ps : IsPart vs (some (-1)))
    (h : Q (.ref s.heap.objs.size) { s with heap := s.heap.push { cls := .type "tuple", data := .seq its.reverse.toArray } }) (hsz : its.length ≤ sizeLine) : wpAny (model prog w) A (getItem (.ref t) (.ref sl)) Q E s := by
  have hT : s.TypeIs (.ref sl) "slice" := by
    obtain ⟨os, hos, hcs, _⟩ := hs
    exact ⟨os, hos, hcs⟩
  unfold getItem
  try with_reducible refine wpAny_holding ?_
  first | refine wpAny_bind (wpAny_pure ?_) | skip
  refine wpAny_bind (wpAny_sequenceKey ht.typeIs (by decide) ?_)
  refine wpAny_bind (wpAny_callSpecial?_slot (name := Str.ofString "__getitem__") ht.typeIs PyProof.Rows.slot_tuple_getitem (wpAny_call_entry PyProof.Rows.slot_tuple_getitem ht.typeIs entry_tuple_getitem ?_ (args_tuple_getitem _ _)))
  show wpAny _ _ (Builtin.Tuple.tupleItemsOf (.ref t) >>= _) _ _ s
  refine wpAny_bind (tupleItemsOf_ ht (wpAny_bind (wpAny_typeOf hT ?_)))
  rw [if_pos (by decide)]
  refine wpAny_bind (sliceApplied_back hs pl pu ps ?_)
  have hz : its.toArray.size = its.length := List.size_toArray
  rw [hz]
  have hno : ¬ (((its.length : Int) - 1 == 0 && (-1 : Int) == 1 && its.length == its.toArray.size) = true) := by
    rw [show ((-1 : Int) == 1) = false from by decide, Bool.and_false, Bool.false_and]
    exact Bool.false_ne_true
  show wpAny _ _ (if ((its.length : Int) - 1 == 0 && (-1 : Int) == 1 && its.length == its.toArray.size) = true then _ else _) _ _ s
  rw [if_neg hno, back_pick]
  have hz2 : sizeOk (.seq its.reverse.toArray) := by
    show its.reverse.toArray.size ≤ sizeLine
    rw [List.size_toArray, List.length_reverse]
    exact hsz
  first
    | exact wpAny_bind (m := Builtin.Tuple.tupleExact _) (wpAny_newObj_type (wpAny_pure ⟨_, rfl, wpAny_pure h⟩) hz2)
    | exact wpAny_bind (m := Builtin.Tuple.tupleExact _) (wpAny_newObj_type (wpAny_bind (wpAny_pure (wpAny_pure ⟨_, rfl, wpAny_pure h⟩))) hz2)
    | exact wpAny_bind (wpAny_bind (m := Builtin.Tuple.tupleExact _) (wpAny_newObj_type (wpAny_pure (wpAny_pure ⟨_, rfl, wpAny_pure h⟩)) hz2))
    | exact wpAny_bind (wpAny_bind (m := Builtin.Tuple.tupleExact _) (wpAny_newObj_type (wpAny_pure ⟨_, rfl, wpAny_pure h⟩) hz2))
end
section
variable {X : Cx}
def tRevD (K : PySem.W.Frag) (te : TE) : TE := fun σ H Q => te σ H fun x H1 => ∃ a xs, x = .ref a ∧ ((SqL K H1 a xs ∧ ∀ p, H1 p = none → Q (.ref p) (upd H1 p (.lst xs.reverse))) ∨ (SqT K H1 a xs ∧ TQ H1 xs.reverse Q))
theorem pe_revD {e : Expr} {te : TE} {k : Nat} {p1 p2 p3 pos : Pos} (he : PE X e te) : PE X (.Subscript e (.Slice none none (some (.UnaryOp .USub (.Constant (.int 1) k p1) p2)) p3) pos) (tRevD X.K te) := by
  refine ⟨fun pins s σ H Q I h => Subscript_ (thn (he.run pins s σ H _ I h) fun v s1 ⟨x, H1, I1, r1, a, xs, ex, hx⟩ => ?_)⟩
  subst ex
  cases r1
  have hst : PO X (some (.UnaryOp .USub (.Constant (.int 1) k p1) p2)) (tPart (tUn (rU fun i => .int (-i)) (tC (.int 1)))) := po_some (pe_un un_neg pe_int)
  refine wpAny_Slice (thn (po_none.run pins s1 σ H1 (fun o H2 => o = none ∧ H2 = H1) I1 ⟨rfl, rfl⟩) fun vl s2 ⟨l, H2, I2, pl, el, e2⟩ => ?_)
  subst el e2
  refine thn (po_none.run pins s2 σ _ (fun o H3 => o = none ∧ H3 = _) I2 ⟨rfl, rfl⟩) fun vu s3 ⟨u, H3, I3, pu, eu, e3⟩ => ?_
  subst eu e3
  refine thn (hst.run pins s3 σ _ (fun o H4 => o = some (-1) ∧ H4 = _) I3 ⟨1, rfl, -1, rfl, rfl, rfl⟩) fun vs s4 ⟨o, H4, I4, ps, eo, e4⟩ => ?_
  subst eo e4
  have I5 := I4.kept (h' := s4.heap.push { cls := .type "slice", data := .fields #[vl, vu, vs] }) (t' := s4.toks) fun b ob q => Heap.get?_push_of_some _ q
  show wpAny (model X.prog X.w) X.A (subscriptTail e (.Slice none none (some (.UnaryOp .USub (.Constant (.int 1) k p1) p2)) p3) (.ref a) (.ref s4.heap.objs.size)) (EP X pins σ Q) X.xe _
  rcases hx with ⟨hx, q⟩ | ⟨hx, q⟩
  · obtain ⟨its, r, ht, hz⟩ := I5.list hx
    have hlen := r.length
    refine tail_any (ops := [.ref a, .ref s4.heap.objs.size]) ht.isList.typeIs PySem.slot_list_getitem.lookup ?_ (by with_unfolding_all rfl)
    refine wpAny_getItem_list_slice ht.isList (Heap.IsSliceOf.new _ vl vu vs) pl pu ps (by decide) ?_ (by
      rw [List.size_toArray]
      omega)
    rw [PySem.W.krv_pick]
    refine ⟨.ref _, _, I5.laid (t' := s4.toks) (o := .lst xs.reverse) (fun b ob q => Heap.get?_push_of_some _ q) (Nat.le_refl _) ⟨?_, _, 0, r.reverse, Heap.get?_push_size _ rfl⟩, rfl, q _ (I5.hok.fresh (Nat.le_refl _))⟩
    rw [List.length_reverse]
    exact hz
  · obtain ⟨its, r, ht, hz⟩ := I5.tuple hx
    have hlen := r.length
    refine tail_any (ops := [.ref a, .ref s4.heap.objs.size]) ht.typeIs PyProof.Rows.slot_tuple_getitem.lookup ?_ (by with_unfolding_all rfl)
    refine getItem_tuple_back ht (Heap.IsSliceOf.new _ vl vu vs) pl pu ps ?_ (by omega)
    exact layT (s := s4) (h' := s4.heap.push { cls := .type "slice", data := .fields #[vl, vu, vs] }) (tk := s4.toks) I5 (by
      rw [List.length_reverse]
      exact hz) r.reverse q
end

/-! ### t * k -/
def rRepD (K : PySem.W.Frag) : R2 := fun x y H Q => ∃ l k xs, (x = .ref l ∧ y = .int k) ∧ SqT K H l xs ∧ xs ≠ [] ∧ (2 ≤ k ∧ k ≤ 1000000) ∧ xs.length * k.toNat ≤ 1000000 ∧ TQ H (List.replicate k.toNat xs).flatten Q
section
variable {X : Cx}
theorem op_repD : OpR X (binaryOp .Mult) (rRepD X.K) := by
  intro pins s σ H x y v u Q I rx ry h
  obtain ⟨l, k, xs, ⟨rfl, rfl⟩, hT, hne, ⟨h1, h2⟩, hz, q⟩ := h
  cases rx
  obtain ⟨t, rfl⟩ := ry
  obtain ⟨its, r, ⟨⟨cls, dd, data, sl⟩, ho, hc, n, hd⟩, hs⟩ := I.tuple hT
  simp only at hc hd
  subst hc hd
  have hle : its.length = xs.length := r.length.symm
  have hpos : 0 < its.length := by
    rw [hle]
    exact List.length_pos_iff.mpr hne
  have hi : its.toArray.isEmpty = false := by
    cases its with
    | nil => cases hpos
    | cons _ _ => rfl
  have flen : (List.replicate k.toNat its).flatten.length ≤ 1000000 := by
    rw [PyProof.Rows.lm_len_rep_flat, hle, Nat.mul_comm]
    exact hz
  have hsl : (1000000 : Nat) ≤ sizeLine := by
    rw [sizeLine_eq]
    omega
  have hm : ((its.toArray.size : Nat) : Int) * k ≤ 1000000 := by
    rw [List.size_toArray, hle]
    have e : ((xs.length : Nat) : Int) * k = ((xs.length * k.toNat : Nat) : Int) := by
      rw [Int.natCast_mul, Int.toNat_of_nonneg (by omega)]
    rw [e]
    exact Int.ofNat_le.mpr hz
  have c0 : (decide (k < -(2 ^ 63)) || decide (k ≥ 2 ^ 63)) = false := by
    have a1 : decide (k < -(2 ^ 63)) = false := decide_eq_false (by omega)
    have a2 : decide (k ≥ 2 ^ 63) = false := decide_eq_false (by omega)
    rw [a1, a2]
    rfl
  have c1 : (its.toArray.isEmpty || k == 1) = false := by
    rw [hi, Bool.false_or]
    exact beq_eq_false_iff_ne.mpr (by omega)
  have c2 : (decide (k ≤ 0) || its.toArray.isEmpty) = false := by
    rw [hi, Bool.or_false, decide_eq_false (by omega)]
  have c4 : Builtin.Tuple.tupleTooMany (((its.toArray.size : Nat) : Int) * k) = false := by
    unfold Builtin.Tuple.tupleTooMany
    refine decide_eq_false ?_
    rw [sizeLine_eq]
    omega
  refine wpAny_binaryOp_repeat_ref (T := "tuple") (U := "int") (by decide) ⟨_, ho, rfl⟩ (fun s' => typeIs_int s' k t) noFill_tuple_mul PySem.F.fills_int_mul PySem.F.slot_int_rmul repeat_tuple PySem.F.slot_int_index.lookup ?_
  refine call_meets PySem.F.slot_int_rmul (typeIs_int s k t) PySem.F.entry_int_rmul (PySem.F.args_int_rmul_2 _ _) (int_rmul_tuple k t l its.toArray n dd sl) ⟨ho, rfl, ⟨_, ho, rfl⟩, ?_⟩
  refine call_meets PySem.F.slot_tuple_mul ⟨_, ho, rfl⟩ PySem.F.entry_tuple_mul (PySem.F.args_tuple_mul_2 _ _) (tuple_mulW l its.toArray n dd sl k t c0 c1 c2 (by omega) c4 ?_) ⟨ho, ?_⟩
  · rw [size_rep, List.size_toArray]
    exact Nat.le_trans flen hsl
  · rw [size_rep]
    refine layT (s := s) (h' := s.heap) (tk := s.toks) I ?_ (r.rep k.toNat) q
    rw [PyProof.Rows.lm_len_rep_flat, Nat.mul_comm]
    exact Nat.le_trans hz hsl

/-! ### x.index(y) -/
def rIdxT (K : PySem.W.Frag) : V → List V → Hp → VK → Prop := fun x ws H Q => ∃ (a : Addr) (ys : List V) (y : V) (j : Nat) (z : V), (x = V.ref a ∧ ws = [y]) ∧ SqT K H a ys ∧ (flatV y = true ∧ ys.all flatV = true) ∧ ys[j]? = some z ∧ eqV z y = true ∧
  (∀ (m : Nat) (z' : V), ys[m]? = some z' → m < j → eqV z' y = false) ∧ Q (.int (j : Nat)) H
theorem mt_idxT : MtR X "tuple.index" (rIdxT X.K) := by
  intro pins s σ H x ws v us Q I rx rws h
  obtain ⟨a, ys, y, j, z, ⟨rfl, rfl⟩, hs, ⟨fy, fys⟩, hz, hzj, hno, q⟩ := h
  cases rx
  obtain ⟨uy, rfl, ry⟩ := vals1 rws
  obtain ⟨its, rv, ⟨⟨cls, dd, data, sl⟩, ho, hc, n, hd⟩, hlen⟩ := I.tuple hs
  simp only at hc hd
  subst hc hd
  obtain ⟨u, hu, ru⟩ := rv.get hz
  obtain ⟨hjl, hje⟩ := List.getElem?_eq_some_iff.mp hu
  have hvl := rv.length
  refine call_meets PySem.F.slot_tuple_index ⟨_, ho, rfl⟩ PySem.F.entry_tuple_index (PySem.F.args_tuple_index_2 _ _) (TI.tuple_indexAt a its.toArray n dd sl uy (eqU y) j (by simpa using hjl) ?_ ?_) ⟨ho, fun u' hu' => mem_eqAt ry fy rv fys u' (by simpa using hu'), ?_⟩
  · rw [show its.toArray[j] = u from by simpa using hje, eqU_of ru (flat_at fys hz)]
    exact hzj
  · intro m hm hmj
    have hml : m < its.length := by simpa using hm
    have hy' : ys[m]? = some (ys[m]'(by omega)) := List.getElem?_eq_getElem (by omega)
    obtain ⟨u2, hu2, ru2⟩ := rv.get hy'
    obtain ⟨_, hme⟩ := List.getElem?_eq_some_iff.mp hu2
    rw [show its.toArray[m] = u2 from by simpa using hme, eqU_of ru2 (flat_at fys hy')]
    exact hno m _ hy' hmj
  · exact ⟨.int (j : Nat), H, I.tok _, ⟨_, rfl⟩, q⟩
/-- what has methods: a list, a tuple known by its object -/
def MthV (K : PySem.W.Frag) (T : String) (x : V) (H : Hp) : Prop := (T = "list" ∧ ∃ p xs, x = .ref p ∧ SqL K H p xs) ∨ (T = "tuple" ∧ ∃ p xs, x = .ref p ∧ TupS K H p xs)
theorem mthV_is {pins : List (Addr × Obj)} {σ : L2.St} {H : Hp} {s : Shared} {T : String} {x : V} {v : Value} (I : Inv X pins σ H s) (r : RelV x v) (ty : MthV X.K T x H) : s.TypeIs v T ∧ ∀ a, v = .ref a → ∃ ob, s.heap.get? a = some ob ∧ ob.dict = none := by
  rcases ty with ⟨rfl, p, xs, rfl, h⟩ | ⟨rfl, p, xs, rfl, h⟩
  · exact tyV_is I r (T := "list") (x := .ref p) (.inl ⟨rfl, xs, h⟩)
  · cases r
    obtain ⟨its, _, ht, _⟩ := I.tuple h.sqt
    refine ⟨ht.typeIs, fun a e => ?_⟩
    cases e
    rcases h with ⟨o, h, hd⟩ | ⟨o, its, n, h, ⟨_, hd⟩, _⟩
    · exact ⟨o, (I.hok p _ h).1, hd⟩
    · exact ⟨o, I.kIn p o h, hd⟩
def tIdx (K : PySem.W.Frag) (to : TE) (t : TA) : TE := fun σ H Q => to σ H fun x H1 => (MthV K "list" x H1 ∧ t σ H1 fun ws H2 => rIndex K x ws H2 Q) ∨ (MthV K "tuple" x H1 ∧ t σ H1 fun ws H2 => rIdxT K x ws H2 Q)
theorem pe_index {o e : Expr} {es : List Expr} {to : TE} {t : TA} {apos cpos : Pos} (ho : PE X o to) (ha : PA X (e :: es) t) (hbase : attributeBase o "index" X.env (eval o X.env) = eval o X.env := by rfl)
    (hfew : ((backTo cpos (starEach (e :: es) X.env)).all (fun x => !x.1) && (backToKw cpos (keywordEach [] X.env)).all (fun x => x.1.isSome) && decide ((e :: es).length + ([] : List Keyword).length + (if ([] : List Keyword).isEmpty then 0 else 1) < 30)) = true := by rfl)
    (hline : (apos.endLine == cpos.line) = true := by rfl) (hs : starEach (e :: es) X.env = (false, eval e X.env) :: starEach es X.env := by rfl) (hplain : (backTo cpos (starEach es X.env)).any (·.1) = false := by rfl) :
    PE X (.Call (.Attribute o "index" apos) (e :: es) [] cpos) (tIdx X.K to t) := by
  refine ⟨fun pins s σ H Q I h => wpAny_Call_method_late hbase hfew hline rfl (thn (ho.run pins s σ H _ I h) fun v s1 ⟨x, H1, I1, r1, hq⟩ => ?_)⟩
  have fin : ∀ {T id : String} {r : V → List V → Hp → VK → Prop}, PlainAttrs T → Slot T "index" id → typeOf (.builtin id) = pure (.type "method_descriptor") → MtR X id r → MthV X.K T x H1 → (t σ H1 fun ws H2 => r x ws H2 Q) → MethodOn X.prog X.w X.A "index" cpos v (backTo cpos (starEach (e :: es) X.env)) (EP X pins σ Q) X.xe s1 := by
    intro T id r pa slot hty hm ty q1
    obtain ⟨h1, h2⟩ := mthV_is I1 r1 ty
    refine ⟨T, id, pa, slot, hty, h1, h2, ?_⟩
    have hA := ha.run cpos pins s1 σ H1 _ I1 q1
    rw [hs] at hA ⊢
    refine Calls.callWith_builtin (by show (false || (backTo cpos (starEach es X.env)).any (·.1)) = false; rw [hplain] <;> rfl) (Calls.evalArgs_plain (thn hA fun us s2 ⟨vs, H2, I2, r2, q2⟩ => ?_))
    exact hm pins s2 σ H2 x vs v us Q I2 r1 r2 q2
  rcases hq with ⟨ty, q⟩ | ⟨ty, q⟩
  · exact fin PySem.F.plainAttrs_list PySem.F.slot_list_index PySem.F.type_list_index mt_index ty q
  · exact fin PySem.F.plainAttrs_tuple PySem.F.slot_tuple_index PySem.F.type_tuple_index mt_idxT ty q
end
end DL

end
section
set_option Elab.async false
set_option linter.all false
set_option maxRecDepth 100000
set_option maxHeartbeats 1000000
/-! sorted(x), x a list or a tuple of ints -/
namespace DLS
open PySem PySem.Spec PyProof.Rows SrtO
section
variable {prog : Program} {w : World} {A : Around} {E : Value → Shared → Prop} {s : Shared}
theorem sorted_seq {T : String} {l : Addr} {o : Obj} {n : Nat} {vs : List Value} {ns : List Int} {Q : Value → Shared → Prop} (hT : T = "list" ∨ T = "tuple") (ho : s.heap.get? l = some o) (hc : o.cls = .type T) (hd : o.data = .seq vs.toArray n) (hz : vs.length ≤ sizeLine) (hI : IntsAre vs ns)
    (h : ∀ (h1 h' : Heap) (out : List Value) (e : Nat), Srtd ltIv out → Stb ltIv out vs → (∀ b u, s.heap.get? b = some u → h1.get? b = some u) → (∀ b u, h1.get? b = some u → h'.get? b = some u) → h'.get? h1.objs.size = some (seqObj "list" out.toArray e) → Q (.ref h1.objs.size) { s with heap := h' }) :
    wpAny (model prog w) A (call (.builtin "sorted") [.ref l]) Q E s := by
  refine Calls.call_function_entry kind_sorted plain_sorted entry_sorted (args_sorted1 _) ?_
  unfold Builtin.«sorted»
  refine wpAny_bind (m := checkCount "sorted" 1 1 _) (wpAny_pure ?_)
  refine wpAny_bind (wpAny_collect_seq l hT ho hc hd (fun h1 k1 => ?_) (by
    rw [List.size_toArray]
    exact hz))
  have el : vs.toArray.toList = vs := by simp
  rw [el]
  refine wpAny_bind (wpAny_newList ?_ hz)
  have hoL : (h1.push (seqObj "list" vs.toArray 0)).get? h1.objs.size = some (seqObj "list" vs.toArray 0) := Heap.get?_push_size _ rfl
  show wpAny _ _ _ _ _ { s with heap := h1.push (seqObj "list" vs.toArray 0) }
  refine wpAny_bind (wpAny_holding (wpAny_call_entry slot_list_sort ⟨_, hoL, rfl⟩ entry_list_sort (list_sort_ord swo_int hoL hz (fun h2 => ints_sortable hI h2) fun out hs hb => ⟨_, rfl, wpAny_pure ⟨_, rfl, ?_⟩⟩) (args_list_sort _)))
  obtain ⟨e, he⟩ := sortedHeap_at (vs := vs) (out := out.toArray) hoL
  refine h h1 _ out e hs hb k1 (fun b u q => ?_) he
  have hb2 : b < h1.objs.size := Heap.lt_size q
  have q2 : (h1.push (seqObj "list" vs.toArray 0)).get? b = some u := Heap.get?_push_of_some _ q
  rw [sortedHeap_old (Nat.ne_of_lt hb2) (Heap.lt_size q2)]
  exact q2
end
end DLS
namespace DL
open PySem PySem.Spec PyProof.Rows L2
def rSortedD (K : PySem.W.Frag) : List V → Hp → VK → Prop := fun vs H Q => ∃ (a : Addr) (ns : List Int), vs = [V.ref a] ∧ (SqL K H a (ns.map V.int) ∨ SqT K H a (ns.map V.int)) ∧
  ∀ (ns' : List Int) (p : Addr), ns'.Perm ns → ns'.Pairwise (· ≤ ·) → H p = none → Q (.ref p) (upd H p (.lst (ns'.map V.int)))
section
variable {X : Cx}
theorem cr_sortedD : CallR X (.builtin "sorted") (rSortedD X.K) := by
  intro pins s σ H vs us Q I r h
  obtain ⟨a, ns, rfl, hs, q⟩ := h
  rw [Vals.ref1 r]
  have key : ∃ (T : String) (o : Obj) (n : Nat) (its : List Value), (T = "list" ∨ T = "tuple") ∧ s.heap.get? a = some o ∧ o.cls = .type T ∧ o.data = .seq its.toArray n ∧ Vals (ns.map V.int) its ∧ (ns.map V.int).length ≤ sizeLine := by
    rcases hs with hs | hs
    · obtain ⟨its, rv, hl, hz⟩ := I.list hs
      obtain ⟨o, ho, hc, n, hd⟩ := hl.isList
      exact ⟨"list", o, n, its, .inl rfl, ho, hc, hd, rv, hz⟩
    · obtain ⟨its, rv, ⟨o, ho, hc, n, hd⟩, hz⟩ := I.tuple hs
      exact ⟨"tuple", o, n, its, .inr rfl, ho, hc, hd, rv, hz⟩
  obtain ⟨T, o, n, its, hT, ho, hc, hd, rv, hz⟩ := key
  have hi := rv.ints
  refine DLS.sorted_seq hT ho hc hd (by rw [← rv.length]; exact hz) hi fun h1 h' out e h2 h3 k1 k2 he => ?_
  obtain ⟨q1, q2, q3⟩ := SrtO.ints_out hi h2 h3
  have hlen : ((out.map SrtO.iv).map V.int).length ≤ sizeLine := by
    rw [List.length_map, q2.length_eq]
    rw [List.length_map] at hz
    exact hz
  have J : Inv X pins σ H { s with heap := h1 } := I.kept (t' := s.toks) k1
  exact ⟨.ref _, upd H h1.objs.size (.lst ((out.map SrtO.iv).map V.int)), J.laid (t' := s.toks) k2 (Nat.le_refl _) ⟨hlen, out, e, vals_of_ints q1, he⟩, rfl, q _ _ q2 q3 (J.hok.fresh (Nat.le_refl _))⟩
end
end DL

end
section
set_option Elab.async false
set_option linter.all false
set_option maxRecDepth 100000
set_option maxHeartbeats 1000000
/-! tuple(reversed(t)) of a tuple -/
namespace DLR
open PySem PySem.Spec PyProof.Rows RT
theorem nolen_rv : typeLookup (.type "reversed") "__len__" = pure none := by rw [typeLookup_type, builtinLookup_eq_fast]; kernel_rfl
theorem slot_hint : Slot "reversed" "__length_hint__" "reversed.__length_hint__" := by
  refine .of (owner := "reversed") (n := "__length_hint__") ?_ (by decide +kernel) (by decide +kernel) (by decide +kernel) ?_ ?_
  · rw [typeLookup_type, builtinLookup_eq_fast]
    kernel_rfl
  · first
      | exact .inl (by decide +kernel)
      | exact .inr (by decide +kernel)
  · rw [isSubtype_type]
    kernel_rfl
theorem entry_hint : entryFor table "reversed.__length_hint__" = some Builtin.«reversed.__length_hint__» := entryFor_of_tree (by kernel_rfl)
theorem args_hint (a : Value) : argsOk "reversed.__length_hint__" ⟨[a], []⟩ := by
  unfold argsOk
  rw [signature?_of (id := "reversed.__length_hint__") (n := ['_', '_', 't', 'n', 'i', 'h', '_', 'h', 't', 'g', 'n', 'e', 'l', '_', '_']) (o := ['d', 'e', 's', 'r', 'e', 'v', 'e', 'r']) (by kernel_rfl) owner_rt]
  kernel_rfl
section
variable {prog : Program} {w : World} {A : Around} {E : Value → Shared → Prop} {s : Shared}
theorem run_hint {it t : Addr} {items : Array Value} {Q : Fin → Shared → Prop} (hit : IsRt s.heap it t ((items.size : Int) - 1)) (ht : IsTup s.heap t items) (hz : items.size ≤ sizeLine) (h : ∀ k k', Q (.done (.ret (.int items.size k))) { s with toks := k' }) :
    wpAny (model prog w) A (Builtin.«reversed.__length_hint__» ⟨[.ref it], []⟩) Q E s := by
  obtain ⟨o, ho, hc, hd⟩ := id hit
  rw [sizeLine_eq] at hz
  unfold Builtin.«reversed.__length_hint__»
  refine wpAny_bind (wpAny_of_eq (a := Value.ref it) rfl ?_)
  refine wpAny_bind (wpAny_field ho hd (x := .ref t) rfl ?_)
  rw [if_neg (show ¬ ((Value.ref t == Value.none) = true) from by simp)]
  try dsimp only
  refine wpAny_bind (len_tuple ht (by omega) ?_)
  refine wpAny_bind (wpAny_of_eq (a := some ((items.size : Nat) : Int)) rfl ?_)
  try dsimp only
  refine wpAny_bind (wpAny_field (s := { s with toks := s.toks + 1 + 1 }) ho hd (x := rawInt ((items.size : Int) - 1)) rfl ?_)
  show wpAny _ _ (if (items.size : Int) < ((items.size : Int) - 1) + 1 then _ else _) _ _ _
  rw [if_neg (by omega)]
  have e : ((items.size : Int) - 1) + 1 = (items.size : Int) := by omega
  rw [e]
  exact wpAny_bind (wpAny_mkInt (wpAny_pure (h _ _)))
/-- how long it will be -/
theorem hint_ok {it t : Addr} {items : Array Value} {Q : Bool → Shared → Prop} (hit : IsRt s.heap it t ((items.size : Int) - 1)) (ht : IsTup s.heap t items) (hz : items.size ≤ sizeLine) (h : ∀ k', Q (decide (items.size ≠ 0)) { s with toks := k' }) :
    wpAny (model prog w) A (Builtin.List.listLengthHint (.ref it)) Q E s := by
  have hT : s.TypeIs (.ref it) "reversed" := hit.typeIs
  have hz2 := hz
  rw [sizeLine_eq] at hz2
  unfold Builtin.List.listLengthHint
  refine wpAny_bind (wpAny_specialOf hT nolen_rv ?_)
  show wpAny _ _ (specialOf (Value.ref it) (Str.ofString "__length_hint__") >>= _) _ _ _
  refine wpAny_bind (wpAny_specialOf hT slot_hint.lookup ?_)
  generalize hid : ("reversed.__length_hint__" : String) = id0
  wp_delta
  rw [show splitId id0 = some ("reversed", "__length_hint__") from by subst hid; decide +kernel]
  subst hid
  refine wpAny_bind (wpAny_isInstance (b := true) hT (by rw [isSubtype_type]; kernel_rfl) ?_)
  rw [if_neg (by decide)]
  try dsimp only
  rw [if_neg (by decide +kernel)]
  refine wpAny_bind (wpAny_rule ?_)
  refine wpAny_bind (wpAny_of_eq (slot_hint.bind (.ref it)) ?_)
  try dsimp only
  refine wpAny_bind (wpAny_attempt ?_)
  refine wpAny_call_entry slot_hint hT entry_hint (run_hint hit ht hz fun k k' => ⟨_, rfl, ?_⟩) (args_hint _)
  try dsimp only
  show wpAny _ _ (asInt? (Value.int ((items.size : Nat) : Int) k) >>= _) _ _ _
  have ea : asInt? (Value.int ((items.size : Nat) : Int) k) = pure (some ((items.size : Nat) : Int)) := by
    unfold asInt?
    rfl
  rw [ea]
  refine wpAny_bind ?_
  refine wpAny_pure ?_
  try dsimp only
  have c1 : ¬ ((!Builtin.List.listFitsIndex ((items.size : Nat) : Int)) = true) := by
    unfold Builtin.List.listFitsIndex
    rw [decide_eq_true (show (-(2 ^ 63) : Int) ≤ ((items.size : Nat) : Int) by omega), decide_eq_true (show ((items.size : Nat) : Int) < 2 ^ 63 by omega)]
    exact Bool.false_ne_true
  rw [if_neg c1, if_neg (by omega)]
  have c2 : ¬ (Builtin.List.listTooLong ((items.size : Nat) : Int).toNat = true) := by
    unfold Builtin.List.listTooLong
    rw [Int.toNat_natCast, decide_eq_false (show ¬ items.size > sizeLine from Nat.not_lt.mpr hz)]
    exact Bool.false_ne_true
  rw [if_neg c2]
  have e : (((items.size : Nat) : Int) != 0) = decide (items.size ≠ 0) := by
    by_cases q : items.size = 0
    · rw [q]
      rfl
    · rw [decide_eq_true q]
      simpa using q
  rw [e]
  exact wpAny_pure (h _)
theorem walks_rt {A' : Around} (hh : A'.handled = none) (I t : Addr) (hne : t ≠ I) (items : Array Value) (hz : items.size ≤ sizeLine) :
    Walks prog w A' I [I, t] [I] items.size (fun i v => items[items.size - 1 - i]? = some v) (fun i h => i ≤ items.size ∧ IsRt h I t ((items.size : Int) - 1 - (i : Int)) ∧ IsTup h t items) where
  sub := fun b hb => by
    have e : b = I := by simpa using hb
    simp [e]
  frame := fun _ _ _ x hk => by
    obtain ⟨h1, h2, o, h3, h4⟩ := x
    exact ⟨h1, h2.at fun o e => hk I (by simp) o e, o, hk t (by simp) o h3, h4⟩
  item := fun i s Q E hi x hQ => by
    obtain ⟨_, hit, ht⟩ := x
    rw [show (items.size : Int) - 1 - (i : Int) = ((items.size - 1 - i : Nat) : Int) by omega] at hit
    have hx : items[items.size - 1 - i]? = some (items[items.size - 1 - i]'(by omega)) := Array.getElem?_eq_getElem (by omega)
    refine next_rt_item hit ht hx hz fun h' st sb => ?_
    rw [show ((items.size - 1 - i : Nat) : Int) - 1 = (items.size : Int) - 1 - ((i + 1 : Nat) : Int) by omega] at st
    refine hQ _ h' (s.toks + 1) hx ⟨hi, st, ?_⟩ fun b o hb eo => sb.extBut b o (fun h => hb (by simp [h])) eo
    obtain ⟨o, h3, h4⟩ := ht
    exact ⟨o, (sb.2 t hne).trans h3, h4⟩
  done := fun s Q E x hQ => by
    obtain ⟨_, hit, ht⟩ := x
    rw [show (items.size : Int) - 1 - (items.size : Int) = -1 by omega] at hit
    exact next_rt_end hh hit fun h' he => hQ h' s.toks fun b o hb eo => he b o (fun h => hb (by simp [h])) eo
  self := fun _ _ _ _ x hQ => iter_rt x.2.1 hQ
theorem collect_revT {it t : Addr} {items : Array Value} {Q : List Value → Shared → Prop} (hh : A.handled = none) (hit : IsRt s.heap it t ((items.size : Int) - 1)) (ht : IsTup s.heap t items) (hne : t ≠ it) (hz : items.size ≤ sizeLine)
    (hQ : ∀ (h' : Heap) (tk : Nat) (acc : Array Value), (∀ b o, b ≠ it → s.heap.get? b = some o → h'.get? b = some o) → ItemsOf (fun i v => items[items.size - 1 - i]? = some v) acc items.size → Q acc.toList { s with heap := h', toks := tk }) :
    wpAny (model prog w) A (collect (.ref it)) Q E s := by
  have W := (walks_rt (prog := prog) (w := w) (A' := A.in1) hh it t hne items hz).toS
  obtain ⟨oi, hoi, _⟩ := id hit
  obtain ⟨ol, hol, _⟩ := id ht
  have nI : s.heap.objs.size ≠ it := Nat.ne_of_gt (Heap.lt_size hoi)
  have nT : s.heap.objs.size ≠ t := Nat.ne_of_gt (Heap.lt_size hol)
  have nF : s.heap.objs.size ∉ [it, t] := by
    simp only [List.mem_cons, List.not_mem_nil, or_false, not_or]
    exact ⟨nI, nT⟩
  unfold collect
  refine wpAny_bind (wpAny_runValue (codeAny_builtin F.entry_proto_collect ?_))
  rw [Around.under_plainId F.plain_proto_collect _]
  show wpAny _ A.in1 (newList [] >>= fun l => again (.builtin "list.__iadd__" ⟨[l, .ref it], []⟩)) _ _ s
  refine wpAny_bind (wpAny_newObj_type (wpAny_pure ⟨plainId_quiet F.plain_list_iadd _, codeAny_builtin F.entry_list_iadd ?_⟩))
  rw [Around.under_plainId F.plain_list_iadd _]
  generalize hh1 : s.heap.push { cls := .type "list", data := .seq ([] : List Value).toArray } = h₁
  have old : ∀ b o, s.heap.get? b = some o → h₁.get? b = some o := fun b o e => hh1 ▸ Heap.get?_push_of_some _ e
  have hS₁ : h₁.get? s.heap.objs.size = some { cls := .type "list", data := .seq ([] : List Value).toArray } := hh1 ▸ Heap.get?_push_size _ rfl
  have hit1 : IsRt h₁ it t ((items.size : Int) - 1) := hit.at fun o e => old _ o e
  have ht1 : IsTup h₁ t items := by
    obtain ⟨o, h3, h4⟩ := ht
    exact ⟨o, old _ _ h3, h4⟩
  have hT : ({ s with heap := h₁ } : Shared).TypeIs (.ref it) "reversed" := IsRt.typeIs (s := { s with heap := h₁ }) hit1
  have h1 : Builtin.List.listSameRef (.ref s.heap.objs.size) (.ref it) = false := by simp [Builtin.List.listSameRef, nI]
  show wpAny _ A.in1 (Builtin.List.listExtendWith (.ref s.heap.objs.size) (.ref it) (.ref s.heap.objs.size)) _ _ { s with heap := h₁ }
  unfold Builtin.List.listExtendWith
  refine wpAny_bind (wpAny_typeOf hT ?_)
  rw [if_neg (by rw [h1]; decide)]
  refine wpAny_bind (iter_rt (s := { s with heap := h₁ }) hit1 ?_)
  refine wpAny_bind (wpAny_holding (hint_ok (s := { s with heap := h₁ }) hit1 ht1 hz fun tk => ?_))
  have e0 : ((items.size : Nat) : Int) - 1 - ((0 : Nat) : Int) = (items.size : Int) - 1 := by omega
  by_cases hn0 : items.size = 0
  · rw [decide_eq_false (show ¬ items.size ≠ 0 from fun z => z hn0), if_neg (by decide +kernel)]
    have ht2 := ht1
    refine wpAny_pure ⟨plainId_quiet F.plain_extend_loop _, codeAny_extend_loopS W hz _ nF _ items.size 0 _ _ _ rfl (Nat.zero_le _) ⟨Nat.zero_le _, by rw [e0]; exact hit1, ht2⟩ hS₁ (ItemsOf.nil _) fun s' acc' c' hm hS' hacc => ?_⟩
    show wpAny _ A (load s.heap.objs.size >>= _) _ _ s'
    refine wpAny_bind (wpAny_load hS' (wpAny_pure ?_))
    rw [Moved.eq_with hm]
    refine hQ s'.heap s'.toks acc' (fun b o hb e => hm.heap b o (fun hmem => ?_) (old b o e)) hacc
    rcases List.mem_cons.mp hmem with e' | hmem
    · exact absurd (Heap.lt_size e) (by rw [e']; exact Nat.lt_irrefl _)
    · exact hb (List.mem_singleton.mp hmem)
  · rw [decide_eq_true hn0, if_pos (by decide +kernel)]
    refine wpAny_bind (wpAny_rule (wpAny_bind ?_))
    show wpAny _ A.in1 (updateSeq s.heap.objs.size (·.push .none) >>= fun _ => updateSeq s.heap.objs.size (·.pop)) _ _ _
    refine wpAny_bind (wpAny_updateSeq hS₁ rfl ?_)
    have hS₂ := Heap.get?_update_self (Obj.mapSeq (·.push Value.none)) hS₁ rfl
    refine wpAny_updateSeq hS₂ rfl ?_
    have hS₃ := Heap.get?_update_self (Obj.mapSeq (·.pop)) hS₂ rfl
    have KK : ∀ b o, b ≠ s.heap.objs.size → h₁.get? b = some o → ((h₁.update s.heap.objs.size (Obj.mapSeq (·.push Value.none))).update s.heap.objs.size (Obj.mapSeq (·.pop))).get? b = some o := fun b o hb e => (Heap.get?_update_other _ _ (Ne.symm hb)).trans ((Heap.get?_update_other _ _ (Ne.symm hb)).trans e)
    have ht2 : IsTup ((h₁.update s.heap.objs.size (Obj.mapSeq (·.push Value.none))).update s.heap.objs.size (Obj.mapSeq (·.pop))) t items := by
      obtain ⟨o, h3, h4⟩ := ht1
      exact ⟨o, KK _ _ (Ne.symm nT) h3, h4⟩
    refine wpAny_pure ⟨plainId_quiet F.plain_extend_loop _, codeAny_extend_loopS W hz _ nF _ items.size 0 _ _ _ rfl (Nat.zero_le _) ⟨Nat.zero_le _, by rw [e0]; exact hit1.at fun o e => KK _ o (Ne.symm nI) e, ht2⟩ hS₃ (ItemsOf.nil _) fun s' acc' c' hm hS' hacc => ?_⟩
    show wpAny _ A (load s.heap.objs.size >>= _) _ _ s'
    refine wpAny_bind (wpAny_load hS' (wpAny_pure ?_))
    rw [Moved.eq_with hm]
    refine hQ s'.heap s'.toks acc' (fun b o hb e => hm.heap b o (fun hmem => ?_) (KK b o (Nat.ne_of_lt (Heap.lt_size e)) (old b o e))) hacc
    rcases List.mem_cons.mp hmem with e' | hmem
    · exact absurd (Heap.lt_size e) (by rw [e']; exact Nat.lt_irrefl _)
    · exact hb (List.mem_singleton.mp hmem)
theorem code_tuple_revT {it t : Addr} {items : Array Value} {Q₁ : Value → Shared → Prop} (hh : A.handled = none) (hit : IsRt s.heap it t ((items.size : Int) - 1)) (ht : IsTup s.heap t items) (hne : t ≠ it) (hn : items.size ≤ sizeLine)
    (h : ∀ (h' : Heap) (tk : Nat) (acc : Array Value), (∀ b o, b ≠ it → s.heap.get? b = some o → h'.get? b = some o) → ItemsOf (fun i v => items[items.size - 1 - i]? = some v) acc items.size → Q₁ (.ref h'.objs.size) { s with heap := h'.push { cls := .type "tuple", data := .seq acc }, toks := tk }) :
    codeAny (model prog w) A (.call (.builtin "tuple.__new__") ⟨[.type "tuple", .ref it], []⟩) (wants Q₁ E) s := by
  refine codeAny_of_tree ?_
  show wpAny _ A.in1 (checkBuiltinCall "tuple.__new__" ⟨[.type "tuple", .ref it], []⟩ >>= fun _ => again (.builtin "tuple.__new__" ⟨[.type "tuple", .ref it], []⟩)) _ _ s
  refine wpAny_bind (wpAny_of_eq (F.newCall_tuple_1 _) (wpAny_pure ⟨plainId_quiet F.plain_tuple_new _, codeAny_builtin F.entry_tuple_new ?_⟩))
  rw [Around.under_plainId F.plain_tuple_new _]
  have hsub := sub_tuple_self
  have hinit := init_tuple_lookup
  have hmh := madeHere_tuple
  have hTI : s.TypeIs (.ref it) "reversed" := hit.typeIs
  have hh1 : A.in1.handled = none := hh
  wp_walk using wpAny_typeOf hTI, collect_revT (A := A.in1) hh1 hit ht hne hn
  intro h' tk acc hk hacc
  show wpAny _ _ (Builtin.Tuple.tupleExact acc.toList.toArray >>= fun v => ret v) _ _ _
  unfold Builtin.Tuple.tupleExact
  have e : acc.toList.toArray = acc := by simp
  rw [e]
  refine wpAny_bind (wpAny_newObj_type (wpAny_pure (h h' tk acc hk hacc)) ?_)
  show acc.size ≤ sizeLine
  rw [hacc.1]
  exact hn
theorem call_tuple_revT {it t : Addr} {items : Array Value} {Q : Value → Shared → Prop} (hh : A.handled = none) (hit : IsRt s.heap it t ((items.size : Int) - 1)) (ht : IsTup s.heap t items) (hne : t ≠ it) (hn : items.size ≤ sizeLine)
    (hQ : ∀ (h' : Heap) (tk : Nat) (acc : Array Value), (∀ b o, b ≠ it → s.heap.get? b = some o → h'.get? b = some o) → ItemsOf (fun i v => items[items.size - 1 - i]? = some v) acc items.size → Q (.ref h'.objs.size) { s with heap := h'.push { cls := .type "tuple", data := .seq acc }, toks := tk }) :
    wpAny (model prog w) A (call (.type "tuple") [.ref it]) Q E s := by
  refine callType_codes (Q₁ := fun obj s1 => s1.TypeIs obj "tuple" ∧ Q obj s1) F.called_tuple (F.typeCall_tuple_1 _) F.entry_object_init (code_tuple_revT (A := A.in1) hh hit ht hne hn fun h' tk acc hk hacc => ⟨⟨_, Heap.get?_push_size _ rfl, rfl⟩, hQ h' tk acc hk hacc⟩) fun obj s1 h1 => ?_
  exact ⟨h1.1, F.args_object_init_2 obj _, object_init_meets F.called_tuple.init.lookup F.called_tuple.made (by decide) prog w A.in1 _ s1 ⟨h1.1, rfl, h1.2⟩⟩
end
end DLR
namespace DL
open PySem PySem.Spec PyProof.Rows L2 RT
section
variable {X : Cx}
/-- tuple(reversed(x)) -/
def tTupRevD (K : PySem.W.Frag) (te : TE) : TE := fun σ H Q => te σ H fun v H1 => ∃ (a : Addr) (xs : List V), v = .ref a ∧ (SqL K H1 a xs ∨ SqT K H1 a xs) ∧ TQ H1 xs.reverse Q
theorem pe_tupRevD {e : Expr} {te : TE} {p p2 pos pos2 : Pos} (hc : X.calm = true) (hg : Gl X "tuple") (hm : X.mg "tuple" = none) (hg2 : Gl X "reversed") (hm2 : X.mg "reversed" = none) (he : PE X e te) (hs : starEach [e] X.env = (false, eval e X.env) :: starEach [] X.env := by rfl)
    (hs2 : starEach [.Call (.Name "reversed" p2) [e] [] pos2] X.env = (false, eval (.Call (.Name "reversed" p2) [e] [] pos2) X.env) :: starEach [] X.env := by rfl) : PE X (.Call (.Name "tuple" p) [.Call (.Name "reversed" p2) [e] [] pos2] [] pos) (tTupRevD X.K te) := by
  refine ⟨fun pins s σ H Q I h => ?_⟩
  refine Call_ (ld_blt I hg hm boot_tuple (PyProof.Rows.callWith_type1 (args_cons (Call_ (ld_blt I hg2 hm2 PyProof.Rows.boot_reversed (PyProof.Rows.callWith_type1 (args_cons (thn (he.run pins s σ H _ I h) fun u s1 ⟨v, H1, I1, r1, a, xs, ev, hq, q⟩ => args_nil ?_) hs) hs rfl))) hs2) hs2 rfl))
  subst ev
  obtain rfl : u = Value.ref a := r1
  rcases hq with hq | hq
  · obtain ⟨its, rv, p', hz⟩ := I1.list hq
    refine call_reversed_list p'.isList (args_nil ?_)
    have k0 : ∀ b o, s1.heap.get? b = some o → (s1.heap.push (revObj a ((its.toArray.size : Int) - 1))).get? b = some o := fun b o e => Heap.get?_push_of_some _ e
    have I2 := I1.kept (t' := s1.toks) k0
    obtain ⟨f0, f1, f2, f3, f4, f5⟩ := I1.fpOk (H' := H1) (b := s1.heap.objs.size) (Nat.le_refl _) (I1.hok.fresh (Nat.le_refl _))
    have hl := p'.isList
    obtain ⟨ol, hol, _⟩ := id hl
    refine call_tuple_rev (s := { s1 with heap := s1.heap.push (revObj a ((its.toArray.size : Int) - 1)) }) (I1.ok.hd hc) ⟨_, Heap.get?_push_size _ rfl, rfl, rfl⟩ (hl.push _) (Nat.ne_of_lt (Heap.lt_size hol)) (by
      rw [List.size_toArray, ← rv.length]
      exact hz) fun h' tk acc hk hi => ?_
    have ea : acc = acc.toList.toArray := by rw [Array.toArray_toList]
    rw [ea]
    refine layT (s := s1) (h' := h') (tk := tk) (I2.turned (t' := tk) (fun b o hb e => hk b o hb e) f0 f1 f3 f4 f5) ?_ (vals_rev rv hi) q
    rw [List.length_reverse]
    exact hz
  · obtain ⟨its, rv, p', hz⟩ := I1.tuple hq
    have hn := line63
    have hlv := rv.length
    refine call_reversed_tup p' (fun A E Q k => len_tuple p' (by simp only [List.size_toArray] <;> omega) k) (args_nil ?_)
    have k0 : ∀ b o, s1.heap.get? b = some o → (s1.heap.push (rtObj a ((its.toArray.size : Int) - 1))).get? b = some o := fun b o e => Heap.get?_push_of_some _ e
    have I2 := I1.kept (t' := s1.toks + 1 + 1) k0
    obtain ⟨f0, f1, f2, f3, f4, f5⟩ := I1.fpOk (H' := H1) (b := s1.heap.objs.size) (Nat.le_refl _) (I1.hok.fresh (Nat.le_refl _))
    obtain ⟨ol, hol, ho2⟩ := id p'
    refine DLR.call_tuple_revT (s := { s1 with heap := s1.heap.push (rtObj a ((its.toArray.size : Int) - 1)), toks := s1.toks + 1 + 1 }) (items := its.toArray) (I1.ok.hd hc) ⟨_, Heap.get?_push_size _ rfl, rfl, rfl⟩ ⟨ol, k0 _ _ hol, ho2⟩ (Nat.ne_of_lt (Heap.lt_size hol)) (by
      rw [List.size_toArray, ← rv.length]
      exact hz) fun h' tk acc hk hi => ?_
    have ea : acc = acc.toList.toArray := by rw [Array.toArray_toList]
    rw [ea]
    refine layT (s := s1) (h' := h') (tk := tk) (I2.turned (t' := tk) (fun b o hb e => hk b o hb e) f0 f1 f3 f4 f5) ?_ (vals_rev rv hi) q
    rw [List.length_reverse]
    exact hz
end
end DL

end
section
set_option Elab.async false
set_option linter.all false
set_option maxRecDepth 100000
set_option maxHeartbeats 1000000
/-! errors with a place, made by super().__init__ -/
namespace PySem
namespace DLX
open PySem.W PySem.Calls PyProof.Rows PySem.HandSPX
def eA (p1 p2 : Pos) : Arguments := { posonlyargs := [], args := [{ arg := "self", annotation := none, pos := p1 }, { arg := "place", annotation := none, pos := p2 }], vararg := none, kwonlyargs := [], kw_defaults := [], kwarg := none, defaults := [] }
def eSc : Scope := { kind := .function, names := [("self", .local), ("place", .local), ("__class__", .free), ("super", .globalImplicit)], isGenerator := false, isCoroutine := false, more := [] }
def eSup (a1 a2 a3 a4 a5 a6 : Pos) : Stmt := .Expr (.Call (.Attribute (.Call (.Name "super" a1) [] [] a2) "__init__" a3) [.Name "place" a4] [] a5) a6
def eSet (f : Str) (e : Expr) (b1 b2 b3 : Pos) : Stmt := .Assign [.Attribute (.Name "self" b1) f b2] e b3
/-- an __init__ at fI that closes over the class at D -/
def ErrI (K : Frag) (file qual : Str) (body : List Stmt) (fI D : Addr) : Prop :=
  ∃ (oc : Value) (od : Option Addr) (kV doc pm : Value) (an : Option Addr) (cda cc : Addr) (ct : Value) (osl : Array (Option Value)) (p1 p2 : Pos) (ccl : Value) (cdd : Option Addr) (vs : Array Value) (ccs : Array (Option Value)) (tf : Tok) (cl : Value) (cld : Option Addr) (csl : Array (Option Value)) (cdD : ClassData),
    K.lookup fI = some ⟨oc, od, .func (ksFn "__init__" qual (eA p1 p2) body eSc .none kV doc pm an (.ref cda) ct cc), osl⟩ ∧ codeIn K (.ref cda) qual = true ∧ K.lookup cda = some ⟨ccl, cdd, .fields vs, ccs⟩ ∧ vs[2]? = some (.str file tf) ∧
      K.lookup cc = some ⟨cl, cld, .cell (some (.ref D)), csl⟩ ∧ clsIn K D = some cdD
/-- the class at C, below the one at S -/
structure ErrC (K : Frag) (C S : Addr) : Prop where
  T : L2.OexC K C
  noP : findIn K (.ref C) "place" = some none
  noN : findIn K (.ref C) "name" = some none
  sup : ks_superIn K C S "__init__" = some (some (.builtin "ValueError.__init__"))
  isS : mroIn K C (.ref S) = some true
  isV : subIn K (.ref C) (.type "ValueError") = some true
def Bs (base h : Heap) : Prop := ∀ b o, base.get? b = some o → h.get? b = some o
theorem Bs.but {base h h' : Heap} {x : Addr} (k : Bs base h) (hx : base.get? x = none) (e : ∀ b o, b ≠ x → h.get? b = some o → h'.get? b = some o) : Bs base h' := fun b o q => e b o (fun z => by rw [z, hx] at q; cases q) (k b o q)
theorem Bs.old {base h h' : Heap} (k : Bs base h) (e : ∀ b o, h.get? b = some o → h'.get? b = some o) : Bs base h' := fun b o q => e b o (k b o q)
/-- the tree of super().__init__(place): by the places of its parts -/
def SupT (a1 a2 a3 a4 a5 : Pos) : Prop := ∀ env : Env, ∃ pl : Sem Bool, eval (.Call (.Attribute (.Call (.Name "super" a1) [] [] a2) "__init__" a3) [.Name "place" a4] [] a5) env = (do
  let ov ← attributeBase (.Call (.Name "super" a1) [] [] a2) "__init__" env (eval (.Call (.Name "super" a1) [] [] a2) env)
  standAt a3.atName
  let (f, first) ← holding [ov] (getMethod ov "__init__" pl)
  callWith a5 f first (backTo a5 (starEach [.Name "place" a4] env)) [])
/-- what an __init__ leaves -/
structure Ini (h h' : Heap) (x C dx t1 : Addr) (mA : Str → Option Value) : Prop where
  keep : ∀ b o, b ≠ x → h.get? b = some o → h'.get? b = some o
  obj : h'.get? x = some { cls := .ref C, dict := some dx, data := .fields #[.ref t1, .none, .none, .none, .bool false, .none] }
  dnew : h.objs.size ≤ dx
  ne : dx ≠ x
  ns : h'.Ns1 dx mA
def mPN (nm : Str) (t : Tok) (v : Value) : Str → Option Value := fun y => if y = "name" then some (.str nm t) else if y = "place" then some v else none
section
variable {prog : Program} {w : World} {A : Around} {E : Value → Shared → Prop} {s : Shared} {K : Frag} {mg : Str → Option Value} {base : Heap}
theorem one_ok (v : Value) : [v].length ≤ sizeLine := by
  rw [sizeLine_eq]
  exact (by decide : 1 ≤ 16777216)
/-- self.f = v, the first field -/
theorem set_first {C S x t0 : Addr} {f : Str} {v : Value} {Q : Unit → Shared → Prop} (M : L2.Mod K mg base) (T : ErrC K C S) (kb : Bs base s.heap) (hx : s.heap.get? x = some (excO C t0)) (hf : findIn K (.ref C) f = some none)
    (hq : ∀ h' tk dx, Ini s.heap h' x C dx t0 (fun y => if y = f then some v else none) → Q () { s with heap := h', toks := tk }) : wpAny (model prog w) A (setAttr (.ref x) f v) Q E s := by
  obtain ⟨nm, q, N, bs, bm, sn, sub, ab, col, dd, k0, k1, k2, k3, k5, hC, hbm⟩ := T.T.cls
  have hcl : ∃ cd : ClassData, clsIn K C = some cd ∧ refsVE cd.mro = true ∧ cd.hasDict = true := by
    unfold clsIn
    rw [hC]
    exact ⟨_, rfl, hbm, rfl⟩
  obtain ⟨cd, hcl, hm, hd⟩ := hcl
  obtain ⟨hp, g, dr, tk, os⟩ := s
  have X : K.In hp := M.kin.keeps kb
  exact set_plain X (ox := excO C t0) (od := none) ⟨hx, rfl, rfl, trivial⟩ T.T.sa (exc_osa X hx hcl hm hd hf fun h' tk' dx k dn dne hx' hn => hq h' tk' dx ⟨k, hx', dn, dne, hn⟩)
/-- self.f = v, a further field -/
theorem set_more {C S x t0 dx : Addr} {f : Str} {v : Value} {m0 : Str → Option Value} {nl : List Str} {Q : Unit → Shared → Prop} (M : L2.Mod K mg base) (T : ErrC K C S) (kb : Bs base s.heap) (hx : s.heap.get? x = some { cls := .ref C, dict := some dx, data := .fields #[.ref t0, .none, .none, .none, .bool false, .none] })
    (hns : s.heap.Ns1 dx m0) (hw : Within m0 nl) (hz : nl.length ≤ 1000) (hf : findIn K (.ref C) f = some none)
    (hq : ∀ h' tk, (∀ b o, b ≠ dx → s.heap.get? b = some o → h'.get? b = some o) → h'.Ns1 dx (fun y => if y = f then some v else m0 y) → Q () { s with heap := h', toks := tk }) : wpAny (model prog w) A (setAttr (.ref x) f v) Q E s := by
  obtain ⟨nm, q, N, bs, bm, sn, sub, ab, col, dd, k0, k1, k2, k3, k5, hC, hbm⟩ := T.T.cls
  have hcl : ∃ cd : ClassData, clsIn K C = some cd ∧ refsVE cd.mro = true ∧ cd.hasDict = true := by
    unfold clsIn
    rw [hC]
    exact ⟨_, rfl, hbm, rfl⟩
  obtain ⟨cd, hcl, hm, hd⟩ := hcl
  obtain ⟨oD, _, _, hoD, _, _⟩ := hns.count hw
  obtain ⟨hp, g, dr, tk, os⟩ := s
  have X : K.In hp := M.kin.keeps kb
  exact set_plain X (ox := { cls := .ref C, dict := some dx, data := .fields #[.ref t0, .none, .none, .none, .bool false, .none] }) (od := some oD) ⟨hx, rfl, rfl, hoD⟩ T.T.sa (PySem.OEX.osa_old X hx hns hw hz hcl hm hd hf fun h' tk' k hn => hq h' tk' k hn)
/-- the wrapper of ValueError.__init__ called -/
theorem call_mw {u e C S t0 : Addr} {rest : List Value} {Q : Value → Shared → Prop} (M : L2.Mod K mg base) (T : ErrC K C S) (kb : Bs base s.heap) (he : s.heap.get? e = some (excO C t0)) (hu : s.heap.get? u = some (kxs_mw "ValueError.__init__" e)) (hrest : rest.length ≤ sizeLine)
    (hq : ∀ h' t1, (∀ b o, b ≠ e → s.heap.get? b = some o → h'.get? b = some o) → h'.get? e = some (excO C t1) → Q .none { s with heap := h' }) : wpAny (model prog w) A (call (.ref u) rest) Q E s := by
  obtain ⟨nm, q, N, bs, bm, sn, sub, ab, col, dd, k0, k1, k2, k3, k5, hC, hbm⟩ := T.T.cls
  have hC' := (M.kin.keeps kb) _ _ hC
  obtain ⟨hp, g, dr, tk, os⟩ := s
  refine wpAny_call (codeAny_of_tree ?_)
  show wpAny _ A.in1 (callAny (.ref u) ⟨rest, []⟩) _ _ _
  simp only [callAny]
  refine wpAny_bind (wpAny_load hu ?_)
  simp only [kxs_mw, show (Value.type "method-wrapper" == Value.type "method" || Value.type "method-wrapper" == Value.type "builtin_function_or_method" || Value.type "method-wrapper" == Value.type "method-wrapper") = true by decide, if_true]
  refine KFB.if_so (by decide) (wpAny_bind (check_bound_init F.excBase_ValueError.toExcCallFacts hC' he rfl ?_))
  refine wpAny_bind (wpAny_pure (wpAny_pure ⟨plainId_quiet F.excBase_ValueError.init.plain _, codeAny_builtin F.excBase_ValueError.initEntry ?_⟩))
  rw [Around.under_plainId F.excBase_ValueError.init.plain _]
  wp_walk
  refine hq _ hp.objs.size (fun b o hb ho => ?_) ?_
  · rw [Heap.get?_update_other _ _ (Ne.symm hb)]
    exact Heap.get?_push_of_some _ ho
  · rw [Heap.get?_update_self _ (Heap.get?_push_of_some _ he) rfl]
    rfl
/-- super(), and what stands behind it -/
theorem sup_base {file qual q : Str} {body b2 : List Stmt} {fI D C x L cda cc : Addr} {ox : Obj} {od : Option Obj} {p1 p2 : Pos} {whole : Sem Value} {m : Str → Option Value} {Q : Value → Shared → Prop} {oc : Value} {odi : Option Addr} {kV doc pm ct ccl cl : Value} {an cdd cld : Option Addr} {osl ccs csl : Array (Option Value)} {a1 a2 : Pos} {vs : Array Value} {tf : Tok} {cdD : ClassData}
    (M : L2.Mod K mg base) (hsu : mg "super" = none) (kb : Bs base s.heap)
    (hI : K.lookup fI = some ⟨oc, odi, .func (ksFn "__init__" qual (eA a1 a2) b2 eSc .none kV doc pm an (.ref cda) ct cc), osl⟩) (hcda : K.lookup cda = some ⟨ccl, cdd, .fields vs, ccs⟩) (hvs : vs[2]? = some (.str file tf)) (hcell : K.lookup cc = some ⟨cl, cld, .cell (some (.ref D)), csl⟩) (hD : clsIn K D = some cdD)
    (hfile : (prog.main.file == file) = true) (htop : (prog.main.scope.names.lookup ("super" : Str)).isSome = false)
    (hn : s.heap.Ns L m) (hv : m "self" = some (.ref x)) (hx : InstAt s.heap x ox C od) (hsub : mroIn K C (.ref D) = some true)
    (h : ∀ so h', (∀ b o, s.heap.get? b = some o → h'.get? b = some o) → h'.get? so = some (ks_superObj D x C) → Q (.ref so) { s with heap := h' }) :
    _root_.PySem.wpAt (model prog w) A (.func body (ksEnv q eSc L fI (.ref cda) cc)) (attributeBase (.Call (.Name "super" p1) [] [] p2) "__init__" (ksEnv q eSc L fI (.ref cda) cc) whole) Q E s := by
  have X : K.In s.heap := M.kin.keeps kb
  obtain ⟨mb, hb1, hb2⟩ := M.blt
  obtain ⟨oD, hD1, hD2⟩ : ∃ oD, s.heap.get? D = some oD ∧ oD.data = .cls cdD := by
    unfold clsIn at hD
    split at hD
    · rename_i ho
      cases hD
      exact ⟨_, X _ _ ho, rfl⟩
    · cases hD
  refine ks_wpAt_super_base (env := ksEnv q eSc L fI (.ref cda) cc) (by with_unfolding_all rfl) (by with_unfolding_all rfl) (by decide) rfl (X _ _ hI) rfl (ar := { arg := "self", annotation := none, pos := a1 }) rfl rfl (X _ _ hcda) rfl hvs hfile htop ?_
  refine ks_loadName_global rfl (by with_unfolding_all rfl) (loadGlobal_builtin (env := ksEnv q eSc L fI (.ref cda) cc) (M.glob.keeps kb) hsu (hb1.keeps kb) ((hb2 _ (by decide +kernel)).trans (by decide +kernel : bootBuiltins "super" = some (.type "super"))) ⟨rfl, ?_⟩)
  refine wpAny_loadName_free rfl (by with_unfolding_all rfl) (c := cc) (by with_unfolding_all rfl) ⟨_, X _ _ hcell, rfl⟩ ?_
  refine wpAny_loadName_local rfl (by with_unfolding_all rfl) hn hv ?_
  obtain ⟨hp, g, dr, t, os⟩ := s
  refine ks_wpAny_isType_cls hD1 hD2 ⟨rfl, ks_wpAny_call_super hD1 hD2 hx.at_ hx.cls (fun c e => ?_) (looks_mroIn X hsub) fun h' e k => h _ h' k e⟩
  have z := hx.no
  unfold notCls at z
  rw [e] at z
  exact Bool.noConfusion z
theorem ldP {M' : Model} {env : Env} {m : Str → Option Value} {y : Str} {pos : Pos} {v : Value} {Q : Value → Shared → Prop} (hn : s.heap.Ns env.locals m) (hv : m y = some v) (h : Q v s) (hk : env.scope.kind = .function) (hl : env.kindOf y = some .local) (hd : (y == ("__debug__" : Str)) = false) :
    wpAny M' A (eval (.Name y pos) env) Q E s := wpAny_Name (wpAny_loadName_local hk hl hn hv h) hd
theorem exc_inst {x C t0 : Addr} {h : Heap} (hx : h.get? x = some (excO C t0)) : InstAt h x (excO C t0) C none := ⟨hx, rfl, rfl, trivial⟩
/-- the first __init__ of the chain -/
theorem init1 {R : Result → Shared → Prop} {qual nm : Str} {fS S C x t0 : Addr} {v : Value} {a1 a2 a3 a4 a5 a6 b1 b2 b3 b4 c1 c2 c3 c4 : Pos} {j : Nat} (hst : SupT a1 a2 a3 a4 a5) (M : L2.Mod K mg base) (hsu : mg "super" = none) (hop : nsIn K cStatics "thirdparty.any" = some none) (htop : (prog.main.scope.names.lookup ("super" : Str)).isSome = false)
    (hI : ErrI K prog.main.file qual [eSup a1 a2 a3 a4 a5 a6, eSet "place" (.Name "place" b4) b1 b2 b3, eSet "name" (.Constant (.str nm) j c4) c1 c2 c3] fS S) (T : ErrC K C S) (kb : Bs base s.heap) (hx : s.heap.get? x = some (excO C t0)) (hbx : base.get? x = none) (hroom : A.depth < recursionLimit)
    (hq : ∀ h' tk dx t1 tn, Ini s.heap h' x C dx t1 (mPN nm tn v) → R (.ok (.ret .none)) { s with heap := h', toks := tk }) : codeAny (model prog w) A (.call (.ref fS) ⟨[.ref x, v], []⟩) R s := by
  obtain ⟨oc, od, kV, doc, pm, an, cda, cc, ct, osl, p1, p2, ccl, cdd, vs, ccs, tf, cl, cld, csl, cdD, h1, h2, h3, h4, h5, h6⟩ := hI
  have X : K.In s.heap := M.kin.keeps kb
  refine ks_codeAny_call_defAt (body := [eSup a1 a2 a3 a4 a5 a6, eSet "place" (.Name "place" b4) b1 b2 b3, eSet "name" (.Constant (.str nm) j c4) c1 c2 c3]) (binds := [("self", .ref x), ("place", v)]) hroom (X _ _ h1) rfl (M.nolimit.keeps kb) (codeRec_of X h2) rfl (BindsTo.of_eq (by first | rfl | with_unfolding_all rfl)) (by
    show ∀ y ∈ eSc.names, y.2 ≠ .cell
    decide) (by
    intro y hy
    rcases List.mem_cons.mp hy with rfl | hy
    · with_unfolding_all rfl
    · rcases List.mem_cons.mp hy with rfl | hy
      · with_unfolding_all rfl
      · cases hy) (fun h₁ hns hk => ?_)
  obtain ⟨hp, g, dr, tk, os⟩ := s
  have hns : h₁.Ns hp.objs.size (fun y => ([(("self" : Str), Value.ref x), (("place" : Str), v)] : List (Str × Value)).reverse.lookup y) := hns
  have xL : x < hp.objs.size := Heap.lt_size hx
  -- super().__init__(place)
  obtain ⟨pl, hpl⟩ := hst (ksEnv qual eSc hp.objs.size fS (.ref cda) cc)
  refine ks_wpAt_execs_cons (ks_wpAt_Expr_any (ks_wpAt_MethodCall (he := hpl) (sup_base (mg := mg) M hsu (kb.old hk) h1 h3 h4 h5 h6 (by simp) htop hns (by with_unfolding_all rfl) (exc_inst (hk _ _ hx)) T.isS fun so h₂ k₂ hso => ?_)))
  have X₂ : K.In h₂ := M.kin.keeps ((kb.old hk).old k₂)
  have hx₂ := k₂ _ _ (hk _ _ hx)
  cases hc : clsIn K C with
  | none =>
    have z := T.sup
    unfold ks_superIn at z
    rw [hc] at z
    cases z
  | some cdC =>
    have z := T.sup
    unfold ks_superIn at z
    rw [hc] at z
    refine kxs_getMethod kxs_ValueError hso (looks_opaque X₂ hop) (l₀ := cdC.mro) (fun A Q E s k q => wpAny_bind ((looks_clsIn X₂ hc) A _ E s k (wpAny_pure q))) rfl X₂ z ((exc_inst hx₂).type.andThen (looks_subIn X₂ T.isV)) (ks_ne X₂ (exc_inst hx₂) hc) (by decide) ?_
    have k₃ : ∀ b o, h₂.get? b = some o → (h₂.push (kxs_mw "ValueError.__init__" x)).get? b = some o := fun b o e => Heap.get?_push_of_some _ e
    have hu : (h₂.push (kxs_mw "ValueError.__init__" x)).get? h₂.objs.size = some (kxs_mw "ValueError.__init__" x) := Heap.get?_push_at rfl rfl
    have kk : ∀ b o, h₁.get? b = some o → (h₂.push (kxs_mw "ValueError.__init__" x)).get? b = some o := fun b o e => k₃ b o (k₂ b o e)
    generalize hh₃ : h₂.push (kxs_mw "ValueError.__init__" x) = h₃ at k₃ hu kk
    have hns₃ := hns.keeps kk
    refine kxs_callWith (i := "ValueError.__init__") (x := x) (by rfl) (evalArgs_plain ?_)
    show wpAny _ _ (spliced (backTo _ (starEach [.Name "place" a4] _))) _ _ _
    refine args_cons (env := ksEnv qual eSc hp.objs.size fS (.ref cda) cc) (e := .Name "place" a4) (rest := []) (pos := a5) ?_
    refine ldP (v := v) hns₃ (by with_unfolding_all rfl) ?_ rfl (by with_unfolding_all rfl) (by decide)
    refine args_nil ⟨hu, ?_⟩
    refine call_mw M T (((kb.old hk).old k₂).old k₃) (k₃ _ _ hx₂) hu (one_ok v) fun h₄ t1 k₄ hx₄ => ?_
    have kb₄ : Bs base h₄ := (((kb.old hk).old k₂).old k₃).but hbx k₄
    have Lx : hp.objs.size ≠ x := Nat.ne_of_gt xL
    have hns₄ : h₄.Ns hp.objs.size (fun y => ([(("self" : Str), Value.ref x), (("place" : Str), v)] : List (Str × Value)).reverse.lookup y) := by
      obtain ⟨o, es, ep, e1, e2⟩ := hns₃
      exact ⟨o, es, ep, k₄ _ _ Lx e1, e2⟩
    -- self.place = place
    refine ks_wpAt_execs_cons (ks_wpAt_Assign_Attr (wpAt_of_wpAny ?_))
    refine ldP (v := v) hns₄ (by with_unfolding_all rfl) ?_ rfl (by with_unfolding_all rfl) (by decide)
    refine ldP (v := .ref x) hns₄ (by with_unfolding_all rfl) ?_ rfl (by with_unfolding_all rfl) (by decide)
    refine set_first M T kb₄ hx₄ T.noP fun h₅ tk₅ dx I₅ => ?_
    have kb₅ : Bs base h₅ := kb₄.but hbx I₅.keep
    have hns₅ : h₅.Ns hp.objs.size (fun y => ([(("self" : Str), Value.ref x), (("place" : Str), v)] : List (Str × Value)).reverse.lookup y) := by
      obtain ⟨o, es, ep, e1, e2⟩ := hns₄
      exact ⟨o, es, ep, I₅.keep _ _ Lx e1, e2⟩
    -- self.name = ..
    refine ks_wpAt_execs_cons (ks_wpAt_Assign_Attr (wpAt_of_wpAny (wpAny_Constant_str ?_)))
    refine ldP (v := .ref x) hns₅ (by with_unfolding_all rfl) ?_ rfl (by with_unfolding_all rfl) (by decide)
    refine set_more M T kb₅ I₅.obj I₅.ns (nl := ["place"]) ?_ (by decide) T.noN fun h₆ tk₆ k₆ hn₆ => ?_
    · intro y hy
      by_cases e : y = "place"
      · rw [e]
        exact List.mem_cons_self
      · exact absurd (if_neg e) hy
    · show wpAt _ _ _ (execs [] _) _ _ _
      refine wpAt_of_wpAny (wpAny_execs_nil ?_)
      have old : ∀ b o, b ≠ x → hp.get? b = some o → h₄.get? b = some o := fun b o hb e => k₄ b o hb (kk b o (hk b o e))
      have d0 : hp.objs.size ≤ dx := by
        have z : hp.objs.size < h₄.objs.size := by
          obtain ⟨o, es, ep, e1, e2⟩ := hns₄
          exact Heap.lt_size e1
        exact Nat.le_of_lt (Nat.lt_of_lt_of_le z I₅.dnew)
      refine hq h₆ _ dx t1 _ ⟨fun b o hb e => k₆ b o (Nat.ne_of_lt (Nat.lt_of_lt_of_le (Heap.lt_size e) d0)) (I₅.keep b o hb (old b o hb e)), k₆ _ _ (Ne.symm I₅.ne) I₅.obj, d0, I₅.ne, hn₆⟩
/-- an __init__ below it: the one above, and the name anew -/
theorem init2 {R : Result → Shared → Prop} {qual qS nm nS : Str} {fC fS S C x t0 : Addr} {v : Value} {a1 a2 a3 a4 a5 a6 c1 c2 c3 c4 A1 A2 A3 A4 A5 A6 B1 B2 B3 B4 C1 C2 C3 C4 : Pos} {j J : Nat} (hst : SupT a1 a2 a3 a4 a5) (hst1 : SupT A1 A2 A3 A4 A5) (M : L2.Mod K mg base) (hsu : mg "super" = none) (hop : nsIn K cStatics "thirdparty.any" = some none) (htop : (prog.main.scope.names.lookup ("super" : Str)).isSome = false)
    (hI : ErrI K prog.main.file qual [eSup a1 a2 a3 a4 a5 a6, eSet "name" (.Constant (.str nm) j c4) c1 c2 c3] fC C) (hI1 : ErrI K prog.main.file qS [eSup A1 A2 A3 A4 A5 A6, eSet "place" (.Name "place" B4) B1 B2 B3, eSet "name" (.Constant (.str nS) J C4) C1 C2 C3] fS S)
    (hup : ks_superIn K C C "__init__" = some (some (.ref fS))) (hfn : typeIn K (.ref fS) = some (.type "function")) (hfi : fnIn K fS = true) (hme : mroIn K C (.ref C) = some true) (T : ErrC K C S) (kb : Bs base s.heap) (hx : s.heap.get? x = some (excO C t0)) (hbx : base.get? x = none) (hroom : A.depth + 1 < recursionLimit)
    (hq : ∀ h' tk dx t1 tn, Ini s.heap h' x C dx t1 (mPN nm tn v) → R (.ok (.ret .none)) { s with heap := h', toks := tk }) : codeAny (model prog w) A (.call (.ref fC) ⟨[.ref x, v], []⟩) R s := by
  obtain ⟨oc, od, kV, doc, pm, an, cda, cc, ct, osl, p1, p2, ccl, cdd, vs, ccs, tf, cl, cld, csl, cdD, h1, h2, h3, h4, h5, h6⟩ := hI
  have X : K.In s.heap := M.kin.keeps kb
  refine ks_codeAny_call_defAt (body := [eSup a1 a2 a3 a4 a5 a6, eSet "name" (.Constant (.str nm) j c4) c1 c2 c3]) (binds := [("self", .ref x), ("place", v)]) (Nat.lt_of_succ_lt hroom) (X _ _ h1) rfl (M.nolimit.keeps kb) (codeRec_of X h2) rfl (BindsTo.of_eq (by first | rfl | with_unfolding_all rfl)) (by
    show ∀ y ∈ eSc.names, y.2 ≠ .cell
    decide) (by
    intro y hy
    rcases List.mem_cons.mp hy with rfl | hy
    · with_unfolding_all rfl
    · rcases List.mem_cons.mp hy with rfl | hy
      · with_unfolding_all rfl
      · cases hy) (fun h₁ hns hk => ?_)
  obtain ⟨hp, g, dr, tk, os⟩ := s
  have hns : h₁.Ns hp.objs.size (fun y => ([(("self" : Str), Value.ref x), (("place" : Str), v)] : List (Str × Value)).reverse.lookup y) := hns
  have xL : x < hp.objs.size := Heap.lt_size hx
  have Lx : hp.objs.size ≠ x := Nat.ne_of_gt xL
  obtain ⟨pl, hpl⟩ := hst (ksEnv qual eSc hp.objs.size fC (.ref cda) cc)
  refine ks_wpAt_execs_cons (ks_wpAt_Expr_any (ks_wpAt_MethodCall (he := hpl) (sup_base (mg := mg) M hsu (kb.old hk) h1 h3 h4 h5 h6 (by simp) htop hns (by with_unfolding_all rfl) (exc_inst (hk _ _ hx)) hme fun so h₂ k₂ hso => ?_)))
  have X₂ : K.In h₂ := M.kin.keeps ((kb.old hk).old k₂)
  have hx₂ := k₂ _ _ (hk _ _ hx)
  obtain ⟨of, hof, hofc⟩ : ∃ of, h₂.get? fS = some of ∧ of.cls = .type "function" := by
    have z : (K.lookup fS).map (·.cls) = some (.type "function") := hfn
    cases e : K.lookup fS with
    | none =>
      rw [e] at z
      cases z
    | some of =>
      rw [e] at z
      exact ⟨of, X₂ _ _ e, Option.some.inj z⟩
  cases hc : clsIn K C with
  | none =>
    unfold ks_superIn at hup
    rw [hc] at hup
    cases hup
  | some cdC =>
    unfold ks_superIn at hup
    rw [hc] at hup
    refine ks_wpAny_getMethod_super hso (looks_opaque X₂ hop) (l₀ := cdC.mro) (fun A Q E s k q => wpAny_bind ((looks_clsIn X₂ hc) A _ E s k (wpAny_pure q))) rfl X₂ hup hof hofc (ks_ne X₂ (exc_inst hx₂) hc) (by decide) ?_
    have k₃ : ∀ b o, h₂.get? b = some o → (h₂.push { cls := .type "method", data := .fields #[.ref fS, .ref x] }).get? b = some o := fun b o e => Heap.get?_push_of_some _ e
    have hu : (h₂.push { cls := .type "method", data := .fields #[.ref fS, .ref x] }).get? h₂.objs.size = some (methodObj (.ref fS) (.ref x)) := Heap.get?_push_at rfl rfl
    have kk : ∀ b o, h₁.get? b = some o → (h₂.push { cls := .type "method", data := .fields #[.ref fS, .ref x] }).get? b = some o := fun b o e => k₃ b o (k₂ b o e)
    generalize hh₃ : h₂.push { cls := .type "method", data := .fields #[.ref fS, .ref x] } = h₃ at k₃ hu kk
    have hns₃ := hns.keeps kk
    have X₃ : K.In h₃ := M.kin.keeps (((kb.old hk).old k₂).old k₃)
    refine callWith_of (P := fun h => MethP K h₂.objs.size fS (.ref x) h) (args := backTo a5 (starEach [.Name "place" a4] (ksEnv qual eSc hp.objs.size fC (.ref cda) cc))) (by rfl) (keeps_M hfi) (evalArgs_plain ?_)
    show wpAny _ _ (spliced (backTo _ (starEach [.Name "place" a4] _))) _ _ _
    refine args_cons (env := ksEnv qual eSc hp.objs.size fC (.ref cda) cc) (e := .Name "place" a4) (rest := []) (pos := a5) ?_
    refine ldP (v := v) hns₃ (by with_unfolding_all rfl) ?_ rfl (by with_unfolding_all rfl) (by decide)
    refine args_nil ⟨⟨hu, X₃⟩, ?_⟩
    refine wpAny_call (method_call hu (init1 (S := S) (t0 := t0) hst1 M hsu hop htop hI1 T (((kb.old hk).old k₂).old k₃) (k₃ _ _ hx₂) hbx hroom fun h₅ tk₅ dx t1 tn I₅ => ?_))
    have kb₅ : Bs base h₅ := (((kb.old hk).old k₂).old k₃).but hbx I₅.keep
    have hns₅ : h₅.Ns hp.objs.size (fun y => ([(("self" : Str), Value.ref x), (("place" : Str), v)] : List (Str × Value)).reverse.lookup y) := by
      obtain ⟨o, es, ep, e1, e2⟩ := hns₃
      exact ⟨o, es, ep, I₅.keep _ _ Lx e1, e2⟩
    refine ks_wpAt_execs_cons (ks_wpAt_Assign_Attr (wpAt_of_wpAny (wpAny_Constant_str ?_)))
    refine ldP (v := .ref x) hns₅ (by with_unfolding_all rfl) ?_ rfl (by with_unfolding_all rfl) (by decide)
    refine set_more M T kb₅ I₅.obj I₅.ns (nl := ["name", "place"]) ?_ (by decide) T.noN fun h₆ tk₆ k₆ hn₆ => ?_
    · intro y hy
      by_cases e : y = "name"
      · rw [e]
        exact List.mem_cons_self
      · by_cases e2 : y = "place"
        · rw [e2]
          exact List.mem_cons_of_mem _ List.mem_cons_self
        · exact absurd ((if_neg e).trans (if_neg e2)) hy
    · show wpAt _ _ _ (execs [] _) _ _ _
      refine wpAt_of_wpAny (wpAny_execs_nil ?_)
      have d0 : hp.objs.size ≤ dx := by
        have z : hp.objs.size < h₃.objs.size := by
          obtain ⟨o, es, ep, e1, e2⟩ := hns₃
          exact Heap.lt_size e1
        exact Nat.le_of_lt (Nat.lt_of_lt_of_le z I₅.dnew)
      have em : ∀ t', (fun (y : Str) => if y = "name" then some (Value.str nm t') else mPN nS tn v y) = mPN nm t' v := fun t' => by
        funext y
        unfold mPN
        by_cases e : y = "name"
        · rw [if_pos e, if_pos e]
        · rw [if_neg e, if_neg e, if_neg e]
      rw [em] at hn₆
      exact hq h₆ _ dx t1 _ ⟨fun b o hb e => k₆ b o (Nat.ne_of_lt (Nat.lt_of_lt_of_le (Heap.lt_size e) d0)) (I₅.keep b o hb (kk b o (hk b o e))), k₆ _ _ (Ne.symm I₅.ne) I₅.obj, d0, I₅.ne, hn₆⟩
end
end DLX
end PySem

end
section
set_option Elab.async false
set_option linter.all false
set_option maxRecDepth 100000
/-! values as data: what a body computes, without a heap -/
namespace DL
open PySem PySem.Spec PyProof.Rows L2

abbrev D := PyData
/-! ### data and the heap -/
def Ext (F H : Hp) : Prop := ∀ a o, F a = some o → H a = some o
theorem Ext.refl (H : Hp) : Ext H H := fun _ _ h => h
theorem Ext.trans {F G H : Hp} (a : Ext F G) (b : Ext G H) : Ext F H := fun x o h => b x o (a x o h)
theorem Ext.new {H : Hp} {p : Addr} {o : HO} (h : H p = none) : Ext H (upd H p o) := fun a u e => by
  rw [upd_ne (ne_of_none e h)]
  exact e
theorem Ext.rd {F H : Hp} {a : Addr} {u : HO} (e : Ext F H) (h : Rd F a u) : Rd H a u := by
  rcases h with h | ⟨o, h⟩
  · exact .inl (e a _ h)
  · exact .inr ⟨o, e a _ h⟩
theorem Ext.sql {K : PySem.W.Frag} {F H : Hp} {a : Addr} {xs : List V} (e : Ext F H) (h : SqL K F a xs) : SqL K H a xs := h.imp e.rd id
theorem Ext.tups {K : PySem.W.Frag} {F H : Hp} {a : Addr} {xs : List V} (e : Ext F H) (h : TupS K F a xs) : TupS K H a xs := h.imp (fun ⟨o, h, d⟩ => ⟨o, e a _ h, d⟩) id
theorem Ext.sqt {K : PySem.W.Frag} {F H : Hp} {a : Addr} {xs : List V} (e : Ext F H) (h : SqT K F a xs) : SqT K H a xs := h.imp e.rd id

mutual
/-- the value v is the data d, by the objects of F -/
inductive DR (K : PySem.W.Frag) (F : Hp) : V → D → Prop
  | non : DR K F .non .none
  | bl (b : Bool) : DR K F (.bl b) (.bool b)
  | int (i : Int) : DR K F (.int i) (.int i)
  | str (x : Str) : DR K F (.str x) (.str x)
  | lst {a : Addr} {xs : List V} {ds : List D} : F a = some (.lst xs) → DRs K F xs ds → DR K F (.ref a) (.list ds)
  | tup {a : Addr} {xs : List V} {ds : List D} : TupS K F a xs → DRs K F xs ds → DR K F (.ref a) (.tuple ds)
inductive DRs (K : PySem.W.Frag) (F : Hp) : List V → List D → Prop
  | nil : DRs K F [] []
  | cons {v : V} {vs : List V} {d : D} {ds : List D} : DR K F v d → DRs K F vs ds → DRs K F (v :: vs) (d :: ds)
end
mutual
theorem DR.mono {K : PySem.W.Frag} {F H : Hp} (e : Ext F H) : ∀ {d : D} {v : V}, DR K F v d → DR K H v d
  | .none, _, h => by cases h; exact .non
  | .bool b, _, h => by cases h; exact .bl b
  | .int i, _, h => by cases h; exact .int i
  | .str x, _, h => by cases h; exact .str x
  | .list ds, _, h => by
    cases h with
    | lst h1 h2 => exact .lst (e _ _ h1) (DRs.mono e h2)
  | .tuple ds, _, h => by
    cases h with
    | tup h1 h2 => exact .tup (e.tups h1) (DRs.mono e h2)
  | .dict _, _, h => by cases h
theorem DRs.mono {K : PySem.W.Frag} {F H : Hp} (e : Ext F H) : ∀ {ds : List D} {vs : List V}, DRs K F vs ds → DRs K H vs ds
  | [], _, h => by cases h; exact .nil
  | d :: ds, _, h => by
    cases h with
    | cons h1 h2 => exact .cons (DR.mono e h1) (DRs.mono e h2)
end
mutual
theorem DR.dp {K : PySem.W.Frag} {F : Hp} : ∀ {d : D} {v : V}, DR K F v d → Dp K F v d
  | .none, _, h => by cases h; exact .non
  | .bool b, _, h => by cases h; exact .bl b
  | .int i, _, h => by cases h; exact .int i
  | .str x, _, h => by cases h; exact .str x
  | .list ds, _, h => by
    cases h with
    | lst h1 h2 => exact .lst (SqL.of h1) (DRs.dp h2)
  | .tuple ds, _, h => by
    cases h with
    | tup h1 h2 => exact .tup h1.sqt (DRs.dp h2)
  | .dict _, _, h => by cases h
theorem DRs.dp {K : PySem.W.Frag} {F : Hp} : ∀ {ds : List D} {vs : List V}, DRs K F vs ds → DpAll K F vs ds
  | [], _, h => by cases h; exact .nil
  | d :: ds, _, h => by
    cases h with
    | cons h1 h2 => exact .cons (DR.dp h1) (DRs.dp h2)
end
theorem DRs.length {K : PySem.W.Frag} {F : Hp} : ∀ {ds : List D} {vs : List V}, DRs K F vs ds → vs.length = ds.length
  | [], _, h => by cases h; rfl
  | d :: ds, _, h => by
    cases h with
    | cons h1 h2 => simp only [List.length_cons]; rw [DRs.length h2]
theorem DRs.get {K : PySem.W.Frag} {F : Hp} : ∀ {ds : List D} {vs : List V} {i : Nat} {d : D}, DRs K F vs ds → ds[i]? = some d → ∃ v, vs[i]? = some v ∧ DR K F v d
  | [], _, _, _, _, e => by simp at e
  | d :: ds, _, i, z, h, e => by
    cases h with
    | cons h1 h2 =>
      cases i with
      | zero =>
        have e' : d = z := by simpa using e
        subst e'
        exact ⟨_, rfl, h1⟩
      | succ i => exact DRs.get (i := i) h2 (by simpa using e)
theorem DRs.getV {K : PySem.W.Frag} {F : Hp} : ∀ {ds : List D} {vs : List V} {i : Nat} {v : V}, DRs K F vs ds → vs[i]? = some v → ∃ d, ds[i]? = some d ∧ DR K F v d
  | [], _, _, _, h, e => by cases h; simp at e
  | d :: ds, _, i, z, h, e => by
    cases h with
    | cons h1 h2 =>
      cases i with
      | zero =>
        have e' := Option.some.inj (show some _ = some z from e)
        subst e'
        exact ⟨_, rfl, h1⟩
      | succ i => exact DRs.getV (i := i) h2 (by simpa using e)
theorem DRs.set {K : PySem.W.Frag} {F : Hp} {v : V} {d : D} (h : DR K F v d) : ∀ {ds : List D} {vs : List V} (i : Nat), DRs K F vs ds → DRs K F (vs.set i v) (ds.set i d)
  | [], _, _, q => by cases q; exact .nil
  | _ :: ds, _, i, q => by
    cases q with
    | cons h1 h2 =>
      cases i with
      | zero => exact .cons h h2
      | succ i => exact .cons h1 (DRs.set h i h2)
theorem DRs.append {K : PySem.W.Frag} {F : Hp} : ∀ {ds es : List D} {vs ws : List V}, DRs K F vs ds → DRs K F ws es → DRs K F (vs ++ ws) (ds ++ es)
  | [], _, _, _, h, q => by cases h; exact q
  | _ :: ds, _, _, _, h, q => by
    cases h with
    | cons h1 h2 => exact .cons h1 (DRs.append h2 q)
theorem DRs.take {K : PySem.W.Frag} {F : Hp} : ∀ {ds : List D} {vs : List V} (n : Nat), DRs K F vs ds → DRs K F (vs.take n) (ds.take n)
  | _, _, 0, _ => by simp only [List.take_zero]; exact .nil
  | [], _, n + 1, h => by cases h; exact .nil
  | _ :: ds, _, n + 1, h => by
    cases h with
    | cons h1 h2 => exact .cons h1 (DRs.take n h2)
theorem DRs.drop {K : PySem.W.Frag} {F : Hp} : ∀ {ds : List D} {vs : List V} (n : Nat), DRs K F vs ds → DRs K F (vs.drop n) (ds.drop n)
  | _, _, 0, h => h
  | [], _, n + 1, h => by cases h; exact .nil
  | _ :: ds, _, n + 1, h => by
    cases h with
    | cons h1 h2 => exact DRs.drop n h2
theorem DRs.reverse {K : PySem.W.Frag} {F : Hp} : ∀ {ds : List D} {vs : List V}, DRs K F vs ds → DRs K F vs.reverse ds.reverse
  | [], _, h => by cases h; exact .nil
  | d :: ds, _, h => by
    cases h with
    | cons h1 h2 =>
      rw [List.reverse_cons, List.reverse_cons]
      exact DRs.append (DRs.reverse h2) (.cons h1 .nil)
theorem DRs.ints {K : PySem.W.Frag} {F : Hp} : ∀ ns : List Int, DRs K F (ns.map V.int) (ns.map PyData.int)
  | [] => .nil
  | n :: ns => .cons (.int n) (DRs.ints ns)

/-! ### values of a frame -/
/-- what a name or an expression holds: data, or the j-th list of the store -/
inductive RV where
  | d (d : D)
  | m (j : Nat)
  /-- the script: a list that is locked -/
  | s (ns : List Int)
/-- a thing that changes -/
inductive Cell where
  | lst (ds : List D)
abbrev Sto := List Cell
abbrev Env := List (Option RV)
def CellR (K : PySem.W.Frag) (F : Hp) : Cell → HO → Prop
  | .lst ds, o => ∃ vs, o = .lst vs ∧ DRs K F vs ds
theorem CellR.mono {K : PySem.W.Frag} {F F' : Hp} (e : Ext F F') {c : Cell} {o : HO} (h : CellR K F c o) : CellR K F' c o := by
  cases c with
  | lst ds =>
    obtain ⟨vs, h1, h2⟩ := h
    exact ⟨vs, h1, h2.mono e⟩
/-- plain objects: neither tables nor things told by what is true of them -/
def Plain : HO → Prop
  | .tbl _ => False
  | .ext _ => False
  | _ => True
theorem CellR.plain {K : PySem.W.Frag} {F : Hp} {c : Cell} {o : HO} (h : CellR K F c o) : Plain o := by
  cases c with
  | lst ds =>
    obtain ⟨vs, rfl, _⟩ := h
    exact trivial
/-- what is fixed: the written part, the module's names, the tables of code objects -/
structure G where
  K : PySem.W.Frag
  mg : Str → Option Value
  T : List (Addr × Str)
structure SRel (g : G) (P F : Hp) (A : List Addr) (S : Sto) (H : Hp) : Prop where
  sub : Ext F H
  pl : ∀ a o, F a = some o → Plain o
  len : A.length = S.length
  nd : A.Nodup
  cell : ∀ (j : Nat) (a : Addr) (c : Cell), A[j]? = some a → S[j]? = some c → F a = none ∧ ∃ o, H a = some o ∧ CellR g.K F c o
  tabs : LamX.Tabs g.T H
  pin : ∀ a o, P a = some o → H a = some o ∧ F a = none ∧ a ∉ A ∧ Plain o
def RR (K : PySem.W.Frag) (F : Hp) (A : List Addr) : RV → V → Prop
  | .d d, v => DR K F v d
  | .m j, v => ∃ a, A[j]? = some a ∧ v = .ref a
  | .s ns, v => ∃ a, v = .ref a ∧ SqL K F a (ns.map V.int)
structure ERel (g : G) (F : Hp) (A : List Addr) (ρ : Env) (σ : L2.St) : Prop where
  len : ρ.length = σ.length
  at_ : ∀ (i : Nat) (r : RV), ρ[i]? = some (some r) → ∃ v, σ[i]? = some (some v) ∧ RR g.K F A r v

/-- A' begins with A -/
abbrev Pre (A A' : List Addr) : Prop := A <+: A'
theorem pre_get {A A' : List Addr} (p : A <+: A') {j : Nat} {a : Addr} (h : A[j]? = some a) : A'[j]? = some a := by
  obtain ⟨t, rfl⟩ := p
  rw [List.getElem?_append_left (List.getElem?_eq_some_iff.mp h).1]
  exact h
theorem RR.mono {K : PySem.W.Frag} {F F' : Hp} {A A' : List Addr} (e : Ext F F') (p : A <+: A') {r : RV} {v : V} (h : RR K F A r v) : RR K F' A' r v := by
  cases r with
  | d d => exact DR.mono e h
  | m j =>
    obtain ⟨a, h1, h2⟩ := h
    exact ⟨a, pre_get p h1, h2⟩
  | s ns =>
    obtain ⟨a, h1, h2⟩ := h
    exact ⟨a, h1, e.sql h2⟩
theorem ERel.mono {g : G} {F F' : Hp} {A A' : List Addr} {ρ : Env} {σ : L2.St} (e : Ext F F') (p : A <+: A') (h : ERel g F A ρ σ) : ERel g F' A' ρ σ :=
  ⟨h.len, fun i r q => let ⟨v, h1, h2⟩ := h.at_ i r q; ⟨v, h1, h2.mono e p⟩⟩
theorem ERel.set {g : G} {F : Hp} {A : List Addr} {ρ : Env} {σ : L2.St} {i : Nat} {r : RV} {v : V} (h : ERel g F A ρ σ) (q : RR g.K F A r v) : ERel g F A (ρ.set i (some r)) (σ.set i (some v)) := by
  refine ⟨by rw [List.length_set, List.length_set, h.len], fun j r' e => ?_⟩
  by_cases hj : i = j
  · subst hj
    by_cases hl : i < ρ.length
    · rw [List.getElem?_set_self hl] at e
      cases e
      exact ⟨v, by rw [List.getElem?_set_self (by rw [← h.len]; exact hl)], q⟩
    · rw [List.getElem?_eq_none (by simpa using hl)] at e
      cases e
  · rw [List.getElem?_set_ne hj] at e ⊢
    exact h.at_ j r' e
theorem ERel.unset {g : G} {F : Hp} {A : List Addr} {ρ : Env} {σ : L2.St} {i : Nat} (h : ERel g F A ρ σ) : ERel g F A (ρ.set i none) (σ.set i none) := by
  refine ⟨by rw [List.length_set, List.length_set, h.len], fun j r' e => ?_⟩
  by_cases hj : i = j
  · subst hj
    by_cases hl : i < ρ.length
    · rw [List.getElem?_set_self hl] at e
      cases e
    · rw [List.getElem?_eq_none (by simpa using hl)] at e
      cases e
  · rw [List.getElem?_set_ne hj] at e ⊢
    exact h.at_ j r' e

/-! ### the store's relation through what happens to the heap -/
section
variable {g : G} {P F H : Hp} {A : List Addr} {S : Sto}
theorem tabs_keep {T : List (Addr × Str)} {H H' : Hp} (t : LamX.Tabs T H) (e : ∀ b o, H b = some o → ¬ Plain o → H' b = some o) : LamX.Tabs T H' := fun p hp => by
  obtain ⟨ps, h1, h2, h3⟩ := t p hp
  refine ⟨ps, e _ _ h1 (fun z => z), h2, fun pos cv hc => ?_⟩
  obtain ⟨c, e1, e2⟩ := h3 pos cv hc
  exact ⟨c, e1, e _ _ e2 (fun z => z)⟩
/-- a new object, not looked at -/
theorem SRel.grow {H' : Hp} (r : SRel g P F A S H) (e : Ext H H') : SRel g P F A S H' :=
  ⟨r.sub.trans e, r.pl, r.len, r.nd, fun j a c h1 h2 => let ⟨f, o, h3, h4⟩ := r.cell j a c h1 h2; ⟨f, o, e _ _ h3, h4⟩, r.tabs.ext e, fun a o q => let ⟨h1, h2⟩ := r.pin a o q; ⟨e _ _ h1, h2⟩⟩
/-- an object that stands and is no cell is data from now on -/
theorem SRel.freeze {p : Addr} {o : HO} (r : SRel g P F A S H) (hP : P p = none) (hp : F p = none) (hA : p ∉ A) (hH : H p = some o) (ho : Plain o) : SRel g P (upd F p o) A S H := by
  refine ⟨fun a u e => ?_, fun a u e => ?_, r.len, r.nd, fun j a c h1 h2 => ?_, r.tabs, fun a u q => ?_⟩
  · by_cases h : a = p
    · subst h
      rw [upd_same] at e
      cases e
      exact hH
    · rw [upd_ne h] at e
      exact r.sub a u e
  · by_cases h : a = p
    · subst h
      rw [upd_same] at e
      cases e
      exact ho
    · rw [upd_ne h] at e
      exact r.pl a u e
  · obtain ⟨f, u, h3, h4⟩ := r.cell j a c h1 h2
    have ne : a ≠ p := fun z => hA (z ▸ List.mem_of_getElem? h1)
    exact ⟨by rw [upd_ne ne]; exact f, u, h3, h4.mono (Ext.new hp)⟩
  · obtain ⟨h1, h2, h3, h4⟩ := r.pin a u q
    exact ⟨h1, by rw [upd_ne (fun z => by rw [z, hP] at q; cases q)]; exact h2, h3, h4⟩
/-- a new object is data from now on -/
theorem SRel.new {p : Addr} {o : HO} (r : SRel g P F A S H) (hp : H p = none) (ho : Plain o) : SRel g P (upd F p o) A S (upd H p o) := by
  have fp : F p = none := by
    cases q : F p with
    | none => rfl
    | some u =>
      rw [r.sub p u q] at hp
      cases hp
  refine (r.grow (Ext.new hp)).freeze (by
    cases q : P p with
    | none => rfl
    | some u =>
      rw [(r.pin p u q).1] at hp
      cases hp) fp (fun hm => ?_) upd_same ho
  obtain ⟨j, hj⟩ := List.getElem?_of_mem hm
  have hl : j < S.length := by
    rw [← r.len]
    exact (List.getElem?_eq_some_iff.mp hj).1
  obtain ⟨_, u, h3, _⟩ := r.cell j p S[j] hj (List.getElem?_eq_getElem hl)
  rw [hp] at h3
  cases h3
theorem SRel.fresh (r : SRel g P F A S H) {p : Addr} (hp : H p = none) : F p = none ∧ p ∉ A ∧ P p = none := by
  refine ⟨?_, fun hm => ?_, ?_⟩
  · cases q : F p with
    | none => rfl
    | some u =>
      rw [r.sub p u q] at hp
      cases hp
  · obtain ⟨j, hj⟩ := List.getElem?_of_mem hm
    have hl : j < S.length := by
      rw [← r.len]
      exact (List.getElem?_eq_some_iff.mp hj).1
    obtain ⟨_, u, h3, _⟩ := r.cell j p S[j] hj (List.getElem?_eq_getElem hl)
    rw [hp] at h3
    cases h3
  · cases q : P p with
    | none => rfl
    | some u =>
      rw [(r.pin p u q).1] at hp
      cases hp
/-- a cell is written -/
theorem SRel.write {j : Nat} {a : Addr} {c : Cell} {o : HO} (r : SRel g P F A S H) (hj : A[j]? = some a) (hc : CellR g.K F c o) : SRel g P F A (S.set j c) (upd H a o) := by
  have hjA := (List.getElem?_eq_some_iff.mp hj).1
  have hl : j < S.length := by
    rw [← r.len]
    exact hjA
  obtain ⟨fa, u, h3, h4⟩ := r.cell j a S[j] hj (List.getElem?_eq_getElem hl)
  refine ⟨fun b v e => ?_, r.pl, by rw [List.length_set]; exact r.len, r.nd, fun k b c' h1 h2 => ?_, tabs_keep r.tabs (fun b v e np => ?_), fun b v q => ?_⟩
  · rw [upd_ne (fun z => by rw [z, fa] at e; cases e)]
    exact r.sub b v e
  · by_cases hk : j = k
    · subst hk
      rw [hj] at h1
      cases h1
      rw [List.getElem?_set_self hl] at h2
      cases h2
      exact ⟨fa, o, upd_same, hc⟩
    · rw [List.getElem?_set_ne hk] at h2
      obtain ⟨f, v, q1, q2⟩ := r.cell k b c' h1 h2
      have ne : b ≠ a := fun z => by
        subst z
        obtain ⟨x1, y1⟩ := List.getElem?_eq_some_iff.mp h1
        obtain ⟨x2, y2⟩ := List.getElem?_eq_some_iff.mp hj
        exact hk ((List.getElem_inj r.nd).mp (y2.trans y1.symm))
      exact ⟨f, v, by rw [upd_ne ne]; exact q1, q2⟩
  · rw [upd_ne (fun z => by
      subst z
      rw [h3] at e
      cases e
      exact np h4.plain)]
    exact e
  · obtain ⟨h1, h2, h5, h6⟩ := r.pin b v q
    exact ⟨by rw [upd_ne (show b ≠ a from fun z => h5 (by rw [z]; exact List.mem_of_getElem? hj))]; exact h1, h2, h5, h6⟩
/-- an object that stands is a cell from now on -/
theorem SRel.push {p : Addr} {c : Cell} {o : HO} (r : SRel g P F A S H) (hP : P p = none) (hp : F p = none) (hA : p ∉ A) (hH : H p = some o) (hc : CellR g.K F c o) : SRel g P F (A ++ [p]) (S ++ [c]) H := by
  refine ⟨r.sub, r.pl, by rw [List.length_append, List.length_append, r.len]; rfl, ?_, fun k b c' h1 h2 => ?_, r.tabs, fun b v q => ?_⟩
  · rw [List.nodup_append]
    refine ⟨r.nd, by simp, fun x hx y hy => ?_⟩
    have ey : y = p := by simpa using hy
    subst ey
    exact fun z => hA (z ▸ hx)
  · by_cases hk : k < A.length
    · rw [List.getElem?_append_left hk] at h1
      rw [List.getElem?_append_left (by rw [← r.len]; exact hk)] at h2
      exact r.cell k b c' h1 h2
    · have hk' : k = A.length := by
        have q := (List.getElem?_eq_some_iff.mp h1).1
        rw [List.length_append, List.length_singleton] at q
        omega
      subst hk'
      rw [List.getElem?_append_right (Nat.le_refl _), Nat.sub_self] at h1
      rw [List.getElem?_append_right (by rw [r.len]; exact Nat.le_refl _), r.len, Nat.sub_self] at h2
      have e1 := Option.some.inj (show some p = some b from h1)
      have e2 := Option.some.inj (show some c = some c' from h2)
      subst e1 e2
      exact ⟨hp, o, hH, hc⟩
  · obtain ⟨h1, h2, h5, h6⟩ := r.pin b v q
    refine ⟨h1, h2, fun z => ?_, h6⟩
    rcases List.mem_append.mp z with z | z
    · exact h5 z
    · have z' : b = p := by simpa using z
      rw [z', hP] at q
      cases q
/-- the cells behind the n-th are forgotten -/
theorem SRel.drop (r : SRel g P F A S H) (n : Nat) : SRel g P F (A.take n) (S.take n) H := by
  refine ⟨r.sub, r.pl, by rw [List.length_take, List.length_take, r.len], r.nd.sublist (List.take_sublist _ _), fun k b c h1 h2 => ?_, r.tabs, fun b v q => let ⟨h1, h2, h5, h6⟩ := r.pin b v q; ⟨h1, h2, fun z => h5 (List.mem_of_mem_take z), h6⟩⟩
  rw [List.getElem?_take] at h1 h2
  by_cases hk : k < n
  · rw [if_pos hk] at h1 h2
    exact r.cell k b c h1 h2
  · rw [if_neg hk] at h1
    cases h1
end

/-! ### what is read at a value -/
/-- a value as it is read now: a list may be a cell -/
def RD (K : PySem.W.Frag) (F H : Hp) (v : V) : D → Prop
  | .list ds => ∃ a vs, v = .ref a ∧ H a = some (.lst vs) ∧ DRs K F vs ds
  | d => DR K F v d
def val (S : Sto) : RV → Option D
  | .d d => some d
  | .m j => match S[j]? with
    | some (.lst ds) => some (.list ds)
    | none => none
  | .s _ => none
theorem val_d (S : Sto) (d : D) : val S (.d d) = some d := rfl
section
variable {g : G} {P F H : Hp} {A : List Addr} {S : Sto}
theorem SRel.read (r : SRel g P F A S H) {x : RV} {v : V} {d : D} (h : RR g.K F A x v) (e : val S x = some d) : RD g.K F H v d := by
  cases x with
  | d dd =>
    obtain rfl : dd = d := Option.some.inj e
    cases dd with
    | list ds =>
      cases h with
      | lst h1 h2 => exact ⟨_, _, rfl, r.sub _ _ h1, h2⟩
    | _ => exact h
  | m j =>
    obtain ⟨a, h1, rfl⟩ := h
    have hl : j < S.length := by
      rw [← r.len]
      exact (List.getElem?_eq_some_iff.mp h1).1
    obtain ⟨_, o, h3, h4⟩ := r.cell j a S[j] h1 (List.getElem?_eq_getElem hl)
    have e2 : (match S[j]? with
      | some (.lst ds) => some (PyData.list ds)
      | none => none) = some d := e
    rw [List.getElem?_eq_getElem hl] at e2
    cases hc : S[j] with
    | lst ds =>
      rw [hc] at e2 h4
      obtain rfl := Option.some.inj e2
      obtain ⟨vs, rfl, h5⟩ := h4
      exact ⟨a, vs, rfl, h3, h5⟩
  | s ns => cases e
theorem RD.dp {K : PySem.W.Frag} (e : Ext F H) {v : V} {d : D} (h : RD K F H v d) : Dp K H v d := by
  cases d with
  | list ds =>
    obtain ⟨a, vs, rfl, h1, h2⟩ := h
    exact .lst (SqL.of h1) (h2.mono e).dp
  | _ => exact (DR.mono e h).dp
end
end DL

end
section
set_option Elab.async false
set_option linter.all false
set_option maxRecDepth 100000
set_option maxHeartbeats 1000000
namespace DL
open PySem PySem.Spec PyProof.Rows L2
abbrev LSt := L2.St

/-! ### what comes of an expression -/
inductive EOut where
  | ok (r : RV) (S : Sto)
  | exc (c : Str) (p : D) (S : Sto)
  | no
inductive AOut where
  | ok (rs : List RV) (S : Sto)
  | exc (c : Str) (p : D) (S : Sto)
  | no
abbrev Den := Env → Sto → EOut
abbrev DenA := Env → Sto → AOut
def XcOk (g : G) (W : WX) (P F : Hp) (A : List Addr) (σ : LSt) (c : Str) (p : D) (S' : Sto) : Prop :=
  ∀ F' A' H' C dx fs pv, Ext F F' → A <+: A' → SRel g P F' A' S' H' → g.mg c = some (.ref C) → H' dx = some (.xd fs) → fs.lookup ("place" : Str) = some pv → DR g.K F' pv p → W (.ref C) (some dx) σ H'
def DOk (g : G) (W : WX) (P F : Hp) (A : List Addr) (σ : LSt) : EOut → VK → Prop
  | .ok r S', Q => ∀ F' A' H' v, Ext F F' → A <+: A' → SRel g P F' A' S' H' → RR g.K F' A' r v → Q v H'
  | .exc c p S', _ => XcOk g W P F A σ c p S'
  | .no, _ => False
def tD (g : G) (W : WX) (f : Den) : TE := fun σ H Q => ∃ P F A ρ S, SRel g P F A S H ∧ ERel g F A ρ σ ∧ DOk g W P F A σ (f ρ S) Q
/-- .. a new list of its own -/
def FOk (g : G) (W : WX) (P F : Hp) (A : List Addr) (σ : LSt) : EOut → VK → Prop
  | .ok (.d (.list ds)) S', Q => ∀ F' A' H' p vs, Ext F F' → A <+: A' → SRel g P F' A' S' H' → H' p = some (.lst vs) → DRs g.K F' vs ds → F' p = none → p ∉ A' → P p = none → Q (.ref p) H'
  | .ok _ _, _ => False
  | .exc c p S', _ => XcOk g W P F A σ c p S'
  | .no, _ => False
def tF (g : G) (W : WX) (f : Den) : TE := fun σ H Q => ∃ P F A ρ S, SRel g P F A S H ∧ ERel g F A ρ σ ∧ FOk g W P F A σ (f ρ S) Q
/-- a test -/
def BOk (g : G) (W : WX) (P F : Hp) (A : List Addr) (σ : LSt) : EOut → (Bool → Hp → Prop) → Prop
  | .ok (.d (.bool b)) S', Q => ∀ F' A' H', Ext F F' → A <+: A' → SRel g P F' A' S' H' → Q b H'
  | .ok _ _, _ => False
  | .exc c p S', _ => XcOk g W P F A σ c p S'
  | .no, _ => False
def tB' (g : G) (W : WX) (f : Den) : TT := fun σ H Q => ∃ P F A ρ S, SRel g P F A S H ∧ ERel g F A ρ σ ∧ BOk g W P F A σ (f ρ S) Q
def RRs (K : PySem.W.Frag) (F : Hp) (A : List Addr) : List RV → List V → Prop
  | [], [] => True
  | r :: rs, v :: vs => RR K F A r v ∧ RRs K F A rs vs
  | _, _ => False
def AOk (g : G) (W : WX) (P F : Hp) (A : List Addr) (σ : LSt) : AOut → (List V → Hp → Prop) → Prop
  | .ok rs S', Q => ∀ F' A' H' vs, Ext F F' → A <+: A' → SRel g P F' A' S' H' → RRs g.K F' A' rs vs → Q vs H'
  | .exc c p S', _ => XcOk g W P F A σ c p S'
  | .no, _ => False
def tA (g : G) (W : WX) (f : DenA) : TA := fun σ H Q => ∃ P F A ρ S, SRel g P F A S H ∧ ERel g F A ρ σ ∧ AOk g W P F A σ (f ρ S) Q

theorem RRs.mono {K : PySem.W.Frag} {F F' : Hp} {A A' : List Addr} (e : Ext F F') (p : A <+: A') : ∀ {rs : List RV} {vs : List V}, RRs K F A rs vs → RRs K F' A' rs vs
  | [], [], _ => trivial
  | _ :: _, _ :: _, h => ⟨h.1.mono e p, RRs.mono e p h.2⟩
  | [], _ :: _, h => h.elim
  | _ :: _, [], h => h.elim
theorem RRs.length {K : PySem.W.Frag} {F : Hp} {A : List Addr} : ∀ {rs : List RV} {vs : List V}, RRs K F A rs vs → vs.length = rs.length
  | [], [], _ => rfl
  | _ :: _, _ :: _, h => by simp only [List.length_cons]; rw [RRs.length h.2]
  | [], _ :: _, h => h.elim
  | _ :: _, [], h => h.elim

section
variable {g : G} {W : WX} {P F F' H : Hp} {A A' : List Addr} {σ : LSt} {S : Sto} {ρ : Env}
theorem XcOk.mono {c : Str} {p : D} (e : Ext F F') (q : A <+: A') (h : XcOk g W P F A σ c p S) : XcOk g W P F' A' σ c p S :=
  fun F2 A2 H2 C dx fs pv e2 p2 r hm hx hf hd => h F2 A2 H2 C dx fs pv (e.trans e2) (q.trans p2) r hm hx hf hd
theorem DOk.mono {Q : VK} (e : Ext F F') (q : A <+: A') : ∀ {o : EOut}, DOk g W P F A σ o Q → DOk g W P F' A' σ o Q
  | .ok _ _, h => fun F2 A2 H2 v e2 p2 => h F2 A2 H2 v (e.trans e2) (q.trans p2)
  | .exc _ _ _, h => XcOk.mono e q h
  | .no, h => h
theorem FOk.mono {Q : VK} (e : Ext F F') (q : A <+: A') : ∀ {o : EOut}, FOk g W P F A σ o Q → FOk g W P F' A' σ o Q
  | .ok (.d (.list _)) _, h => fun F2 A2 H2 p vs e2 p2 => h F2 A2 H2 p vs (e.trans e2) (q.trans p2)
  | .ok (.d .none) _, h => h
  | .ok (.d (.bool _)) _, h => h
  | .ok (.d (.int _)) _, h => h
  | .ok (.d (.str _)) _, h => h
  | .ok (.d (.tuple _)) _, h => h
  | .ok (.d (.dict _)) _, h => h
  | .ok (.m _) _, h => h
  | .ok (.s _) _, h => h
  | .exc _ _ _, h => XcOk.mono e q h
  | .no, h => h
theorem BOk.mono {Q : Bool → Hp → Prop} (e : Ext F F') (q : A <+: A') : ∀ {o : EOut}, BOk g W P F A σ o Q → BOk g W P F' A' σ o Q
  | .ok (.d (.bool _)) _, h => fun F2 A2 H2 e2 p2 => h F2 A2 H2 (e.trans e2) (q.trans p2)
  | .ok (.d .none) _, h => h
  | .ok (.d (.list _)) _, h => h
  | .ok (.d (.int _)) _, h => h
  | .ok (.d (.str _)) _, h => h
  | .ok (.d (.tuple _)) _, h => h
  | .ok (.d (.dict _)) _, h => h
  | .ok (.m _) _, h => h
  | .ok (.s _) _, h => h
  | .exc _ _ _, h => XcOk.mono e q h
  | .no, h => h
theorem AOk.mono {Q : List V → Hp → Prop} (e : Ext F F') (q : A <+: A') : ∀ {o : AOut}, AOk g W P F A σ o Q → AOk g W P F' A' σ o Q
  | .ok _ _, h => fun F2 A2 H2 vs e2 p2 => h F2 A2 H2 vs (e.trans e2) (q.trans p2)
  | .exc _ _ _, h => XcOk.mono e q h
  | .no, h => h
end

/-! ### weaker readings -/
section
variable {X : Cx}
theorem _root_.L2.PE.le {e : Expr} {t t' : TE} (h : PE X e t) (hm : ∀ σ H Q, t' σ H Q → t σ H Q) : PE X e t' := ⟨fun pins s σ H Q I q => h.run pins s σ H Q I (hm σ H Q q)⟩
theorem _root_.L2.PT.le {e : Expr} {t t' : TT} (h : PT X e t) (hm : ∀ σ H Q, t' σ H Q → t σ H Q) : PT X e t' := ⟨fun pins s σ H Q I q => h.run pins s σ H Q I (hm σ H Q q)⟩
theorem _root_.L2.PW.le {e : Expr} {t t' : TT} (h : PW X e t) (hm : ∀ σ H Q, t' σ H Q → t σ H Q) : PW X e t' := ⟨fun wh pins s σ H Q I q => h.run wh pins s σ H Q I (hm σ H Q q)⟩
theorem _root_.L2.PA.le {es : List Expr} {t t' : TA} (h : PA X es t) (hm : ∀ σ H Q, t' σ H Q → t σ H Q) : PA X es t' := ⟨fun pos pins s σ H Q I q => h.run pos pins s σ H Q I (hm σ H Q q)⟩
theorem _root_.L2.PS.le {st : Stmt} {t t' : TS} (h : PS X st t) (hm : ∀ D σ H, t' D σ H → t D σ H) : PS X st t' := ⟨fun pins s σ H D I q => h.run pins s σ H D I (hm D σ H q)⟩
theorem _root_.L2.PSs.le {st : List Stmt} {t t' : TS} (h : PSs X st t) (hm : ∀ D σ H, t' D σ H → t D σ H) : PSs X st t' := ⟨fun pins s σ H D I q => h.run pins s σ H D I (hm D σ H q)⟩
theorem _root_.L2.PG.le {e : Expr} {t t' : TG} (h : PG X e t) (hm : ∀ v σ H Q, t' v σ H Q → t v σ H Q) : PG X e t' := ⟨fun pins s σ H v u Q I r q => h.run pins s σ H v u Q I r (hm v σ H Q q)⟩
theorem _root_.L2.PI.le {tg e : Expr} {t t' : TI} (h : PI X tg e t) (hm : ∀ σ H R, t' σ H R → t σ H R) : PI X tg e t' := ⟨fun pins s σ H R I q => h.run pins s σ H R I (hm σ H R q)⟩
end
/-- what is fixed, of a context -/
abbrev gX (X : Cx) (T : List (Addr × Str)) : G := ⟨X.K, X.mg, T⟩

/-! ### one after the other -/
def eB (f : Den) (k : RV → Den) : Den := fun ρ S => match f ρ S with
  | .ok r S' => k r ρ S'
  | .exc c p S' => .exc c p S'
  | .no => .no
section
variable {g : G} {W : WX} {P F H : Hp} {A : List Addr} {σ : LSt} {S : Sto} {ρ : Env} {f : Den} {k : RV → Den} {R : VK}
/-- P: the wish for what comes in the end, any of DOk, FOk, BOk .. -/
theorem tD_bind {Z : Hp → List Addr → EOut → Prop} (hx : ∀ {c p S'}, Z F A (.exc c p S') → XcOk g W P F A σ c p S') (hn : ¬ Z F A .no) (hmono : ∀ {F' A' o}, Ext F F' → A <+: A' → Z F A o → Z F' A' o)
    (r : SRel g P F A S H) (e : ERel g F A ρ σ) (h : Z F A (eB f k ρ S))
    (hk : ∀ x S1 F1 A1 H1 v, Ext F F1 → A <+: A1 → SRel g P F1 A1 S1 H1 → ERel g F1 A1 ρ σ → RR g.K F1 A1 x v → Z F1 A1 (k x ρ S1) → R v H1) : tD g W f σ H R := by
  refine ⟨P, F, A, ρ, S, r, e, ?_⟩
  unfold eB at h
  cases hf : f ρ S with
  | ok x S1 =>
    rw [hf] at h
    exact fun F1 A1 H1 v e1 p1 r1 rr => hk x S1 F1 A1 H1 v e1 p1 r1 (e.mono e1 p1) rr (hmono e1 p1 h)
  | exc c p S1 =>
    rw [hf] at h
    exact hx h
  | no =>
    rw [hf] at h
    exact hn h
theorem tD_bD {Q : VK} (r : SRel g P F A S H) (e : ERel g F A ρ σ) (h : DOk g W P F A σ (eB f k ρ S) Q)
    (hk : ∀ x S1 F1 A1 H1 v, Ext F F1 → A <+: A1 → SRel g P F1 A1 S1 H1 → ERel g F1 A1 ρ σ → RR g.K F1 A1 x v → DOk g W P F1 A1 σ (k x ρ S1) Q → R v H1) : tD g W f σ H R :=
  tD_bind (Z := fun F A o => DOk g W P F A σ o Q) (fun h => h) (fun h => h) (fun e p h => h.mono e p) r e h hk
theorem tD_bF {Q : VK} (r : SRel g P F A S H) (e : ERel g F A ρ σ) (h : FOk g W P F A σ (eB f k ρ S) Q)
    (hk : ∀ x S1 F1 A1 H1 v, Ext F F1 → A <+: A1 → SRel g P F1 A1 S1 H1 → ERel g F1 A1 ρ σ → RR g.K F1 A1 x v → FOk g W P F1 A1 σ (k x ρ S1) Q → R v H1) : tD g W f σ H R :=
  tD_bind (Z := fun F A o => FOk g W P F A σ o Q) (fun h => h) (fun h => h) (fun e p h => h.mono e p) r e h hk
theorem tD_bB {Q : Bool → Hp → Prop} (r : SRel g P F A S H) (e : ERel g F A ρ σ) (h : BOk g W P F A σ (eB f k ρ S) Q)
    (hk : ∀ x S1 F1 A1 H1 v, Ext F F1 → A <+: A1 → SRel g P F1 A1 S1 H1 → ERel g F1 A1 ρ σ → RR g.K F1 A1 x v → BOk g W P F1 A1 σ (k x ρ S1) Q → R v H1) : tD g W f σ H R :=
  tD_bind (Z := fun F A o => BOk g W P F A σ o Q) (fun h => h) (fun h => h) (fun e p h => h.mono e p) r e h hk
end

/-! ### names and constants -/
def eVar (i : Nat) : Den := fun ρ S => match ρ[i]? with
  | some (some r) => .ok r S
  | _ => .no
def eC (d : D) : Den := fun _ S => .ok (.d d) S
section
variable {X : Cx} {T : List (Addr × Str)} {W : WX}
theorem de_var {i : Nat} {e : Expr} (h : PE X e (tVar i)) : PE X e (tD (gX X T) W (eVar i)) := h.le fun σ H Q ⟨P, F, A, ρ, S, r, er, h⟩ => by
  unfold eVar at h
  cases hi : ρ[i]? with
  | none =>
    rw [hi] at h
    exact h.elim
  | some o =>
    cases o with
    | none =>
      rw [hi] at h
      exact h.elim
    | some rv =>
      rw [hi] at h
      obtain ⟨v, h1, h2⟩ := er.at_ i rv hi
      exact ⟨v, h1, h F A H v (Ext.refl F) (List.prefix_refl A) r h2⟩
theorem de_c {v : V} {d : D} {e : Expr} (h : PE X e (tC v)) (hd : ∀ F, DR X.K F v d) : PE X e (tD (gX X T) W (eC d)) := h.le fun σ H Q ⟨P, F, A, ρ, S, r, er, h⟩ =>
  h F A H v (Ext.refl F) (List.prefix_refl A) r (hd F)
theorem de_int {i : Int} {j pos} : PE X (.Constant (.int i) j pos) (tD (gX X T) W (eC (.int i))) := de_c pe_int fun _ => .int i
theorem de_bl {b : Bool} {j pos} : PE X (.Constant (.bool b) j pos) (tD (gX X T) W (eC (.bool b))) := de_c pe_bl fun _ => .bl b
theorem de_non {j pos} : PE X (.Constant .none j pos) (tD (gX X T) W (eC .none)) := de_c pe_non fun _ => .non
theorem de_str {x : Str} {j pos} : PE X (.Constant (.str x) j pos) (tD (gX X T) W (eC (.str x))) := de_c pe_str fun _ => .str x
/-- a module's int -/
theorem de_globI {x : Str} {i : Int} {t : Tok} {pos : Pos} (hg : Gl X x) (hm : X.mg x = some (.int i t)) (hd : (x == ("__debug__" : Str)) = false := by decide) : PE X (.Name x pos) (tD (gX X T) W (eC (.int i))) :=
  de_c (v := .int i) (pe_glob hg hm ⟨t, rfl⟩ hd) fun _ => .int i

/-! ### two places -/
def eOp (op : D → D → Option D) (f f' : Den) : Den := eB f fun x => eB f' fun y => fun _ S => match val S x, val S y with
  | some a, some b => (match op a b with
    | some c => .ok (.d c) S
    | none => .no)
  | _, _ => .no
def OpD (g : G) (r : R2) (op : D → D → Option D) : Prop := ∀ P F A S H x y a b c Q, SRel g P F A S H → RD g.K F H x a → RD g.K F H y b → op a b = some c →
  (∀ F' H' v, Ext F F' → SRel g P F' A S H' → DR g.K F' v c → Q v H') → r x y H Q
/-- .. a new list -/
def OpF (g : G) (r : R2) (op : D → D → Option D) : Prop := ∀ P F A S H x y a b c Q, SRel g P F A S H → RD g.K F H x a → RD g.K F H y b → op a b = some c →
  (∀ ds H' p vs, c = .list ds → SRel g P F A S H' → H' p = some (.lst vs) → DRs g.K F vs ds → F p = none → p ∉ A → P p = none → Q (.ref p) H') → r x y H Q
theorem eOp_ok {op : D → D → Option D} {x y : RV} {S : Sto} {P : EOut → Prop} (hn : ¬ P .no) (h : P (match val S x, val S y with
  | some a, some b => (match op a b with
    | some c => EOut.ok (.d c) S
    | none => .no)
  | _, _ => .no)) : ∃ a b c, val S x = some a ∧ val S y = some b ∧ op a b = some c ∧ P (.ok (.d c) S) := by
  cases h1 : val S x with
  | none =>
    rw [h1] at h
    exact (hn h).elim
  | some a =>
    cases h2 : val S y with
    | none =>
      rw [h1, h2] at h
      exact (hn h).elim
    | some b =>
      rw [h1, h2] at h
      cases h3 : op a b with
      | none =>
        simp only [h3] at h
        exact (hn h).elim
      | some c =>
        simp only [h3] at h
        exact ⟨a, b, c, rfl, rfl, h3, h⟩
theorem tOp_D {g : G} {r : R2} {op : D → D → Option D} (ho : OpD g r op) {f f' : Den} (σ : LSt) (H : Hp) (Q : VK) (h : tD g W (eOp op f f') σ H Q) : tOp r (tD g W f) (tD g W f') σ H Q := by
  obtain ⟨P, F, A, ρ, S, sr, er, h⟩ := h
  refine tD_bD sr er h fun x S1 F1 A1 H1 v e1 p1 sr1 er1 rx h1 => ?_
  refine tD_bD sr1 er1 h1 fun y S2 F2 A2 H2 u e2 p2 sr2 er2 ry h2 => ?_
  obtain ⟨a, b, c, ha, hb, hc, h3⟩ := eOp_ok (P := fun o => DOk g W P F2 A2 σ o Q) (fun z => z) h2
  exact ho P F2 A2 S2 H2 v u a b c Q sr2 (sr2.read (rx.mono e2 p2) ha) (sr2.read ry hb) hc fun F3 H3 w e3 sr3 d => h3 F3 A2 H3 w e3 (List.prefix_refl A2) sr3 d
theorem tOp_F {g : G} {r : R2} {op : D → D → Option D} (ho : OpF g r op) {f f' : Den} (σ : LSt) (H : Hp) (Q : VK) (h : tF g W (eOp op f f') σ H Q) : tOp r (tD g W f) (tD g W f') σ H Q := by
  obtain ⟨P, F, A, ρ, S, sr, er, h⟩ := h
  refine tD_bF sr er h fun x S1 F1 A1 H1 v e1 p1 sr1 er1 rx h1 => ?_
  refine tD_bF sr1 er1 h1 fun y S2 F2 A2 H2 u e2 p2 sr2 er2 ry h2 => ?_
  obtain ⟨a, b, c, ha, hb, hc, h3⟩ := eOp_ok (P := fun o => FOk g W P F2 A2 σ o Q) (fun z => z) h2
  refine ho P F2 A2 S2 H2 v u a b c Q sr2 (sr2.read (rx.mono e2 p2) ha) (sr2.read ry hb) hc fun ds H3 p vs ec sr3 hp hd hF hA hP => ?_
  subst ec
  exact h3 F2 A2 H3 p vs (Ext.refl F2) (List.prefix_refl A2) sr3 hp hd hF hA hP
theorem de_op {op : Operator} {r : R2} {dop : D → D → Option D} {f f' : Den} {a b : Expr} {pos : Pos} (ho : OpR X (binaryOp op) r) (hd : OpD (gX X T) r dop) (ha : PE X a (tD (gX X T) W f)) (hb : PE X b (tD (gX X T) W f')) :
    PE X (.BinOp a op b pos) (tD (gX X T) W (eOp dop f f')) := (pe_op ho ha hb).le (tOp_D hd)
theorem df_op {op : Operator} {r : R2} {dop : D → D → Option D} {f f' : Den} {a b : Expr} {pos : Pos} (ho : OpR X (binaryOp op) r) (hd : OpF (gX X T) r dop) (ha : PE X a (tD (gX X T) W f)) (hb : PE X b (tD (gX X T) W f')) :
    PE X (.BinOp a op b pos) (tF (gX X T) W (eOp dop f f')) := (pe_op ho ha hb).le (tOp_F hd)
theorem de_cmp {op : CmpOp} {r : R2} {dop : D → D → Option D} {f f' : Den} {a b : Expr} {pos : Pos} (ho : OpR X (compareOp op) r) (hd : OpD (gX X T) r dop) (ha : PE X a (tD (gX X T) W f)) (hb : PE X b (tD (gX X T) W f')) (hm : behindInMarks op b = false) :
    PE X (.Compare a [op] [b] pos) (tD (gX X T) W (eOp dop f f')) := (pe_cmpR ho ha hb hm).le (tOp_D hd)
theorem tB_D {g : G} {f : Den} (σ : LSt) (H : Hp) (Q : Bool → Hp → Prop) (h : tB' g W f σ H Q) : tD g W f σ H (fun x H' => ∃ k, x = .bl k ∧ Q k H') := by
  obtain ⟨P, F, A, ρ, S, sr, er, h⟩ := h
  refine ⟨P, F, A, ρ, S, sr, er, ?_⟩
  cases hf : f ρ S with
  | ok r S1 =>
    rw [hf] at h
    cases r with
    | d d =>
      cases d with
      | bool b =>
        intro F' A' H' v e p r rr
        cases rr
        exact ⟨b, rfl, h F' A' H' e p r⟩
      | _ => exact h.elim
    | _ => exact h.elim
  | exc c p S1 =>
    rw [hf] at h
    exact h
  | no =>
    rw [hf] at h
    exact h
theorem dt_cmp {op : CmpOp} {r : R2} {dop : D → D → Option D} {f f' : Den} {a b : Expr} {pos : Pos} (ho : OpR X (compareOp op) r) (hd : OpD (gX X T) r dop) (ha : PE X a (tD (gX X T) W f)) (hb : PE X b (tD (gX X T) W f')) (hm : behindInMarks op b = false) :
    PT X (.Compare a [op] [b] pos) (tB' (gX X T) W (eOp dop f f')) := (pt_cmpR ho ha hb hm).le fun σ H Q h => tOp_D hd σ H _ (tB_D σ H Q h)
/-- any expression that hands on True or False, as a test (he by fun _ => rfl) -/
theorem dt_val {f : Den} {e : Expr} (h : PE X e (tD (gX X T) W f)) (he : ∀ whole, isTrue e X.env whole = (do let v ← whole; standAt e.pos; holding [v] (truthy v)) := by intro _; rfl) : PT X e (tB' (gX X T) W f) :=
  (pt_val h he).le fun σ H Q h => tB_D σ H Q h

/-! ### and, or, not -/
def eAnd (f f' : Den) : Den := eB f fun x => match x with
  | .d (.bool true) => f'
  | .d (.bool false) => fun _ S => .ok (.d (.bool false)) S
  | _ => fun _ _ => .no
def eOr (f f' : Den) : Den := eB f fun x => match x with
  | .d (.bool false) => f'
  | .d (.bool true) => fun _ S => .ok (.d (.bool true)) S
  | _ => fun _ _ => .no
def eNot (f : Den) : Den := eB f fun x => match x with
  | .d (.bool b) => fun _ S => .ok (.d (.bool (!b))) S
  | _ => fun _ _ => .no
def eIf (t f f' : Den) : Den := eB t fun x => match x with
  | .d (.bool true) => f
  | .d (.bool false) => f'
  | _ => fun _ _ => .no
theorem bl_of {K : PySem.W.Frag} {F : Hp} {A : List Addr} {b : Bool} {v : V} (h : RR K F A (.d (.bool b)) v) : v = .bl b := by
  cases h
  rfl
/-- a test's own wish -/
theorem tB_bind {g : G} {W : WX} {P F H : Hp} {A : List Addr} {σ : LSt} {S : Sto} {ρ : Env} {f : Den} {k : RV → Den} {R : Bool → Hp → Prop} {Z : Hp → List Addr → EOut → Prop} (hx : ∀ {c p S'}, Z F A (.exc c p S') → XcOk g W P F A σ c p S') (hn : ¬ Z F A .no)
    (hno : ∀ x, (∀ b, x ≠ .d (.bool b)) → k x = fun _ _ => .no) (hmono : ∀ {F' A' o}, Ext F F' → A <+: A' → Z F A o → Z F' A' o) (r : SRel g P F A S H) (e : ERel g F A ρ σ) (h : Z F A (eB f k ρ S))
    (hk : ∀ b S1 F1 A1 H1, Ext F F1 → A <+: A1 → SRel g P F1 A1 S1 H1 → ERel g F1 A1 ρ σ → Z F1 A1 (k (.d (.bool b)) ρ S1) → R b H1) : tB' g W f σ H R := by
  refine ⟨P, F, A, ρ, S, r, e, ?_⟩
  unfold eB at h
  cases hf : f ρ S with
  | ok x S1 =>
    rw [hf] at h
    have h : Z F A (k x ρ S1) := h
    by_cases hb : ∃ b, x = .d (.bool b)
    · obtain ⟨b, rfl⟩ := hb
      exact fun F1 A1 H1 e1 p1 r1 => hk b S1 F1 A1 H1 e1 p1 r1 (e.mono e1 p1) (hmono e1 p1 h)
    · rw [hno x fun b z => hb ⟨b, z⟩] at h
      exact (hn h).elim
  | exc c p S1 =>
    rw [hf] at h
    exact hx h
  | no =>
    rw [hf] at h
    exact (hn h).elim
theorem dw_and1 {a : Expr} {f : Den} {pos : Pos} (ha : PT X a (tB' (gX X T) W f)) : PW X (.BoolOp .And [a] pos) (tB' (gX X T) W f) := pw_and1 ha
theorem dw_or1 {a : Expr} {f : Den} {pos : Pos} (ha : PT X a (tB' (gX X T) W f)) : PW X (.BoolOp .Or [a] pos) (tB' (gX X T) W f) := pw_or1 ha
theorem dw_and {a b : Expr} {rest : List Expr} {f f' : Den} {pos : Pos} (ha : PT X a (tB' (gX X T) W f)) (hb : PW X (.BoolOp .And (b :: rest) pos) (tB' (gX X T) W f')) : PW X (.BoolOp .And (a :: b :: rest) pos) (tB' (gX X T) W (eAnd f f')) :=
  (pw_and ha hb).le fun σ H Q ⟨P, F, A, ρ, S, sr, er, h⟩ => tB_bind (Z := fun F A o => BOk _ W P F A σ o Q) (fun h => h) (fun h => h) (fun x hx => by
      split
      · exact (hx _ rfl).elim
      · exact (hx _ rfl).elim
      · rfl) (fun e p h => h.mono e p) sr er h fun b S1 F1 A1 H1 e1 p1 sr1 er1 h1 => by
    cases b with
    | true => exact ⟨P, F1, A1, ρ, S1, sr1, er1, h1⟩
    | false => exact h1 F1 A1 H1 (Ext.refl _) (List.prefix_refl _) sr1
theorem dw_or {a b : Expr} {rest : List Expr} {f f' : Den} {pos : Pos} (ha : PT X a (tB' (gX X T) W f)) (hb : PW X (.BoolOp .Or (b :: rest) pos) (tB' (gX X T) W f')) : PW X (.BoolOp .Or (a :: b :: rest) pos) (tB' (gX X T) W (eOr f f')) :=
  (pw_or ha hb).le fun σ H Q ⟨P, F, A, ρ, S, sr, er, h⟩ => tB_bind (Z := fun F A o => BOk _ W P F A σ o Q) (fun h => h) (fun h => h) (fun x hx => by
      split
      · exact (hx _ rfl).elim
      · exact (hx _ rfl).elim
      · rfl) (fun e p h => h.mono e p) sr er h fun b S1 F1 A1 H1 e1 p1 sr1 er1 h1 => by
    cases b with
    | false => exact ⟨P, F1, A1, ρ, S1, sr1, er1, h1⟩
    | true => exact h1 F1 A1 H1 (Ext.refl _) (List.prefix_refl _) sr1
theorem dt_not {a : Expr} {f : Den} {pos : Pos} (ha : PT X a (tB' (gX X T) W f)) : PT X (.UnaryOp .Not a pos) (tB' (gX X T) W (eNot f)) :=
  (pt_not ha).le fun σ H Q ⟨P, F, A, ρ, S, sr, er, h⟩ => tB_bind (Z := fun F A o => BOk _ W P F A σ o Q) (fun h => h) (fun h => h) (fun x hx => by
      split
      · exact (hx _ rfl).elim
      · rfl) (fun e p h => h.mono e p) sr er h fun b S1 F1 A1 H1 e1 p1 sr1 er1 h1 => h1 F1 A1 H1 (Ext.refl _) (List.prefix_refl _) sr1
/-- as values -/
theorem de_one {op} {a : Expr} {f : Den} {pos : Pos} (ha : PE X a (tD (gX X T) W f)) : PE X (.BoolOp op [a] pos) (tD (gX X T) W f) := pe_one ha
theorem de_and {a b : Expr} {rest : List Expr} {f f' : Den} {pos : Pos} (ha : PE X a (tD (gX X T) W f)) (hb : PE X (.BoolOp .And (b :: rest) pos) (tD (gX X T) W f')) : PE X (.BoolOp .And (a :: b :: rest) pos) (tD (gX X T) W (eAnd f f')) :=
  (pe_and ha hb).le fun σ H Q ⟨P, F, A, ρ, S, sr, er, h⟩ => tD_bD sr er h fun x S1 F1 A1 H1 v e1 p1 sr1 er1 rx h1 => by
    cases x with
    | d d =>
      cases d with
      | bool b =>
        cases bl_of rx
        cases b with
        | true => exact ⟨true, rfl, P, F1, A1, ρ, S1, sr1, er1, h1⟩
        | false => exact ⟨false, rfl, h1 F1 A1 H1 _ (Ext.refl _) (List.prefix_refl _) sr1 (.bl false)⟩
      | _ => exact h1.elim
    | _ => exact h1.elim
theorem de_or {a b : Expr} {rest : List Expr} {f f' : Den} {pos : Pos} (ha : PE X a (tD (gX X T) W f)) (hb : PE X (.BoolOp .Or (b :: rest) pos) (tD (gX X T) W f')) : PE X (.BoolOp .Or (a :: b :: rest) pos) (tD (gX X T) W (eOr f f')) :=
  (pe_or ha hb).le fun σ H Q ⟨P, F, A, ρ, S, sr, er, h⟩ => tD_bD sr er h fun x S1 F1 A1 H1 v e1 p1 sr1 er1 rx h1 => by
    cases x with
    | d d =>
      cases d with
      | bool b =>
        cases bl_of rx
        cases b with
        | false => exact ⟨false, rfl, P, F1, A1, ρ, S1, sr1, er1, h1⟩
        | true => exact ⟨true, rfl, h1 F1 A1 H1 _ (Ext.refl _) (List.prefix_refl _) sr1 (.bl true)⟩
      | _ => exact h1.elim
    | _ => exact h1.elim
theorem de_not {a : Expr} {f : Den} {pos : Pos} (ha : PE X a (tD (gX X T) W f)) : PE X (.UnaryOp .Not a pos) (tD (gX X T) W (eNot f)) :=
  (pe_not ha).le fun σ H Q ⟨P, F, A, ρ, S, sr, er, h⟩ => tD_bD sr er h fun x S1 F1 A1 H1 v e1 p1 sr1 er1 rx h1 => by
    cases x with
    | d d =>
      cases d with
      | bool b =>
        cases bl_of rx
        exact ⟨b, rfl, h1 F1 A1 H1 _ (Ext.refl _) (List.prefix_refl _) sr1 (.bl (!b))⟩
      | _ => exact h1.elim
    | _ => exact h1.elim
theorem de_if {c a b : Expr} {t f f' : Den} {pos : Pos} (hc : PT X c (tB' (gX X T) W t)) (ha : PE X a (tD (gX X T) W f)) (hb : PE X b (tD (gX X T) W f')) : PE X (.IfExp c a b pos) (tD (gX X T) W (eIf t f f')) :=
  (pe_ifExp hc ha hb).le fun σ H Q ⟨P, F, A, ρ, S, sr, er, h⟩ => tB_bind (Z := fun F A o => DOk _ W P F A σ o Q) (fun h => h) (fun h => h) (fun x hx => by
      split
      · exact (hx _ rfl).elim
      · exact (hx _ rfl).elim
      · rfl) (fun e p h => h.mono e p) sr er h fun b S1 F1 A1 H1 e1 p1 sr1 er1 h1 => by
    cases b with
    | true => exact ⟨P, F1, A1, ρ, S1, sr1, er1, h1⟩
    | false => exact ⟨P, F1, A1, ρ, S1, sr1, er1, h1⟩

/-! ### one place -/
def eUn (op : D → Option D) (f : Den) : Den := eB f fun x => fun _ S => match val S x with
  | some a => (match op a with
    | some c => .ok (.d c) S
    | none => .no)
  | none => .no
def UnD (g : G) (r : V → Hp → VK → Prop) (op : D → Option D) : Prop := ∀ P F A S H x a c Q, SRel g P F A S H → RD g.K F H x a → op a = some c → (∀ F' H' v, Ext F F' → SRel g P F' A S H' → DR g.K F' v c → Q v H') → r x H Q
def UnF (g : G) (r : V → Hp → VK → Prop) (op : D → Option D) : Prop := ∀ P F A S H x a c Q, SRel g P F A S H → RD g.K F H x a → op a = some c →
  (∀ ds H' p vs, c = .list ds → SRel g P F A S H' → H' p = some (.lst vs) → DRs g.K F vs ds → F p = none → p ∉ A → P p = none → Q (.ref p) H') → r x H Q
theorem eUn_ok {op : D → Option D} {x : RV} {S : Sto} {P : EOut → Prop} (hn : ¬ P .no) (h : P (match val S x with
  | some a => (match op a with
    | some c => EOut.ok (.d c) S
    | none => .no)
  | none => .no)) : ∃ a c, val S x = some a ∧ op a = some c ∧ P (.ok (.d c) S) := by
  cases h1 : val S x with
  | none =>
    rw [h1] at h
    exact (hn h).elim
  | some a =>
    rw [h1] at h
    cases h3 : op a with
    | none =>
      simp only [h3] at h
      exact (hn h).elim
    | some c =>
      simp only [h3] at h
      exact ⟨a, c, rfl, h3, h⟩
theorem tUn_D {g : G} {r : V → Hp → VK → Prop} {op : D → Option D} (ho : UnD g r op) {f : Den} (σ : LSt) (H : Hp) (Q : VK) (h : tD g W (eUn op f) σ H Q) : tUn r (tD g W f) σ H Q := by
  obtain ⟨P, F, A, ρ, S, sr, er, h⟩ := h
  refine tD_bD sr er h fun x S1 F1 A1 H1 v e1 p1 sr1 er1 rx h1 => ?_
  obtain ⟨a, c, ha, hc, h3⟩ := eUn_ok (P := fun o => DOk g W P F1 A1 σ o Q) (fun z => z) h1
  exact ho P F1 A1 S1 H1 v a c Q sr1 (sr1.read rx ha) hc fun F3 H3 w e3 sr3 d => h3 F3 A1 H3 w e3 (List.prefix_refl A1) sr3 d
theorem tUn_F {g : G} {r : V → Hp → VK → Prop} {op : D → Option D} (ho : UnF g r op) {f : Den} (σ : LSt) (H : Hp) (Q : VK) (h : tF g W (eUn op f) σ H Q) : tUn r (tD g W f) σ H Q := by
  obtain ⟨P, F, A, ρ, S, sr, er, h⟩ := h
  refine tD_bF sr er h fun x S1 F1 A1 H1 v e1 p1 sr1 er1 rx h1 => ?_
  obtain ⟨a, c, ha, hc, h3⟩ := eUn_ok (P := fun o => FOk g W P F1 A1 σ o Q) (fun z => z) h1
  refine ho P F1 A1 S1 H1 v a c Q sr1 (sr1.read rx ha) hc fun ds H3 p vs ec sr3 hp hd hF hA hP => ?_
  subst ec
  exact h3 F1 A1 H3 p vs (Ext.refl F1) (List.prefix_refl A1) sr3 hp hd hF hA hP
theorem de_un {op : UnaryOp} {r : V → Hp → VK → Prop} {dop : D → Option D} {f : Den} {a : Expr} {pos : Pos} (ho : UnR X (unaryOp op) r) (hd : UnD (gX X T) r dop) (ha : PE X a (tD (gX X T) W f)) : PE X (.UnaryOp op a pos) (tD (gX X T) W (eUn dop f)) := (pe_un ho ha).le (tUn_D hd)

/-! ### a new list: data from now on, or a cell -/
def eFz (f : Den) : Den := eB f fun x => match x with
  | .d (.list ds) => fun _ S => .ok (.d (.list ds)) S
  | _ => fun _ _ => .no
def eNew (f : Den) : Den := eB f fun x => match x with
  | .d (.list ds) => fun _ S => .ok (.m S.length) (S ++ [.lst ds])
  | _ => fun _ _ => .no
theorem tF_bind {g : G} {W : WX} {P F H : Hp} {A : List Addr} {σ : LSt} {S : Sto} {ρ : Env} {f : Den} {k : RV → Den} {R : VK} {Q : VK} (r : SRel g P F A S H) (e : ERel g F A ρ σ) (h : DOk g W P F A σ (eB f k ρ S) Q)
    (hno : ∀ x, (∀ ds, x ≠ .d (.list ds)) → k x = fun _ _ => .no)
    (hk : ∀ ds S1 F1 A1 H1 p vs, Ext F F1 → A <+: A1 → SRel g P F1 A1 S1 H1 → ERel g F1 A1 ρ σ → H1 p = some (.lst vs) → DRs g.K F1 vs ds → F1 p = none → p ∉ A1 → P p = none → DOk g W P F1 A1 σ (k (.d (.list ds)) ρ S1) Q → R (.ref p) H1) : tF g W f σ H R := by
  refine ⟨P, F, A, ρ, S, r, e, ?_⟩
  unfold eB at h
  cases hf : f ρ S with
  | ok x S1 =>
    rw [hf] at h
    have h : DOk g W P F A σ (k x ρ S1) Q := h
    by_cases hb : ∃ ds, x = .d (.list ds)
    · obtain ⟨ds, rfl⟩ := hb
      exact fun F1 A1 H1 p vs e1 p1 r1 hp hd hF hA hP => hk ds S1 F1 A1 H1 p vs e1 p1 r1 (e.mono e1 p1) hp hd hF hA hP (h.mono e1 p1)
    · rw [hno x fun b z => hb ⟨b, z⟩] at h
      exact h.elim
  | exc c p S1 =>
    rw [hf] at h
    exact h
  | no =>
    rw [hf] at h
    exact h.elim
theorem de_fz {e : Expr} {f : Den} (h : PE X e (tF (gX X T) W f)) : PE X e (tD (gX X T) W (eFz f)) := h.le fun σ H Q ⟨P, F, A, ρ, S, sr, er, h⟩ =>
  tF_bind sr er h (fun x hx => by
      split
      · exact (hx _ rfl).elim
      · rfl) fun ds S1 F1 A1 H1 p vs e1 p1 sr1 er1 hp hd hF hA hP h1 =>
    h1 (upd F1 p (.lst vs)) A1 H1 (.ref p) (Ext.new hF) (List.prefix_refl _) (sr1.freeze hP hF hA hp trivial) (.lst upd_same (hd.mono (Ext.new hF)))
theorem de_new {e : Expr} {f : Den} (h : PE X e (tF (gX X T) W f)) : PE X e (tD (gX X T) W (eNew f)) := h.le fun σ H Q ⟨P, F, A, ρ, S, sr, er, h⟩ =>
  tF_bind sr er h (fun x hx => by
      split
      · exact (hx _ rfl).elim
      · rfl) fun ds S1 F1 A1 H1 p vs e1 p1 sr1 er1 hp hd hF hA hP h1 =>
    h1 F1 (A1 ++ [p]) H1 (.ref p) (Ext.refl _) (List.prefix_append _ _) (sr1.push hP hF hA hp ⟨vs, rfl, hd⟩) ⟨p, by rw [← sr1.len, List.getElem?_append_right (Nat.le_refl _), Nat.sub_self]; rfl, rfl⟩
end
end DL

end
section
set_option Elab.async false
set_option linter.all false
set_option maxRecDepth 100000
set_option maxHeartbeats 1000000
namespace DL
open PySem PySem.Spec PyProof.Rows L2

/-! ### arithmetic of data -/
section
variable {g : G}
theorem OpD.or {r r' : R2} {op : D → D → Option D} (h : ∀ P F A S H x y a b c Q, SRel g P F A S H → RD g.K F H x a → RD g.K F H y b → op a b = some c → (∀ F' H' v, Ext F F' → SRel g P F' A S H' → DR g.K F' v c → Q v H') → r x y H Q ∨ r' x y H Q) :
    OpD g (fun x y H Q => r x y H Q ∨ r' x y H Q) op := h
/-- the answer is no object -/
theorem fin0 {P F H : Hp} {A : List Addr} {S : Sto} {Q : VK} {c : D} {v : V} (sr : SRel g P F A S H) (k : ∀ F' H' v, Ext F F' → SRel g P F' A S H' → DR g.K F' v c → Q v H') (h : DR g.K F v c) : Q v H := k F H v (Ext.refl F) sr h
/-- a new tuple -/
theorem finT {P F H : Hp} {A : List Addr} {S : Sto} {Q : VK} {ds : List D} {vs : List V} (sr : SRel g P F A S H) (k : ∀ F' H' v, Ext F F' → SRel g P F' A S H' → DR g.K F' v (.tuple ds) → Q v H') (h : DRs g.K F vs ds) : TQ H vs Q := fun p o hp ho =>
  k (upd F p (.frz o (.tup vs))) _ _ (Ext.new (sr.fresh hp).1) (sr.new hp trivial) (.tup (.inl ⟨o, upd_same, ho⟩) (h.mono (Ext.new (sr.fresh hp).1)))
/-- a new list that is data -/
theorem finL {P F H : Hp} {A : List Addr} {S : Sto} {Q : VK} {ds : List D} {vs : List V} {p : Addr} (sr : SRel g P F A S H) (k : ∀ F' H' v, Ext F F' → SRel g P F' A S H' → DR g.K F' v (.list ds) → Q v H') (h : DRs g.K F vs ds) (hp : H p = none) : Q (.ref p) (upd H p (.lst vs)) :=
  k (upd F p (.lst vs)) _ _ (Ext.new (sr.fresh hp).1) (sr.new hp trivial) (.lst upd_same (h.mono (Ext.new (sr.fresh hp).1)))
/-- a new list of its own -/
theorem finN {P F H : Hp} {A : List Addr} {S : Sto} {Q : VK} {c : D} {ds : List D} {vs : List V} {p : Addr} (sr : SRel g P F A S H) (k : ∀ ds H' p vs, c = .list ds → SRel g P F A S H' → H' p = some (.lst vs) → DRs g.K F vs ds → F p = none → p ∉ A → P p = none → Q (.ref p) H') (hc : c = .list ds) (h : DRs g.K F vs ds) (hp : H p = none) : Q (.ref p) (upd H p (.lst vs)) :=
  k ds _ p vs hc (sr.grow (Ext.new hp)) upd_same h (sr.fresh hp).1 (sr.fresh hp).2.1 (sr.fresh hp).2.2
theorem rd_int {K : PySem.W.Frag} {F H : Hp} {x : V} {i : Int} (h : RD K F H x (.int i)) : x = .int i := by
  have h' : DR K F x (.int i) := h
  cases h'
  rfl
theorem rd_str {K : PySem.W.Frag} {F H : Hp} {x : V} {i : Str} (h : RD K F H x (.str i)) : x = .str i := by
  have h' : DR K F x (.str i) := h
  cases h'
  rfl
theorem rd_bl {K : PySem.W.Frag} {F H : Hp} {x : V} {i : Bool} (h : RD K F H x (.bool i)) : x = .bl i := by
  have h' : DR K F x (.bool i) := h
  cases h'
  rfl
theorem rd_non {K : PySem.W.Frag} {F H : Hp} {x : V} (h : RD K F H x .none) : x = .non := by
  have h' : DR K F x .none := h
  cases h'
  rfl
theorem rd_tup {K : PySem.W.Frag} {F H : Hp} {x : V} {ds : List D} (e : Ext F H) (h : RD K F H x (.tuple ds)) : ∃ a vs, x = .ref a ∧ SqT K H a vs ∧ DRs K F vs ds := by
  have h' : DR K F x (.tuple ds) := h
  cases h' with
  | tup h1 h2 => exact ⟨_, _, rfl, e.sqt h1.sqt, h2⟩
theorem rd_tupS {K : PySem.W.Frag} {F H : Hp} {x : V} {ds : List D} (e : Ext F H) (h : RD K F H x (.tuple ds)) : ∃ a vs, x = .ref a ∧ TupS K H a vs ∧ DRs K F vs ds := by
  have h' : DR K F x (.tuple ds) := h
  cases h' with
  | tup h1 h2 => exact ⟨_, _, rfl, e.tups h1, h2⟩
theorem rd_lst {K : PySem.W.Frag} {F H : Hp} {x : V} {ds : List D} (h : RD K F H x (.list ds)) : ∃ a vs, x = .ref a ∧ H a = some (.lst vs) ∧ DRs K F vs ds := h
theorem DRs.nil_iff {K : PySem.W.Frag} {F : Hp} {vs : List V} {ds : List D} (h : DRs K F vs ds) : vs = [] ↔ ds = [] := by
  cases h with
  | nil => simp
  | cons _ _ => simp

def dAdd : D → D → Option D
  | .int i, .int j => some (.int (i + j))
  | .str x, .str y => if x.length + y.length ≤ sizeLine then some (.str (x ++ y)) else none
  | .tuple xs, .tuple ys => if xs.length + ys.length ≤ sizeLine then some (.tuple (xs ++ ys)) else none
  | .list xs, .list ys => if xs.length + ys.length ≤ sizeLine then some (.list (xs ++ ys)) else none
  | _, _ => none
def rAdd (K : PySem.W.Frag) : R2 := fun x y H Q => ((∃ i j, x = .int i ∧ y = .int j ∧ Q (.int (i + j)) H) ∨ (∃ i j, x = .str i ∧ y = .str j ∧ i.length + j.length ≤ sizeLine ∧ Q (.str (i ++ j)) H)) ∨ (rCatD K x y H Q ∨ rCat x y H Q)
theorem op_addD {X : Cx} : OpR X (binaryOp .Add) (rAdd X.K) := (op_add.or op_add_str).or (op_catD.or op_cat)
theorem opD_add : OpD g (rAdd g.K) dAdd := by
  intro P F A S H x y a b c Q sr hx hy hc k
  unfold dAdd at hc
  split at hc
  · cases hc
    rw [rd_int hx, rd_int hy]
    exact .inl (.inl ⟨_, _, rfl, rfl, fin0 sr k (.int _)⟩)
  · split at hc
    · rename_i hl
      cases hc
      rw [rd_str hx, rd_str hy]
      exact .inl (.inr ⟨_, _, rfl, rfl, hl, fin0 sr k (.str _)⟩)
    · cases hc
  · split at hc
    · rename_i xs ys hl
      cases hc
      obtain ⟨p, vs, rfl, h1, h2⟩ := rd_tup sr.sub hx
      obtain ⟨q, ws, rfl, h3, h4⟩ := rd_tup sr.sub hy
      refine .inr (.inl ⟨p, q, vs, ws, ⟨rfl, rfl⟩, ⟨h1, h3⟩, by rw [h2.length, h4.length]; exact hl, fun e => ?_, fun e e' => ?_, fun _ _ => finT sr k (h2.append h4)⟩)
      · have ex : xs = [] := h2.nil_iff.mp e
        subst ex
        exact fin0 sr k hy
      · have ey : ys = [] := h4.nil_iff.mp e'
        subst ey
        rw [List.append_nil] at k
        exact fin0 sr k hx
    · cases hc
  · split at hc
    · rename_i xs ys hl
      cases hc
      obtain ⟨p, vs, rfl, h1, h2⟩ := rd_lst hx
      obtain ⟨q, ws, rfl, h3, h4⟩ := rd_lst hy
      exact .inr (.inr ⟨p, q, vs, ws, rfl, rfl, h1, h3, by rw [h2.length, h4.length]; exact hl, fun p hp => finL sr k (h2.append h4) hp⟩)
    · cases hc
  · cases hc
def dCat : D → D → Option D
  | .list xs, .list ys => if xs.length + ys.length ≤ sizeLine then some (.list (xs ++ ys)) else none
  | _, _ => none
theorem opF_cat : OpF g rCat dCat := by
  intro P F A S H x y a b c Q sr hx hy hc k
  unfold dCat at hc
  split at hc
  · split at hc
    · rename_i xs ys hl
      cases hc
      obtain ⟨p, vs, rfl, h1, h2⟩ := rd_lst hx
      obtain ⟨q, ws, rfl, h3, h4⟩ := rd_lst hy
      exact ⟨p, q, vs, ws, rfl, rfl, h1, h3, by rw [h2.length, h4.length]; exact hl, fun p hp => finN sr k rfl (h2.append h4) hp⟩
    · cases hc
  · cases hc
def dSub : D → D → Option D
  | .int i, .int j => some (.int (i - j))
  | _, _ => none
theorem opD_sub : OpD g (rI0 fun i j => .int (i - j)) dSub := by
  intro P F A S H x y a b c Q sr hx hy hc k
  unfold dSub at hc
  split at hc
  · cases hc
    rw [rd_int hx, rd_int hy]
    exact ⟨_, _, rfl, rfl, fin0 sr k (.int _)⟩
  · cases hc
def small64b (i : Int) : Bool := decide (-(2 ^ 64) < i) && decide (i < 2 ^ 64)
/-- an int's product, a list again and again -/
def dMulI : D → D → Option D
  | .int i, .int j => if small64b i || small64b j then some (.int (i * j)) else none
  | _, _ => none
theorem opD_mulI : OpD g (rI CMul fun i j => .int (i * j)) dMulI := by
  intro P F A S H x y a b c Q sr hx hy hc k
  unfold dMulI at hc
  split at hc
  · split at hc
    · rename_i hl
      cases hc
      rw [rd_int hx, rd_int hy]
      refine ⟨_, _, rfl, rfl, ?_, fin0 sr k (.int _)⟩
      simp only [small64b, Bool.or_eq_true, Bool.and_eq_true, decide_eq_true_eq] at hl
      exact hl
    · cases hc
  · cases hc
theorem DRs.rep {K : PySem.W.Frag} {F : Hp} {vs : List V} {ds : List D} (h : DRs K F vs ds) : ∀ k : Nat, DRs K F (List.replicate k vs).flatten (List.replicate k ds).flatten
  | 0 => .nil
  | k + 1 => by
    rw [List.replicate_succ, List.replicate_succ, List.flatten_cons, List.flatten_cons]
    exact h.append (DRs.rep h k)
def dRep : D → D → Option D
  | .list xs, .int k => if k < 2 ^ 62 ∧ -(2 ^ 62) < k ∧ xs.length * k.toNat ≤ sizeLine then some (.list (List.replicate k.toNat xs).flatten) else none
  | _, _ => none
theorem opF_rep : OpF g rRep dRep := by
  intro P F A S H x y a b c Q sr hx hy hc k
  unfold dRep at hc
  split at hc
  · split at hc
    · rename_i xs n hl
      cases hc
      obtain ⟨p, vs, rfl, h1, h2⟩ := rd_lst hx
      rw [rd_int hy]
      exact ⟨p, n, vs, rfl, rfl, h1, by omega, by omega, by rw [h2.length]; exact hl.2.2, fun p hp => finN sr k rfl (h2.rep _) hp⟩
    · cases hc
  · cases hc
def dFdiv : D → D → Option D
  | .int i, .int j => if j ≠ 0 ∧ j.natAbs < 1073741824 then some (.int (i.fdiv j)) else none
  | _, _ => none
theorem opD_fdiv : OpD g (rI CDivN fun i j => .int (i.fdiv j)) dFdiv := by
  intro P F A S H x y a b c Q sr hx hy hc k
  unfold dFdiv at hc
  split at hc
  · split at hc
    · rename_i hl
      cases hc
      rw [rd_int hx, rd_int hy]
      exact ⟨_, _, rfl, rfl, hl, fin0 sr k (.int _)⟩
    · cases hc
  · cases hc
def dMod : D → D → Option D
  | .int i, .int j => if j ≠ 0 then some (.int (i.fmod j)) else none
  | _, _ => none
theorem opD_mod : OpD g (rI (fun _ j => j ≠ 0) fun i j => .int (i.fmod j)) dMod := by
  intro P F A S H x y a b c Q sr hx hy hc k
  unfold dMod at hc
  split at hc
  · split at hc
    · rename_i hl
      cases hc
      rw [rd_int hx, rd_int hy]
      exact ⟨_, _, rfl, rfl, hl, fin0 sr k (.int _)⟩
    · cases hc
  · cases hc
def dPow : D → D → Option D
  | .int i, .int j => if 0 ≤ j ∧ j ≤ 1000000 ∧ i.natAbs < 2 ^ 64 then some (.int (i ^ j.toNat)) else none
  | _, _ => none
theorem opD_pow : OpD g (rI CPow fun i j => .int (i ^ j.toNat)) dPow := by
  intro P F A S H x y a b c Q sr hx hy hc k
  unfold dPow at hc
  split at hc
  · split at hc
    · rename_i hl
      cases hc
      rw [rd_int hx, rd_int hy]
      exact ⟨_, _, rfl, rfl, hl, fin0 sr k (.int _)⟩
    · cases hc
  · cases hc

/-! ### comparisons -/
def dLt : D → D → Option D
  | .int i, .int j => some (.bool (decide (i < j)))
  | _, _ => none
def dLe : D → D → Option D
  | .int i, .int j => some (.bool (decide (i ≤ j)))
  | _, _ => none
def dGt : D → D → Option D
  | .int i, .int j => some (.bool (decide (j < i)))
  | _, _ => none
def dGe : D → D → Option D
  | .int i, .int j => some (.bool (decide (j ≤ i)))
  | _, _ => none
theorem opD_lt : OpD g (rI0 fun i j => .bl (decide (i < j))) dLt := by
  intro P F A S H x y a b c Q sr hx hy hc k
  unfold dLt at hc
  split at hc
  · cases hc
    rw [rd_int hx, rd_int hy]
    exact ⟨_, _, rfl, rfl, fin0 sr k (.bl _)⟩
  · cases hc
theorem opD_le : OpD g (rI0 fun i j => .bl (decide (i ≤ j))) dLe := by
  intro P F A S H x y a b c Q sr hx hy hc k
  unfold dLe at hc
  split at hc
  · cases hc
    rw [rd_int hx, rd_int hy]
    exact ⟨_, _, rfl, rfl, fin0 sr k (.bl _)⟩
  · cases hc
theorem opD_gt : OpD g (rI0 fun i j => .bl (decide (j < i))) dGt := by
  intro P F A S H x y a b c Q sr hx hy hc k
  unfold dGt at hc
  split at hc
  · cases hc
    rw [rd_int hx, rd_int hy]
    exact ⟨_, _, rfl, rfl, fin0 sr k (.bl _)⟩
  · cases hc
theorem opD_ge : OpD g (rI0 fun i j => .bl (decide (j ≤ i))) dGe := by
  intro P F A S H x y a b c Q sr hx hy hc k
  unfold dGe at hc
  split at hc
  · cases hc
    rw [rd_int hx, rd_int hy]
    exact ⟨_, _, rfl, rfl, fin0 sr k (.bl _)⟩
  · cases hc
/-- == of data: both are shaped (their texts are, and they are no deeper than 64) -/
def dEq (a b : D) : Option D := if SeqAt.shaped a && SeqAt.shaped b then some (.bool (PyData.eqv a b)) else none
def dNe (a b : D) : Option D := if SeqAt.shaped a && SeqAt.shaped b then some (.bool (!PyData.eqv a b)) else none
theorem opD_eq : OpD g (rEqD g.K) dEq := by
  intro P F A S H x y a b c Q sr hx hy hc k
  unfold dEq at hc
  split at hc
  · rename_i hl
    cases hc
    rw [Bool.and_eq_true] at hl
    exact ⟨a, b, hx.dp sr.sub, hy.dp sr.sub, hl.1, hl.2, fin0 sr k (.bl _)⟩
  · cases hc
theorem opD_ne : OpD g (rNeD g.K) dNe := by
  intro P F A S H x y a b c Q sr hx hy hc k
  unfold dNe at hc
  split at hc
  · rename_i hl
    cases hc
    rw [Bool.and_eq_true] at hl
    exact ⟨a, b, hx.dp sr.sub, hy.dp sr.sub, hl.1, hl.2, fin0 sr k (.bl _)⟩
  · cases hc
/-- is None -/
def dIsN (neg : Bool) (a : D) : Bool := match a with
  | .none => !neg
  | _ => neg
def dIs : D → D → Option D
  | .none, .none => some (.bool true)
  | .bool _, .none => some (.bool false)
  | .int _, .none => some (.bool false)
  | .str _, .none => some (.bool false)
  | .list _, .none => some (.bool false)
  | .tuple _, .none => some (.bool false)
  | _, _ => none
def dIsNot : D → D → Option D
  | .none, .none => some (.bool false)
  | .bool _, .none => some (.bool true)
  | .int _, .none => some (.bool true)
  | .str _, .none => some (.bool true)
  | .list _, .none => some (.bool true)
  | .tuple _, .none => some (.bool true)
  | _, _ => none
theorem rd_ne {K : PySem.W.Frag} {F H : Hp} {x : V} {a : D} (h : RD K F H x a) : (x = .non) ↔ a = .none := by
  cases a with
  | none =>
    rw [rd_non h]
    simp
  | bool b =>
    rw [rd_bl h]
    simp
  | int b =>
    rw [rd_int h]
    simp
  | str b =>
    rw [rd_str h]
    simp
  | list ds =>
    obtain ⟨p, vs, rfl, _⟩ := rd_lst h
    simp
  | tuple ds =>
    have h' : DR K F x (.tuple ds) := h
    cases h'
    simp
  | dict ds =>
    have h' : DR K F x (.dict ds) := h
    cases h'
theorem opD_is : OpD g (fun x y H Q => y = .non ∧ Q (.bl (decide (x = .non))) H) dIs := by
  intro P F A S H x y a b c Q sr hx hy hc k
  unfold dIs at hc
  have e := rd_ne hx
  split at hc <;> first
    | (cases hc
       refine ⟨rd_non hy, ?_⟩
       first
         | (rw [decide_eq_true (e.mpr rfl)]; exact fin0 sr k (.bl true))
         | (rw [decide_eq_false (fun z => nomatch e.mp z)]; exact fin0 sr k (.bl false)))
    | cases hc
theorem opD_isNot : OpD g (fun x y H Q => y = .non ∧ Q (.bl (!decide (x = .non))) H) dIsNot := by
  intro P F A S H x y a b c Q sr hx hy hc k
  unfold dIsNot at hc
  have e := rd_ne hx
  split at hc <;> first
    | (cases hc
       refine ⟨rd_non hy, ?_⟩
       first
         | (rw [decide_eq_true (e.mpr rfl)]; exact fin0 sr k (.bl false))
         | (rw [decide_eq_false (fun z => nomatch e.mp z)]; exact fin0 sr k (.bl true)))
    | cases hc

/-! ### in -/
def flatD : D → Bool
  | .none => true
  | .bool _ => true
  | .int _ => true
  | .str _ => true
  | _ => false
theorem flat_of {K : PySem.W.Frag} {F : Hp} {v : V} {d : D} (h : DR K F v d) (f : flatD d = true) : flatV v = true := by
  cases h <;> first
    | rfl
    | cases f
theorem flats_of {K : PySem.W.Frag} {F : Hp} : ∀ {vs : List V} {ds : List D}, DRs K F vs ds → ds.all flatD = true → vs.all flatV = true
  | _, [], h, _ => by
    cases h
    rfl
  | _, d :: ds, h, f => by
    cases h with
    | cons h1 h2 =>
      rw [List.all_cons, Bool.and_eq_true] at f ⊢
      exact ⟨flat_of h1 f.1, flats_of h2 f.2⟩
theorem eqV_of {K : PySem.W.Frag} {F F' : Hp} {v w : V} {d e : D} (h : DR K F v d) (h' : DR K F' w e) (f : flatD d = true) (f' : flatD e = true) : eqV v w = PyData.eqv d e := by
  cases h <;> cases h' <;> first
    | rfl
    | cases f
    | cases f'
    | simp [eqV, PyData.eqv]
theorem inV_of {K : PySem.W.Frag} {F F' : Hp} {w : V} {e : D} (h' : DR K F' w e) (f' : flatD e = true) : ∀ {vs : List V} {ds : List D}, DRs K F vs ds → ds.all flatD = true → inV w vs = ds.any fun z => PyData.eqv z e
  | _, [], h, _ => by
    cases h
    rfl
  | _, d :: ds, h, f => by
    cases h with
    | cons h1 h2 =>
      rw [List.all_cons, Bool.and_eq_true] at f
      have ih := inV_of h' f' h2 f.2
      unfold inV at ih ⊢
      rw [List.any_cons, List.any_cons, ih, eqV_of h1 h' f.1 f']
theorem rd_flat {K : PySem.W.Frag} {F H : Hp} {x : V} {a : D} (h : RD K F H x a) (f : flatD a = true) : DR K F x a := by
  cases a <;> first
    | exact h
    | cases f
def dIn : D → D → Option D
  | x, .list ds => if flatD x && ds.all flatD then some (.bool (ds.any fun z => PyData.eqv z x)) else if SeqAt.shaped x && SeqAt.shaped (.list ds) then some (.bool (ds.any fun z => PyData.eqv z x)) else none
  | x, .tuple ds => if flatD x && ds.all flatD then some (.bool (ds.any fun z => PyData.eqv z x)) else none
  | _, _ => none
def dNotIn : D → D → Option D
  | x, .list ds => if flatD x && ds.all flatD then some (.bool (!ds.any fun z => PyData.eqv z x)) else if SeqAt.shaped x && SeqAt.shaped (.list ds) then some (.bool (!ds.any fun z => PyData.eqv z x)) else none
  | x, .tuple ds => if flatD x && ds.all flatD then some (.bool (!ds.any fun z => PyData.eqv z x)) else none
  | _, _ => none
theorem opD_in : OpD g (fun x y H Q => rIn g.K false x y H Q ∨ rInD g.K x y H Q) dIn := by
  intro P F A S H x y a b c Q sr hx hy hc k
  unfold dIn at hc
  split at hc
  · split at hc
    · rename_i hl
      cases hc
      rw [Bool.and_eq_true] at hl
      obtain ⟨p, vs, rfl, h1, h2⟩ := rd_lst hy
      have hx' := rd_flat hx hl.1
      refine .inl ⟨p, vs, rfl, .inl (SqL.of h1), flat_of hx' hl.1, flats_of h2 hl.2, ?_⟩
      rw [if_neg Bool.false_ne_true, inV_of hx' hl.1 h2 hl.2]
      exact fin0 sr k (.bl _)
    · split at hc
      · rename_i hl
        cases hc
        rw [Bool.and_eq_true] at hl
        exact .inr ⟨_, _, hx.dp sr.sub, hy.dp sr.sub, hl.1, hl.2, fin0 sr k (.bl _)⟩
      · cases hc
  · split at hc
    · rename_i hl
      cases hc
      rw [Bool.and_eq_true] at hl
      obtain ⟨p, vs, rfl, h1, h2⟩ := rd_tup sr.sub hy
      have hx' := rd_flat hx hl.1
      refine .inl ⟨p, vs, rfl, .inr h1, flat_of hx' hl.1, flats_of h2 hl.2, ?_⟩
      rw [if_neg Bool.false_ne_true, inV_of hx' hl.1 h2 hl.2]
      exact fin0 sr k (.bl _)
    · cases hc
  · cases hc
theorem opD_notIn : OpD g (fun x y H Q => rIn g.K true x y H Q ∨ rNotInD g.K x y H Q) dNotIn := by
  intro P F A S H x y a b c Q sr hx hy hc k
  unfold dNotIn at hc
  split at hc
  · split at hc
    · rename_i hl
      cases hc
      rw [Bool.and_eq_true] at hl
      obtain ⟨p, vs, rfl, h1, h2⟩ := rd_lst hy
      have hx' := rd_flat hx hl.1
      refine .inl ⟨p, vs, rfl, .inl (SqL.of h1), flat_of hx' hl.1, flats_of h2 hl.2, ?_⟩
      rw [if_pos rfl, inV_of hx' hl.1 h2 hl.2]
      exact fin0 sr k (.bl _)
    · split at hc
      · rename_i hl
        cases hc
        rw [Bool.and_eq_true] at hl
        exact .inr ⟨_, _, hx.dp sr.sub, hy.dp sr.sub, hl.1, hl.2, fin0 sr k (.bl _)⟩
      · cases hc
  · split at hc
    · rename_i hl
      cases hc
      rw [Bool.and_eq_true] at hl
      obtain ⟨p, vs, rfl, h1, h2⟩ := rd_tup sr.sub hy
      have hx' := rd_flat hx hl.1
      refine .inl ⟨p, vs, rfl, .inr h1, flat_of hx' hl.1, flats_of h2 hl.2, ?_⟩
      rw [if_pos rfl, inV_of hx' hl.1 h2 hl.2]
      exact fin0 sr k (.bl _)
    · cases hc
  · cases hc

/-! ### one place -/
def dNeg : D → Option D
  | .int i => some (.int (-i))
  | _ => none
theorem unD_neg : UnD g (rU fun i => .int (-i)) dNeg := by
  intro P F A S H x a c Q sr hx hc k
  unfold dNeg at hc
  split at hc
  · cases hc
    rw [rd_int hx]
    exact ⟨_, rfl, fin0 sr k (.int _)⟩
  · cases hc

/-! ### items and stretches -/
def dIx : D → D → Option D
  | .list ds, .int i => atI ds i
  | .tuple ds, .int i => atI ds i
  | .str z, .int i => if z.length ≤ sizeLine then (atI z.cps.toList i).map fun c => .str ⟨#[c]⟩ else none
  | _, _ => none
theorem DRs.atI {K : PySem.W.Frag} {F : Hp} {vs : List V} {ds : List D} {i : Int} {d : D} (h : DRs K F vs ds) (e : atI ds i = some d) : ∃ v, atI vs i = some v ∧ DR K F v d := by
  unfold L2.atI at e ⊢
  rw [h.length]
  cases q : ixN ds.length i with
  | none =>
    rw [q] at e
    cases e
  | some j =>
    rw [q] at e
    exact h.get e
theorem opD_ix : OpD g (rIx g.K) dIx := by
  intro P F A S H x y a b c Q sr hx hy hc k
  unfold dIx at hc
  split at hc
  · obtain ⟨p, vs, rfl, h1, h2⟩ := rd_lst hx
    rw [rd_int hy]
    obtain ⟨v, e, h⟩ := h2.atI hc
    exact .inl ⟨p, vs, _, v, rfl, rfl, SqL.of h1, e, fin0 sr k h⟩
  · obtain ⟨p, vs, rfl, h1, h2⟩ := rd_tup sr.sub hx
    rw [rd_int hy]
    obtain ⟨v, e, h⟩ := h2.atI hc
    exact .inr (.inl ⟨p, vs, _, v, rfl, rfl, h1, e, fin0 sr k h⟩)
  · split at hc
    · rename_i z i hl
      rw [rd_str hx, rd_int hy]
      cases e : L2.atI z.cps.toList i with
      | none =>
        rw [e] at hc
        cases hc
      | some ch =>
        rw [e] at hc
        cases hc
        exact .inr (.inr ⟨z, i, ch, rfl, rfl, hl, e, fin0 sr k (.str _)⟩)
    · cases hc
  · cases hc
section
variable {X : Cx} {T : List (Addr × Str)} {W : WX}
theorem de_ix {a b : Expr} {f f' : Den} {pos : Pos} (ha : PE X a (tD (gX X T) W f)) (hb : PE X b (tD (gX X T) W f')) (hs : PlainIx b) : PE X (.Subscript a b pos) (tD (gX X T) W (eOp dIx f f')) := (pe_ix ix_seq ha hb hs).le (tOp_D opD_ix)
end
def dCut (ds : List D) (lo hi : Option Int) : List D := (ds.drop (HT.sIx ds.length 0 lo)).take (HT.sIx ds.length ds.length hi - HT.sIx ds.length 0 lo)
theorem DRs.cut {K : PySem.W.Frag} {F : Hp} {vs : List V} {ds : List D} (h : DRs K F vs ds) (lo hi : Option Int) : DRs K F (cutV vs lo hi) (dCut ds lo hi) := by
  unfold cutV dCut
  rw [h.length]
  exact (h.drop _).take _
def SlD (g : G) (r : V → Option Int → Option Int → Hp → VK → Prop) (op : D → Option Int → Option Int → Option D) : Prop := ∀ P F A S H x a lo hi c Q, SRel g P F A S H → RD g.K F H x a → op a lo hi = some c →
  (∀ F' H' v, Ext F F' → SRel g P F' A S H' → DR g.K F' v c → Q v H') → r x lo hi H Q
def dSl : D → Option Int → Option Int → Option D
  | .list ds, lo, hi => some (.list (dCut ds lo hi))
  | .tuple ds, lo, hi => some (.tuple (dCut ds lo hi))
  | _, _, _ => none
theorem cut_whole {ds : List D} {lo hi : Option Int} (h : HT.sIx ds.length 0 lo = 0 ∧ HT.sIx ds.length ds.length hi = ds.length) : dCut ds lo hi = ds := by
  unfold dCut
  rw [h.1, h.2]
  simp
theorem slD_seq : SlD g (fun x lo hi H Q => rSlL g.K x lo hi H Q ∨ rSlD g.K x lo hi H Q) dSl := by
  intro P F A S H x a lo hi c Q sr hx hc k
  unfold dSl at hc
  split at hc
  · cases hc
    obtain ⟨p, vs, rfl, h1, h2⟩ := rd_lst hx
    exact .inl ⟨p, vs, rfl, SqL.of h1, fun p hp => finL sr k (h2.cut lo hi) hp⟩
  · cases hc
    obtain ⟨p, vs, rfl, h1, h2⟩ := rd_tup sr.sub hx
    refine .inr ⟨p, vs, rfl, h1, fun e => ?_, fun _ => finT sr k (h2.cut lo hi)⟩
    rw [h2.length] at e
    rw [cut_whole e] at k
    exact fin0 sr k hx
  · cases hc
end
end DL

end
section
set_option Elab.async false
set_option linter.all false
set_option maxRecDepth 100000
set_option maxHeartbeats 1000000
namespace DL
open PySem PySem.Spec PyProof.Rows L2

/-! ### arguments -/
def aNil : DenA := fun _ S => .ok [] S
def aCons (f : Den) (fs : DenA) : DenA := fun ρ S => match f ρ S with
  | .ok r S' => (match fs ρ S' with
    | .ok rs S2 => .ok (r :: rs) S2
    | .exc c p S2 => .exc c p S2
    | .no => .no)
  | .exc c p S' => .exc c p S'
  | .no => .no
/-- the arguments, then what is done with them -/
def aB (fs : DenA) (k : List RV → Den) : Den := fun ρ S => match fs ρ S with
  | .ok rs S' => k rs ρ S'
  | .exc c p S' => .exc c p S'
  | .no => .no
section
variable {g : G} {W : WX} {P F H : Hp} {A : List Addr} {σ : LSt} {S : Sto} {ρ : Env} {f : Den} {fs : DenA} {k : List RV → Den}
theorem tA_bind {R : List V → Hp → Prop} {Z : Hp → List Addr → EOut → Prop} (hx : ∀ {c p S'}, Z F A (.exc c p S') → XcOk g W P F A σ c p S') (hn : ¬ Z F A .no) (hmono : ∀ {F' A' o}, Ext F F' → A <+: A' → Z F A o → Z F' A' o)
    (r : SRel g P F A S H) (e : ERel g F A ρ σ) (h : Z F A (aB fs k ρ S))
    (hk : ∀ xs S1 F1 A1 H1 vs, Ext F F1 → A <+: A1 → SRel g P F1 A1 S1 H1 → ERel g F1 A1 ρ σ → RRs g.K F1 A1 xs vs → Z F1 A1 (k xs ρ S1) → R vs H1) : tA g W fs σ H R := by
  refine ⟨P, F, A, ρ, S, r, e, ?_⟩
  unfold aB at h
  cases hf : fs ρ S with
  | ok x S1 =>
    rw [hf] at h
    exact fun F1 A1 H1 v e1 p1 r1 rr => hk x S1 F1 A1 H1 v e1 p1 r1 (e.mono e1 p1) rr (hmono e1 p1 h)
  | exc c p S1 =>
    rw [hf] at h
    exact hx h
  | no =>
    rw [hf] at h
    exact hn h
theorem tA_bD {Q : VK} {R : List V → Hp → Prop} (r : SRel g P F A S H) (e : ERel g F A ρ σ) (h : DOk g W P F A σ (aB fs k ρ S) Q)
    (hk : ∀ xs S1 F1 A1 H1 vs, Ext F F1 → A <+: A1 → SRel g P F1 A1 S1 H1 → ERel g F1 A1 ρ σ → RRs g.K F1 A1 xs vs → DOk g W P F1 A1 σ (k xs ρ S1) Q → R vs H1) : tA g W fs σ H R :=
  tA_bind (Z := fun F A o => DOk g W P F A σ o Q) (fun h => h) (fun h => h) (fun e p h => h.mono e p) r e h hk
theorem tA_bF {Q : VK} {R : List V → Hp → Prop} (r : SRel g P F A S H) (e : ERel g F A ρ σ) (h : FOk g W P F A σ (aB fs k ρ S) Q)
    (hk : ∀ xs S1 F1 A1 H1 vs, Ext F F1 → A <+: A1 → SRel g P F1 A1 S1 H1 → ERel g F1 A1 ρ σ → RRs g.K F1 A1 xs vs → FOk g W P F1 A1 σ (k xs ρ S1) Q → R vs H1) : tA g W fs σ H R :=
  tA_bind (Z := fun F A o => FOk g W P F A σ o Q) (fun h => h) (fun h => h) (fun e p h => h.mono e p) r e h hk
end
section
variable {X : Cx} {T : List (Addr × Str)} {W : WX}
theorem da_nil : PA X [] (tA (gX X T) W aNil) := pa_nil.le fun σ H Q ⟨P, F, A, ρ, S, r, er, h⟩ => h F A H [] (Ext.refl F) (List.prefix_refl A) r trivial
theorem da_cons {e : Expr} {es : List Expr} {f : Den} {fs : DenA} (ha : PE X e (tD (gX X T) W f)) (hr : PA X es (tA (gX X T) W fs)) (hs : starEach (e :: es) X.env = (false, eval e X.env) :: starEach es X.env := by rfl) : PA X (e :: es) (tA (gX X T) W (aCons f fs)) :=
  (pa_cons ha hr hs).le fun σ H Q ⟨P, F, A, ρ, S, r, er, h⟩ => by
    refine ⟨P, F, A, ρ, S, r, er, ?_⟩
    unfold aCons at h
    cases hf : f ρ S with
    | ok x S1 =>
      rw [hf] at h
      intro F1 A1 H1 v e1 p1 r1 rr
      refine ⟨P, F1, A1, ρ, S1, r1, er.mono e1 p1, ?_⟩
      have h := AOk.mono e1 p1 h
      cases hg : fs ρ S1 with
      | ok xs S2 =>
        simp only [hg] at h
        exact fun F2 A2 H2 vs e2 p2 r2 rs => h F2 A2 H2 (v :: vs) e2 p2 r2 ⟨rr.mono e2 p2, rs⟩
      | exc c p S2 =>
        simp only [hg] at h
        exact h
      | no =>
        simp only [hg] at h
        exact h.elim
    | exc c p S1 =>
      rw [hf] at h
      exact h
    | no =>
      rw [hf] at h
      exact h

/-! ### displays -/
def datas : List RV → Option (List D)
  | [] => some []
  | .d d :: rs => (datas rs).map (d :: ·)
  | _ :: _ => none
theorem datas_ok {K : PySem.W.Frag} {F : Hp} {A : List Addr} : ∀ {rs : List RV} {vs : List V} {ds : List D}, datas rs = some ds → RRs K F A rs vs → DRs K F vs ds
  | [], [], _, h, _ => by
    cases h
    exact .nil
  | .d d :: rs, v :: vs, ds, h, r => by
    unfold datas at h
    cases q : datas rs with
    | none =>
      rw [q] at h
      cases h
    | some es =>
      rw [q] at h
      cases h
      exact .cons r.1 (datas_ok q r.2)
  | .m _ :: _, _ :: _, _, h, _ => by cases h
  | .s _ :: _, _ :: _, _, h, _ => by cases h
  | [], _ :: _, _, _, r => r.elim
  | _ :: _, [], _, _, r => r.elim
def eTup (fs : DenA) : Den := aB fs fun rs _ S => match datas rs with
  | some ds => if ds.length ≤ sizeLine then .ok (.d (.tuple ds)) S else .no
  | none => .no
def eLst (fs : DenA) : Den := aB fs fun rs _ S => match datas rs with
  | some ds => if ds.length ≤ sizeLine then .ok (.d (.list ds)) S else .no
  | none => .no
theorem de_tup {es : List Expr} {fs : DenA} {x1 pos} (h : PA X es (tA (gX X T) W fs)) : PE X (.Tuple es x1 pos) (tD (gX X T) W (eTup fs)) := (pe_tupD h).le fun σ H Q ⟨P, F, A, ρ, S, r, er, h⟩ =>
  tA_bD r er h fun xs S1 F1 A1 H1 vs e1 p1 r1 er1 rr h1 => by
    cases q : datas xs with
    | none =>
      rw [q] at h1
      exact h1.elim
    | some ds =>
      simp only [q] at h1
      have hd := datas_ok q rr
      split at h1
      · rename_i hl
        exact ⟨by rw [hd.length]; exact hl, finT r1 (fun F' H' v e' r' d' => h1 F' A1 H' v e' (List.prefix_refl _) r' d') hd⟩
      · exact h1.elim
theorem df_lst {es : List Expr} {fs : DenA} {pos} (h : PA X es (tA (gX X T) W fs)) : PE X (.List es pos) (tF (gX X T) W (eLst fs)) := (pe_lst h).le fun σ H Q ⟨P, F, A, ρ, S, r, er, h⟩ =>
  tA_bF r er h fun xs S1 F1 A1 H1 vs e1 p1 r1 er1 rr h1 => by
    cases q : datas xs with
    | none =>
      rw [q] at h1
      exact h1.elim
    | some ds =>
      simp only [q] at h1
      have hd := datas_ok q rr
      split at h1
      · rename_i hl
        refine ⟨by rw [hd.length]; exact hl, fun p hp => ?_⟩
        exact h1 F1 A1 (upd H1 p (.lst vs)) p vs (Ext.refl _) (List.prefix_refl _) (r1.grow (Ext.new hp)) upd_same hd (r1.fresh hp).1 (r1.fresh hp).2.1 (r1.fresh hp).2.2
      · exact h1.elim

/-! ### built-ins called by name -/
/-- an answer of data from arguments -/
def eCallV (op : Sto → List RV → Option D) (fs : DenA) : Den := aB fs fun rs _ S => match op S rs with
  | some c => .ok (.d c) S
  | none => .no
def CallD (g : G) (r : List V → Hp → VK → Prop) (op : Sto → List RV → Option D) : Prop := ∀ P F A S H xs vs c Q, SRel g P F A S H → RRs g.K F A xs vs → op S xs = some c → (∀ F' H' v, Ext F F' → SRel g P F' A S H' → DR g.K F' v c → Q v H') → r vs H Q
def CallF (g : G) (r : List V → Hp → VK → Prop) (op : Sto → List RV → Option D) : Prop := ∀ P F A S H xs vs c Q, SRel g P F A S H → RRs g.K F A xs vs → op S xs = some c →
  (∀ ds H' p vs, c = .list ds → SRel g P F A S H' → H' p = some (.lst vs) → DRs g.K F vs ds → F p = none → p ∉ A → P p = none → Q (.ref p) H') → r vs H Q
theorem tCB_D {g : G} {r : List V → Hp → VK → Prop} {op : Sto → List RV → Option D} (ho : CallD g r op) {fs : DenA} (σ : LSt) (H : Hp) (Q : VK) (h : tD g W (eCallV op fs) σ H Q) : tCB r (tA g W fs) σ H Q := by
  obtain ⟨P, F, A, ρ, S, sr, er, h⟩ := h
  refine tA_bD sr er h fun xs S1 F1 A1 H1 vs e1 p1 r1 er1 rr h1 => ?_
  cases q : op S1 xs with
  | none =>
    rw [q] at h1
    exact h1.elim
  | some c =>
    rw [q] at h1
    exact ho P F1 A1 S1 H1 xs vs c Q r1 rr q fun F' H' v e' r' d' => h1 F' A1 H' v e' (List.prefix_refl _) r' d'
theorem tCB_F {g : G} {r : List V → Hp → VK → Prop} {op : Sto → List RV → Option D} (ho : CallF g r op) {fs : DenA} (σ : LSt) (H : Hp) (Q : VK) (h : tF g W (eCallV op fs) σ H Q) : tCB r (tA g W fs) σ H Q := by
  obtain ⟨P, F, A, ρ, S, sr, er, h⟩ := h
  refine tA_bF sr er h fun xs S1 F1 A1 H1 vs e1 p1 r1 er1 rr h1 => ?_
  cases q : op S1 xs with
  | none =>
    rw [q] at h1
    exact h1.elim
  | some c =>
    rw [q] at h1
    refine ho P F1 A1 S1 H1 xs vs c Q r1 rr q fun ds H' p vs' ec r' hp hd hF hA hP => ?_
    subst ec
    exact h1 F1 A1 H' p vs' (Ext.refl _) (List.prefix_refl _) r' hp hd hF hA hP
theorem de_callB {x : Str} {id : String} {r : List V → Hp → VK → Prop} {op : Sto → List RV → Option D} {e : Expr} {es : List Expr} {fs : DenA} {p pos : Pos} (hc : CallR X (.builtin id) r) (hd : CallD (gX X T) r op) (hg : Gl X x) (hm : X.mg x = none) (hv : bootBuiltins x = some (.builtin id))
    (ha : PA X (e :: es) (tA (gX X T) W fs)) (hn : x ≠ "__name__" := by decide) (hdb : (x == ("__debug__" : Str)) = false := by decide)
    (he : starEach (e :: es) X.env = (false, eval e X.env) :: starEach es X.env := by rfl) (hpl : (backTo pos (starEach es X.env)).any (·.1) = false := by rfl) : PE X (.Call (.Name x p) (e :: es) [] pos) (tD (gX X T) W (eCallV op fs)) :=
  (pe_callB hc hg hm hv ha hn hdb he hpl).le (tCB_D hd)
theorem df_callB {x : Str} {id : String} {r : List V → Hp → VK → Prop} {op : Sto → List RV → Option D} {e : Expr} {es : List Expr} {fs : DenA} {p pos : Pos} (hc : CallR X (.builtin id) r) (hd : CallF (gX X T) r op) (hg : Gl X x) (hm : X.mg x = none) (hv : bootBuiltins x = some (.builtin id))
    (ha : PA X (e :: es) (tA (gX X T) W fs)) (hn : x ≠ "__name__" := by decide) (hdb : (x == ("__debug__" : Str)) = false := by decide)
    (he : starEach (e :: es) X.env = (false, eval e X.env) :: starEach es X.env := by rfl) (hpl : (backTo pos (starEach es X.env)).any (·.1) = false := by rfl) : PE X (.Call (.Name x p) (e :: es) [] pos) (tF (gX X T) W (eCallV op fs)) :=
  (pe_callB hc hg hm hv ha hn hdb he hpl).le (tCB_F hd)
theorem de_callTy {x : Str} {id : String} {r : List V → Hp → VK → Prop} {op : Sto → List RV → Option D} {e : Expr} {es : List Expr} {fs : DenA} {p pos : Pos} (hc : CallR X (.type id) r) (hd : CallD (gX X T) r op) (hg : Gl X x) (hm : X.mg x = none) (hv : bootBuiltins x = some (.type id))
    (ha : PA X (e :: es) (tA (gX X T) W fs)) (hn : x ≠ "__name__" := by decide) (hdb : (x == ("__debug__" : Str)) = false := by decide)
    (he : starEach (e :: es) X.env = (false, eval e X.env) :: starEach es X.env := by rfl) (hpl : (backTo pos (starEach es X.env)).any (·.1) = false := by rfl) : PE X (.Call (.Name x p) (e :: es) [] pos) (tD (gX X T) W (eCallV op fs)) :=
  (pe_callTy hc hg hm hv ha hn hdb he hpl).le (tCB_D hd)
theorem df_callTy {x : Str} {id : String} {r : List V → Hp → VK → Prop} {op : Sto → List RV → Option D} {e : Expr} {es : List Expr} {fs : DenA} {p pos : Pos} (hc : CallR X (.type id) r) (hd : CallF (gX X T) r op) (hg : Gl X x) (hm : X.mg x = none) (hv : bootBuiltins x = some (.type id))
    (ha : PA X (e :: es) (tA (gX X T) W fs)) (hn : x ≠ "__name__" := by decide) (hdb : (x == ("__debug__" : Str)) = false := by decide)
    (he : starEach (e :: es) X.env = (false, eval e X.env) :: starEach es X.env := by rfl) (hpl : (backTo pos (starEach es X.env)).any (·.1) = false := by rfl) : PE X (.Call (.Name x p) (e :: es) [] pos) (tF (gX X T) W (eCallV op fs)) :=
  (pe_callTy hc hg hm hv ha hn hdb he hpl).le (tCB_F hd)
end

/-! ### what the built-ins make of data -/
section
variable {g : G}
theorem rrs1 {K : PySem.W.Frag} {F : Hp} {A : List Addr} {x : RV} {vs : List V} (h : RRs K F A [x] vs) : ∃ v, vs = [v] ∧ RR K F A x v := by
  cases vs with
  | nil => exact h.elim
  | cons v r =>
    cases r with
    | nil => exact ⟨v, rfl, h.1⟩
    | cons _ _ => exact h.2.elim
theorem rrs2 {K : PySem.W.Frag} {F : Hp} {A : List Addr} {x y : RV} {vs : List V} (h : RRs K F A [x, y] vs) : ∃ v w, vs = [v, w] ∧ RR K F A x v ∧ RR K F A y w := by
  cases vs with
  | nil => exact h.elim
  | cons v r =>
    obtain ⟨w, rfl, hw⟩ := rrs1 h.2
    exact ⟨v, w, rfl, h.1, hw⟩
/-- one argument that is data -/
def v1 (op : D → Option D) : Sto → List RV → Option D := fun S rs => match rs with
  | [x] => (val S x).bind op
  | _ => none
def v2 (op : D → D → Option D) : Sto → List RV → Option D := fun S rs => match rs with
  | [x, y] => (val S x).bind fun a => (val S y).bind fun b => op a b
  | _ => none
theorem v1_of {op : D → Option D} {S : Sto} {rs : List RV} {c : D} (h : v1 op S rs = some c) : ∃ x a, rs = [x] ∧ val S x = some a ∧ op a = some c := by
  unfold v1 at h
  split at h
  · rename_i x
    cases q : val S x with
    | none =>
      rw [q] at h
      cases h
    | some a =>
      rw [q] at h
      exact ⟨x, a, rfl, q, h⟩
  · cases h
theorem v2_of {op : D → D → Option D} {S : Sto} {rs : List RV} {c : D} (h : v2 op S rs = some c) : ∃ x y a b, rs = [x, y] ∧ val S x = some a ∧ val S y = some b ∧ op a b = some c := by
  unfold v2 at h
  split at h
  · rename_i x y
    cases q : val S x with
    | none =>
      rw [q] at h
      cases h
    | some a =>
      cases q2 : val S y with
      | none =>
        rw [q, q2] at h
        cases h
      | some b =>
        rw [q, q2] at h
        exact ⟨x, y, a, b, rfl, q, q2, h⟩
  · cases h
theorem CallD.of1 {r : List V → Hp → VK → Prop} {op : D → Option D} (h : ∀ P F A S H x a c Q, SRel g P F A S H → RD g.K F H x a → op a = some c → (∀ F' H' v, Ext F F' → SRel g P F' A S H' → DR g.K F' v c → Q v H') → r [x] H Q) : CallD g r (v1 op) := by
  intro P F A S H xs vs c Q sr rr hc k
  obtain ⟨x, a, rfl, h1, h2⟩ := v1_of hc
  obtain ⟨v, rfl, hv⟩ := rrs1 rr
  exact h P F A S H v a c Q sr (sr.read hv h1) h2 k
theorem CallF.of1 {r : List V → Hp → VK → Prop} {op : D → Option D} (h : ∀ P F A S H x a c Q, SRel g P F A S H → RD g.K F H x a → op a = some c → (∀ ds H' p vs, c = .list ds → SRel g P F A S H' → H' p = some (.lst vs) → DRs g.K F vs ds → F p = none → p ∉ A → P p = none → Q (.ref p) H') → r [x] H Q) : CallF g r (v1 op) := by
  intro P F A S H xs vs c Q sr rr hc k
  obtain ⟨x, a, rfl, h1, h2⟩ := v1_of hc
  obtain ⟨v, rfl, hv⟩ := rrs1 rr
  exact h P F A S H v a c Q sr (sr.read hv h1) h2 k
theorem CallD.of2 {r : List V → Hp → VK → Prop} {op : D → D → Option D} (h : ∀ P F A S H x y a b c Q, SRel g P F A S H → RD g.K F H x a → RD g.K F H y b → op a b = some c → (∀ F' H' v, Ext F F' → SRel g P F' A S H' → DR g.K F' v c → Q v H') → r [x, y] H Q) : CallD g r (v2 op) := by
  intro P F A S H xs vs c Q sr rr hc k
  obtain ⟨x, y, a, b, rfl, h1, h2, h3⟩ := v2_of hc
  obtain ⟨v, w, rfl, hv, hw⟩ := rrs2 rr
  exact h P F A S H v w a b c Q sr (sr.read hv h1) (sr.read hw h2) h3 k

def dLen : D → Option D
  | .list ds => some (.int ds.length)
  | .tuple ds => some (.int ds.length)
  | .str z => if z.length ≤ sizeLine then some (.int z.length) else none
  | _ => none
/-- len: also of the script -/
def vLen : Sto → List RV → Option D := fun S rs => match rs with
  | [.s ns] => some (.int ns.length)
  | [x] => (val S x).bind dLen
  | _ => none
theorem callD_len : CallD g (fun xs H Q => ∃ x n, xs = [x] ∧ LenV g.K x H n ∧ Q (.int n) H) vLen := by
  intro P F A S H xs vs c Q sr rr hc k
  unfold vLen at hc
  split at hc
  · cases hc
    obtain ⟨v, rfl, a, rfl, hf⟩ := rrs1 rr
    refine ⟨_, _, rfl, .inl ⟨_, sr.sub.sql hf, rfl⟩, ?_⟩
    rw [List.length_map]
    exact fin0 sr k (.int _)
  · rename_i x _
    obtain ⟨v, rfl, hv⟩ := rrs1 rr
    cases q : val S x with
    | none =>
      rw [q] at hc
      cases hc
    | some a =>
      rw [q] at hc
      have hr := sr.read hv q
      have hc : dLen a = some c := hc
      unfold dLen at hc
      split at hc
      · cases hc
        obtain ⟨p, ws, rfl, h1, h2⟩ := rd_lst hr
        refine ⟨_, _, rfl, .inl ⟨_, SqL.of h1, rfl⟩, ?_⟩
        rw [h2.length]
        exact fin0 sr k (.int _)
      · cases hc
        obtain ⟨p, ws, rfl, h1, h2⟩ := rd_tup sr.sub hr
        refine ⟨_, _, rfl, .inr ⟨_, h1, rfl⟩, ?_⟩
        rw [h2.length]
        exact fin0 sr k (.int _)
      · split at hc
        · rename_i z _ hl
          cases hc
          rw [rd_str hr]
          exact ⟨_, z.length, rfl, ⟨hl, rfl⟩, fin0 sr k (.int _)⟩
        · cases hc
      · cases hc
  · cases hc
def dAbs : D → Option D
  | .int i => some (.int (if i < 0 then -i else i))
  | _ => none
theorem callD_abs : CallD g (fun xs H Q => ∃ i, xs = [.int i] ∧ Q (.int (if i < 0 then -i else i)) H) (v1 dAbs) := CallD.of1 fun P F A S H x a c Q sr hx hc k => by
  unfold dAbs at hc
  split at hc
  · cases hc
    rw [rd_int hx]
    exact ⟨_, rfl, fin0 sr k (.int _)⟩
  · cases hc
def dMax2 : D → D → Option D
  | .int i, .int j => some (.int (if j > i then j else i))
  | _, _ => none
theorem callD_max2 : CallD g (fun xs H Q => ∃ i j, xs = [.int i, .int j] ∧ Q (.int (if j > i then j else i)) H) (v2 dMax2) := CallD.of2 fun P F A S H x y a b c Q sr hx hy hc k => by
  unfold dMax2 at hc
  split at hc
  · cases hc
    rw [rd_int hx, rd_int hy]
    exact ⟨_, _, rfl, fin0 sr k (.int _)⟩
  · cases hc
def dMin2 : D → D → Option D
  | .int i, .int j => some (.int (if j < i then j else i))
  | _, _ => none
theorem callD_min2 : CallD g (fun xs H Q => ∃ i j, xs = [.int i, .int j] ∧ Q (.int (if j < i then j else i)) H) (v2 dMin2) := CallD.of2 fun P F A S H x y a b c Q sr hx hy hc k => by
  unfold dMin2 at hc
  split at hc
  · cases hc
    rw [rd_int hx, rd_int hy]
    exact ⟨_, _, rfl, fin0 sr k (.int _)⟩
  · cases hc
def dInt : D → Option D
  | .int i => some (.int i)
  | .bool b => some (.int (if b then 1 else 0))
  | _ => none
theorem callD_int : CallD g (fun xs H Q => (∃ i, xs = [.int i] ∧ Q (.int i) H) ∨ ∃ k, xs = [.bl k] ∧ Q (.int (if k then 1 else 0)) H) (v1 dInt) := CallD.of1 fun P F A S H x a c Q sr hx hc k => by
  unfold dInt at hc
  split at hc
  · cases hc
    rw [rd_int hx]
    exact .inl ⟨_, rfl, fin0 sr k (.int _)⟩
  · cases hc
    rw [rd_bl hx]
    exact .inr ⟨_, rfl, fin0 sr k (.int _)⟩
  · cases hc
/-- tuple(x) -/
def dTuple : D → Option D
  | .list ds => some (.tuple ds)
  | .tuple ds => some (.tuple ds)
  | _ => none
theorem callD_tuple : CallD g (fun xs H Q => ∃ p ys, xs = [.ref p] ∧ ((SqL g.K H p ys ∧ TQ H ys Q) ∨ (SqT g.K H p ys ∧ Q (.ref p) H))) (v1 dTuple) := CallD.of1 fun P F A S H x a c Q sr hx hc k => by
  unfold dTuple at hc
  split at hc
  · cases hc
    obtain ⟨p, vs, rfl, h1, h2⟩ := rd_lst hx
    exact ⟨p, vs, rfl, .inl ⟨SqL.of h1, finT sr k h2⟩⟩
  · cases hc
    obtain ⟨p, vs, rfl, h1, h2⟩ := rd_tup sr.sub hx
    exact ⟨p, vs, rfl, .inr ⟨h1, fin0 sr k hx⟩⟩
  · cases hc
/-- list(x): also of the script -/
def vList : Sto → List RV → Option D := fun S rs => match rs with
  | [.s ns] => some (.list (ns.map .int))
  | [x] => (match val S x with
    | some (.list ds) => some (.list ds)
    | some (.tuple ds) => some (.list ds)
    | _ => none)
  | _ => none
theorem callF_list : CallF g (fun xs H Q => ∃ p ys, xs = [.ref p] ∧ (SqL g.K H p ys ∨ SqT g.K H p ys) ∧ ∀ l, H l = none → Q (.ref l) (upd H l (.lst ys))) vList := by
  intro P F A S H xs vs c Q sr rr hc k
  unfold vList at hc
  split at hc
  · cases hc
    obtain ⟨v, rfl, a, rfl, hf⟩ := rrs1 rr
    exact ⟨_, _, rfl, .inl (sr.sub.sql hf), fun l hl => finN sr k rfl (DRs.ints _) hl⟩
  · obtain ⟨v, rfl, hv⟩ := rrs1 rr
    split at hc
    · rename_i ds q
      cases hc
      obtain ⟨p, vs, rfl, h1, h2⟩ := rd_lst (sr.read hv q)
      exact ⟨_, _, rfl, .inl (SqL.of h1), fun l hl => finN sr k rfl h2 hl⟩
    · rename_i ds q
      cases hc
      obtain ⟨p, vs, rfl, h1, h2⟩ := rd_tup sr.sub (sr.read hv q)
      exact ⟨_, _, rfl, .inr h1, fun l hl => finN sr k rfl h2 hl⟩
    · cases hc
  · cases hc
/-- lists of True and False, of intsD -/
def boolsD : List D → Option (List Bool)
  | [] => some []
  | .bool b :: r => (boolsD r).map (b :: ·)
  | _ :: _ => none
def intsD : List D → Option (List Int)
  | [] => some []
  | .int b :: r => (intsD r).map (b :: ·)
  | _ :: _ => none
theorem boolsD_ok {K : PySem.W.Frag} {F : Hp} : ∀ {ds : List D} {vs : List V} {bs : List Bool}, boolsD ds = some bs → DRs K F vs ds → vs = bs.map V.bl
  | [], _, _, h, r => by
    cases h
    cases r
    rfl
  | .bool b :: ds, _, _, h, r => by
    unfold boolsD at h
    cases q : boolsD ds with
    | none =>
      rw [q] at h
      cases h
    | some es =>
      rw [q] at h
      cases h
      cases r with
      | cons r1 r2 =>
        cases r1
        rw [boolsD_ok q r2]
        rfl
  | .none :: _, _, _, h, _ => by cases h
  | .int _ :: _, _, _, h, _ => by cases h
  | .str _ :: _, _, _, h, _ => by cases h
  | .list _ :: _, _, _, h, _ => by cases h
  | .tuple _ :: _, _, _, h, _ => by cases h
  | .dict _ :: _, _, _, h, _ => by cases h
theorem intsD_ok {K : PySem.W.Frag} {F : Hp} : ∀ {ds : List D} {vs : List V} {bs : List Int}, intsD ds = some bs → DRs K F vs ds → vs = bs.map V.int
  | [], _, _, h, r => by
    cases h
    cases r
    rfl
  | .int b :: ds, _, _, h, r => by
    unfold intsD at h
    cases q : intsD ds with
    | none =>
      rw [q] at h
      cases h
    | some es =>
      rw [q] at h
      cases h
      cases r with
      | cons r1 r2 =>
        cases r1
        rw [intsD_ok q r2]
        rfl
  | .none :: _, _, _, h, _ => by cases h
  | .bool _ :: _, _, _, h, _ => by cases h
  | .str _ :: _, _, _, h, _ => by cases h
  | .list _ :: _, _, _, h, _ => by cases h
  | .tuple _ :: _, _, _, h, _ => by cases h
  | .dict _ :: _, _, _, h, _ => by cases h
theorem intsD_map : ∀ ns : List Int, intsD (ns.map PyData.int) = some ns
  | [] => rfl
  | n :: ns => by
    show (intsD (ns.map PyData.int)).map (n :: ·) = _
    rw [intsD_map ns]
    rfl
theorem boolsD_map : ∀ ns : List Bool, boolsD (ns.map PyData.bool) = some ns
  | [] => rfl
  | n :: ns => by
    show (boolsD (ns.map PyData.bool)).map (n :: ·) = _
    rw [boolsD_map ns]
    rfl
def dAll : D → Option D
  | .list ds => (boolsD ds).map fun bs => .bool (bs.all id)
  | _ => none
theorem callD_all : CallD g (rAll g.K) (v1 dAll) := CallD.of1 fun P F A S H x a c Q sr hx hc k => by
  unfold dAll at hc
  split at hc
  · rename_i ds
    cases q : boolsD ds with
    | none =>
      rw [q] at hc
      cases hc
    | some bs =>
      rw [q] at hc
      cases hc
      obtain ⟨p, vs, rfl, h1, h2⟩ := rd_lst hx
      exact ⟨p, bs, rfl, by rw [← boolsD_ok q h2]; exact SqL.of h1, fin0 sr k (.bl _)⟩
  · cases hc
def dAny : D → Option D
  | .list ds => (boolsD ds).map fun bs => .bool (bs.any id)
  | _ => none
theorem callD_any : CallD g (rAny g.K) (v1 dAny) := CallD.of1 fun P F A S H x a c Q sr hx hc k => by
  unfold dAny at hc
  split at hc
  · rename_i ds
    cases q : boolsD ds with
    | none =>
      rw [q] at hc
      cases hc
    | some bs =>
      rw [q] at hc
      cases hc
      obtain ⟨p, vs, rfl, h1, h2⟩ := rd_lst hx
      exact ⟨p, bs, rfl, by rw [← boolsD_ok q h2]; exact SqL.of h1, fin0 sr k (.bl _)⟩
  · cases hc
def dSum : D → Option D
  | .list ds => (intsD ds).map fun bs => .int bs.sum
  | _ => none
theorem callD_sum : CallD g (rSum g.K) (v1 dSum) := CallD.of1 fun P F A S H x a c Q sr hx hc k => by
  unfold dSum at hc
  split at hc
  · rename_i ds
    cases q : intsD ds with
    | none =>
      rw [q] at hc
      cases hc
    | some bs =>
      rw [q] at hc
      cases hc
      obtain ⟨p, vs, rfl, h1, h2⟩ := rd_lst hx
      exact ⟨p, bs, rfl, by rw [← intsD_ok q h2]; exact SqL.of h1, fin0 sr k (.int _)⟩
  · cases hc
/-- an ascending row of intsD -/
def sortI (ns : List Int) : List Int := ns.mergeSort fun a b => decide (a ≤ b)
theorem sortI_perm (ns : List Int) : (sortI ns).Perm ns := List.mergeSort_perm _ _
theorem sortI_sorted (ns : List Int) : (sortI ns).Pairwise (· ≤ ·) := by
  have h := List.pairwise_mergeSort (le := fun a b : Int => decide (a ≤ b)) (fun a b c h1 h2 => by simp at *; omega) (fun a b => by simp; omega) ns
  exact h.imp fun {a b} h => by simpa using h
theorem sorted_one : ∀ {as bs : List Int}, as.Perm bs → as.Pairwise (· ≤ ·) → bs.Pairwise (· ≤ ·) → as = bs := fun {as bs} p ha hb =>
  p.eq_of_pairwise (fun a b _ _ h1 h2 => by omega) ha hb
/-- sorted(x): a list or a tuple of ints -/
def dSorted : D → Option D
  | .list ds => (intsD ds).map fun ns => .list ((sortI ns).map .int)
  | .tuple ds => (intsD ds).map fun ns => .list ((sortI ns).map .int)
  | _ => none
theorem callF_sorted : CallF g (rSortedD g.K) (v1 dSorted) := CallF.of1 fun P F A S H x a c Q sr hx hc k => by
  have fin : ∀ {p : Addr} {vs : List V} {ds : List D} {bs : List Int}, intsD ds = some bs → DRs g.K F vs ds → c = .list ((sortI bs).map .int) → (SqL g.K H p vs ∨ SqT g.K H p vs) → rSortedD g.K [.ref p] H Q := by
    intro p vs ds bs q h2 ec hs
    refine ⟨p, bs, rfl, by rw [← intsD_ok q h2]; exact hs, fun ns' l hp ho hl => ?_⟩
    rw [sorted_one (hp.trans (sortI_perm bs).symm) ho (sortI_sorted bs)]
    exact finN sr k ec (DRs.ints _) hl
  unfold dSorted at hc
  split at hc
  · rename_i ds
    cases q : intsD ds with
    | none =>
      rw [q] at hc
      cases hc
    | some bs =>
      rw [q] at hc
      obtain ⟨p, vs, rfl, h1, h2⟩ := rd_lst hx
      exact fin q h2 (Option.some.inj hc).symm (.inl (SqL.of h1))
  · rename_i ds
    cases q : intsD ds with
    | none =>
      rw [q] at hc
      cases hc
    | some bs =>
      rw [q] at hc
      obtain ⟨p, vs, rfl, h1, h2⟩ := rd_tup sr.sub hx
      exact fin q h2 (Option.some.inj hc).symm (.inr h1)
  · cases hc
end

/-! ### isinstance -/
def tyOf : D → String
  | .none => "NoneType"
  | .bool _ => "bool"
  | .int _ => "int"
  | .str _ => "str"
  | .list _ => "list"
  | .tuple _ => "tuple"
  | .dict _ => "dict"
def dIsi (ty : String) : D → Option D
  | .dict _ => none
  | a => (kitB (tyOf a) ty).map .bool
abbrev eIsi (ty : String) (f : Den) : Den := eUn (dIsi ty) f
section
variable {X : Cx} {T : List (Addr × Str)} {W : WX}
theorem tyx_of {K : PySem.W.Frag} {F H : Hp} {x : V} {a : D} (e : Ext F H) (h : RD K F H x a) (hd : ∀ l, a ≠ .dict l) : TyX K H x (.type (tyOf a)) := by
  cases a with
  | none =>
    rw [rd_non h]
    exact .base .non
  | bool b =>
    rw [rd_bl h]
    exact .base (.bl b)
  | int b =>
    rw [rd_int h]
    exact .base (.int b)
  | str b =>
    rw [rd_str h]
    exact .base (.str b)
  | list ds =>
    obtain ⟨p, vs, rfl, h1, _⟩ := rd_lst h
    exact .base (.lst h1)
  | tuple ds =>
    obtain ⟨p, vs, rfl, h1, _⟩ := rd_tup e h
    rcases h1 with (h1 | ⟨o, h1⟩) | ⟨o, its, n, h1, h2, _⟩
    · exact .base (.tup h1)
    · exact .fTuple h1
    · exact .kTuple h1 h2
  | dict ds => exact (hd ds rfl).elim
theorem de_isi {ty : String} {x : Str} {e : Expr} {f : Den} {p p2 pos : Pos} (hg : Gl X "isinstance") (hm : X.mg "isinstance" = none) (hg2 : Gl X x) (hm2 : X.mg x = none) (hv2 : bootBuiltins x = some (.type ty)) (ha : PE X e (tD (gX X T) W f))
    (hn2 : x ≠ "__name__" := by decide) (hdb2 : (x == ("__debug__" : Str)) = false := by decide)
    (hs : starEach [e, .Name x p2] X.env = (false, eval e X.env) :: starEach [.Name x p2] X.env := by rfl) (hs2 : starEach [.Name x p2] X.env = (false, eval (.Name x p2) X.env) :: starEach [] X.env := by rfl) (hpl : (backTo pos (starEach [.Name x p2] X.env)).any (·.1) = false := by rfl) :
    PE X (.Call (.Name "isinstance" p) [e, .Name x p2] [] pos) (tD (gX X T) W (eIsi ty f)) :=
  (pe_callB call_isi hg hm (by decide +kernel) (pa_cons ha (pa_cons (pe_bltn (v := .ty ty) hg2 hm2 hv2 rfl hn2 hdb2) pa_nil hs2) hs) (by decide) (by decide) hs hpl).le fun σ H Q ⟨P, F, A, ρ, S, sr, er, h⟩ => by
    refine tD_bD sr er h fun x S1 F1 A1 H1 v e1 p1 sr1 er1 rx h1 => ?_
    obtain ⟨a, c, ha, hc, h3⟩ := eUn_ok (P := fun o => DOk _ W P F1 A1 σ o Q) (fun z => z) h1
    have hr := sr1.read rx ha
    have hd : ∀ l, a ≠ .dict l := fun l z => by
      subst z
      cases hc
    have hc' : (kitB (tyOf a) ty).map PyData.bool = some c := by
      cases a with
      | dict l => exact (hd l rfl).elim
      | _ => exact hc
    cases q : kitB (tyOf a) ty with
    | none =>
      rw [q] at hc'
      cases hc'
    | some b =>
      rw [q] at hc'
      cases hc'
      exact ⟨v, _, _, _, b, rfl, .ty ty, tyx_of sr1.sub hr hd, kit_ty q, h3 F1 A1 H1 (.bl b) (Ext.refl _) (List.prefix_refl _) sr1 (.bl b)⟩

/-! ### ranges -/
def rangeD (lo hi : Int) : List D := (List.range (hi - lo).toNat).map fun (i : Nat) => PyData.int (lo + (i : Int))
theorem DRs.range {K : PySem.W.Frag} {F : Hp} (lo hi : Int) : DRs K F (rgV lo hi) (rangeD lo hi) := by
  unfold rgV rangeD
  generalize (hi - lo).toNat = n
  have key : ∀ l : List Nat, DRs K F (l.map fun (i : Nat) => V.int (lo + (i : Nat))) (l.map fun (i : Nat) => PyData.int (lo + (i : Int))) := fun l => by
    induction l with
    | nil => exact .nil
    | cons a l ih => exact .cons (.int _) ih
  exact key _
def rgOk (a b : Int) : Bool := decide (-(2 ^ 62) ≤ a) && decide (a < 2 ^ 62) && decide (-(2 ^ 62) ≤ b) && decide (b < 2 ^ 62) && decide ((b - a).toNat ≤ 2 ^ 24)
theorem rgOk_of {a b : Int} (h : rgOk a b = true) : RgOk a b := by
  unfold rgOk at h
  simp only [Bool.and_eq_true, decide_eq_true_eq] at h
  exact ⟨h.1.1.1.1, h.1.1.1.2, h.1.1.2, h.1.2, h.2⟩
def dRg1 (tup : Bool) : D → Option D
  | .int n => if rgOk 0 n then some (if tup then .tuple (rangeD 0 n) else .list (rangeD 0 n)) else none
  | _ => none
def dRg2 (tup : Bool) : D → D → Option D
  | .int a, .int b => if rgOk a b then some (if tup then .tuple (rangeD a b) else .list (rangeD a b)) else none
  | _, _ => none
/-- list(range(n)), tuple(range(n)) -/
theorem df_listRg1 {e : Expr} {f : Den} {p pos p' pos' : Pos} (hc : X.calm = true) (hg : Gl X "list") (hm : X.mg "list" = none) (hg2 : Gl X "range") (hm2 : X.mg "range" = none) (ha : PE X e (tD (gX X T) W f)) (na : starEach [e] X.env = (false, eval e X.env) :: starEach [] X.env := by rfl)
    (na2 : starEach [.Call (.Name "range" p') [e] [] pos'] X.env = (false, eval (.Call (.Name "range" p') [e] [] pos') X.env) :: starEach [] X.env := by rfl) : PE X (.Call (.Name "list" p) [.Call (.Name "range" p') [e] [] pos'] [] pos) (tF (gX X T) W (eUn (dRg1 false) f)) :=
  (pe_listRg hc hg hm (prg_1 hg2 hm2 ha na) na2).le fun σ H Q ⟨P, F, A, ρ, S, sr, er, h⟩ => by
    refine tD_bF sr er h fun x S1 F1 A1 H1 v e1 p1 sr1 er1 rx h1 => ?_
    obtain ⟨a, c, ha, hc, h3⟩ := eUn_ok (P := fun o => FOk _ W P F1 A1 σ o Q) (fun z => z) h1
    unfold dRg1 at hc
    split at hc
    · split at hc
      · rename_i n hl
        cases hc
        rw [rd_int (sr1.read rx ha)]
        refine ⟨n, rfl, rgOk_of hl, fun q hq => ?_⟩
        exact h3 F1 A1 (upd H1 q (.lst (rgV 0 n))) q _ (Ext.refl _) (List.prefix_refl _) (sr1.grow (Ext.new hq)) upd_same (DRs.range 0 n) (sr1.fresh hq).1 (sr1.fresh hq).2.1 (sr1.fresh hq).2.2
      · cases hc
    · cases hc
theorem de_tupRg1 {e : Expr} {f : Den} {p pos p' pos' : Pos} (hc : X.calm = true) (hg : Gl X "tuple") (hm : X.mg "tuple" = none) (hg2 : Gl X "range") (hm2 : X.mg "range" = none) (ha : PE X e (tD (gX X T) W f)) (na : starEach [e] X.env = (false, eval e X.env) :: starEach [] X.env := by rfl)
    (na2 : starEach [.Call (.Name "range" p') [e] [] pos'] X.env = (false, eval (.Call (.Name "range" p') [e] [] pos') X.env) :: starEach [] X.env := by rfl) : PE X (.Call (.Name "tuple" p) [.Call (.Name "range" p') [e] [] pos'] [] pos) (tD (gX X T) W (eUn (dRg1 true) f)) :=
  (pe_tupRgD hc hg hm (prg_1 hg2 hm2 ha na) na2).le fun σ H Q ⟨P, F, A, ρ, S, sr, er, h⟩ => by
    refine tD_bD sr er h fun x S1 F1 A1 H1 v e1 p1 sr1 er1 rx h1 => ?_
    obtain ⟨a, c, ha, hc, h3⟩ := eUn_ok (P := fun o => DOk _ W P F1 A1 σ o Q) (fun z => z) h1
    unfold dRg1 at hc
    split at hc
    · split at hc
      · rename_i n hl
        cases hc
        rw [rd_int (sr1.read rx ha)]
        exact ⟨n, rfl, rgOk_of hl, finT sr1 (fun F' H' v e' r' d' => h3 F' A1 H' v e' (List.prefix_refl _) r' d') (DRs.range 0 n)⟩
      · cases hc
    · cases hc
end
end DL

end
section
set_option Elab.async false
set_option linter.all false
set_option maxRecDepth 100000
set_option maxHeartbeats 1000000
namespace DL
open PySem PySem.Spec PyProof.Rows L2

/-! ### what comes of a statement; b: the first b cells are the callers', or walked by a loop -/
inductive SOut where
  | nx (ρ : Env) (S : Sto)
  | rt (d : D) (S : Sto)
  | bk (ρ : Env) (S : Sto)
  | ct (ρ : Env) (S : Sto)
  | exc (c : Str) (p : D) (ρ : Env) (S : Sto)
  | no
abbrev SDen := Nat → Env → Sto → SOut
def Kp (b : Nat) (A A' : List Addr) : Prop := A'.take b = A.take b ∧ b ≤ A'.length
theorem Kp.refl {b : Nat} {A : List Addr} (h : b ≤ A.length) : Kp b A A := ⟨rfl, h⟩
theorem Kp.trans {b : Nat} {A A1 A2 : List Addr} (h : Kp b A A1) (q : Kp b A1 A2) : Kp b A A2 := ⟨q.1.trans h.1, q.2⟩
theorem Kp.of {b : Nat} {A A' : List Addr} (h : b ≤ A.length) (p : A <+: A') : Kp b A A' := by
  obtain ⟨t, rfl⟩ := p
  exact ⟨List.take_append_of_le_length h, by rw [List.length_append]; omega⟩
theorem Kp.le {b c : Nat} {A A' : List Addr} (h : Kp c A A') (q : b ≤ c) : Kp b A A' := by
  refine ⟨?_, Nat.le_trans q h.2⟩
  have e := congrArg (List.take b) h.1
  rw [List.take_take, List.take_take, Nat.min_eq_left q] at e
  exact e
def WOk (g : G) (b : Nat) (P F : Hp) (A : List Addr) (ρ' : Env) (S' : Sto) (k : LSt → Hp → Prop) : Prop := ∀ F' A' σ' H', Ext F F' → Kp b A A' → SRel g P F' A' S' H' → ERel g F' A' ρ' σ' → k σ' H'
def XsOk (g : G) (b : Nat) (W : WX) (P F : Hp) (A : List Addr) (c : Str) (p : D) (ρ' : Env) (S' : Sto) : Prop :=
  ∀ F' A' σ' H' C dx fs pv, Ext F F' → Kp b A A' → SRel g P F' A' S' H' → ERel g F' A' ρ' σ' → g.mg c = some (.ref C) → H' dx = some (.xd fs) → fs.lookup ("place" : Str) = some pv → DR g.K F' pv p → W (.ref C) (some dx) σ' H'
def SOk (g : G) (b : Nat) (W : WX) (P F : Hp) (A : List Addr) : SOut → Ends → Prop
  | .nx ρ' S', D => WOk g b P F A ρ' S' D.nx
  | .rt d S', D => ∀ F' A' H' v, Ext F F' → Kp b A A' → SRel g P F' A' S' H' → DR g.K F' v d → D.rt v H'
  | .bk ρ' S', D => WOk g b P F A ρ' S' D.bk
  | .ct ρ' S', D => WOk g b P F A ρ' S' D.ct
  | .exc c p ρ' S', _ => XsOk g b W P F A c p ρ' S'
  | .no, _ => False
def tS (g : G) (W : WX) (s : SDen) : TS := fun D σ H => ∃ b P F A ρ S, SRel g P F A S H ∧ ERel g F A ρ σ ∧ b ≤ A.length ∧ SOk g b W P F A (s b ρ S) D
section
variable {g : G} {W : WX} {b : Nat} {P F F' H : Hp} {A A' : List Addr} {σ : LSt} {S : Sto} {ρ : Env}
theorem WOk.mono {ρ' : Env} {S' : Sto} {k : LSt → Hp → Prop} (e : Ext F F') (q : Kp b A A') (h : WOk g b P F A ρ' S' k) : WOk g b P F' A' ρ' S' k := fun F2 A2 σ2 H2 e2 p2 => h F2 A2 σ2 H2 (e.trans e2) (q.trans p2)
theorem SOk.mono {D : Ends} (e : Ext F F') (q : Kp b A A') : ∀ {o : SOut}, SOk g b W P F A o D → SOk g b W P F' A' o D
  | .nx _ _, h => WOk.mono e q h
  | .bk _ _, h => WOk.mono e q h
  | .ct _ _, h => WOk.mono e q h
  | .rt _ _, h => fun F2 A2 H2 v e2 p2 => h F2 A2 H2 v (e.trans e2) (q.trans p2)
  | .exc _ _ _ _, h => fun F2 A2 σ2 H2 C dx fs pv e2 p2 => h F2 A2 σ2 H2 C dx fs pv (e.trans e2) (q.trans p2)
  | .no, h => h
/-- an exception of an expression is one of the statement's -/
theorem XsOk.ex {c : Str} {p : D} (hb : b ≤ A.length) (e : ERel g F A ρ σ) (h : XsOk g b W P F A c p ρ S) : XcOk g W P F A σ c p S := fun F' A' H' C dx fs pv e1 p1 r hm hx hf hd =>
  h F' A' σ H' C dx fs pv e1 (Kp.of hb p1) r (e.mono e1 p1) hm hx hf hd
end
/-- an expression, then a statement -/
def sB (f : Den) (k : RV → SDen) : SDen := fun b ρ S => match f ρ S with
  | .ok r S' => k r b ρ S'
  | .exc c p S' => .exc c p ρ S'
  | .no => .no
theorem tD_bS {g : G} {W : WX} {b : Nat} {P F H : Hp} {A : List Addr} {σ : LSt} {S : Sto} {ρ : Env} {f : Den} {k : RV → SDen} {R : VK} {D : Ends} (r : SRel g P F A S H) (e : ERel g F A ρ σ) (hb : b ≤ A.length) (h : SOk g b W P F A (sB f k b ρ S) D)
    (hk : ∀ x S1 F1 A1 H1 v, Ext F F1 → A <+: A1 → SRel g P F1 A1 S1 H1 → ERel g F1 A1 ρ σ → RR g.K F1 A1 x v → b ≤ A1.length → SOk g b W P F1 A1 (k x b ρ S1) D → R v H1) : tD g W f σ H R := by
  refine ⟨P, F, A, ρ, S, r, e, ?_⟩
  unfold sB at h
  cases hf : f ρ S with
  | ok x S1 =>
    rw [hf] at h
    exact fun F1 A1 H1 v e1 p1 r1 rr => hk x S1 F1 A1 H1 v e1 p1 r1 (e.mono e1 p1) rr (Kp.of hb p1).2 (h.mono e1 (Kp.of hb p1))
  | exc c p S1 =>
    rw [hf] at h
    exact XsOk.ex hb e h
  | no =>
    rw [hf] at h
    exact h
theorem tB_bS {g : G} {W : WX} {b : Nat} {P F H : Hp} {A : List Addr} {σ : LSt} {S : Sto} {ρ : Env} {f : Den} {k : RV → SDen} {R : Bool → Hp → Prop} {D : Ends} (r : SRel g P F A S H) (e : ERel g F A ρ σ) (hb : b ≤ A.length) (h : SOk g b W P F A (sB f k b ρ S) D)
    (hno : ∀ x, (∀ b, x ≠ .d (.bool b)) → k x = fun _ _ _ => .no)
    (hk : ∀ c S1 F1 A1 H1, Ext F F1 → A <+: A1 → SRel g P F1 A1 S1 H1 → ERel g F1 A1 ρ σ → b ≤ A1.length → SOk g b W P F1 A1 (k (.d (.bool c)) b ρ S1) D → R c H1) : tB' g W f σ H R := by
  refine ⟨P, F, A, ρ, S, r, e, ?_⟩
  unfold sB at h
  cases hf : f ρ S with
  | ok x S1 =>
    rw [hf] at h
    have h : SOk g b W P F A (k x b ρ S1) D := h
    by_cases hb2 : ∃ b, x = .d (.bool b)
    · obtain ⟨c, rfl⟩ := hb2
      exact fun F1 A1 H1 e1 p1 r1 => hk c S1 F1 A1 H1 e1 p1 r1 (e.mono e1 p1) (Kp.of hb p1).2 (h.mono e1 (Kp.of hb p1))
    · rw [hno x fun b z => hb2 ⟨b, z⟩] at h
      exact h.elim
  | exc c p S1 =>
    rw [hf] at h
    exact XsOk.ex hb e h
  | no =>
    rw [hf] at h
    exact h.elim

/-! ### small statements -/
def sNil : SDen := fun _ ρ S => .nx ρ S
def sSeq (s t : SDen) : SDen := fun b ρ S => match s b ρ S with
  | .nx ρ' S' => t b ρ' S'
  | o => o
def sBrk : SDen := fun _ ρ S => .bk ρ S
def sCont : SDen := fun _ ρ S => .ct ρ S
def sExpr (f : Den) : SDen := sB f fun _ _ ρ S => .nx ρ S
def sAsg (i : Nat) (f : Den) : SDen := sB f fun r _ ρ S => .nx (ρ.set i (some r)) S
def retOf (b : Nat) (S : Sto) : RV → SOut
  | .d d => .rt d (S.take b)
  | .m j => if b ≤ j then (match S[j]? with
    | some (.lst ds) => .rt (.list ds) (S.take b)
    | none => .no) else .no
  | .s _ => .no
def sRet (f : Den) : SDen := sB f fun r b _ S => retOf b S r
def sRetN : SDen := fun b _ S => .rt .none (S.take b)
def sIf (t : Den) (s u : SDen) : SDen := sB t fun x => match x with
  | .d (.bool true) => s
  | .d (.bool false) => u
  | _ => fun _ _ _ => .no
section
variable {X : Cx} {T : List (Addr × Str)} {W : WX}
theorem dss_nil : PSs X [] (tS (gX X T) W sNil) := pss_nil.le fun D σ H ⟨b, P, F, A, ρ, S, r, e, hb, h⟩ => h F A σ H (Ext.refl _) (Kp.refl hb) r e
theorem SOk.seq {g : G} {b : Nat} {P F : Hp} {A : List Addr} {s t : SDen} {ρ : Env} {S : Sto} {D : Ends} (h : SOk g b W P F A (sSeq s t b ρ S) D) (hb : b ≤ A.length) : SOk g b W P F A (s b ρ S) { D with nx := tS g W t D } := by
  unfold sSeq at h
  cases hs : s b ρ S with
  | nx ρ' S' =>
    rw [hs] at h
    exact fun F1 A1 σ1 H1 e1 k1 r1 er1 => ⟨b, P, F1, A1, ρ', S', r1, er1, k1.2, h.mono e1 k1⟩
  | rt d S' =>
    rw [hs] at h
    exact h
  | bk ρ' S' =>
    rw [hs] at h
    exact h
  | ct ρ' S' =>
    rw [hs] at h
    exact h
  | exc c p ρ' S' =>
    rw [hs] at h
    exact h
  | no =>
    rw [hs] at h
    exact h
theorem dss_cons {st : Stmt} {rest : List Stmt} {s t : SDen} (h1 : PS X st (tS (gX X T) W s)) (h2 : PSs X rest (tS (gX X T) W t)) : PSs X (st :: rest) (tS (gX X T) W (sSeq s t)) :=
  (pss_cons h1 h2).le fun D σ H ⟨b, P, F, A, ρ, S, r, e, hb, h⟩ => ⟨b, P, F, A, ρ, S, r, e, hb, h.seq hb⟩
theorem dss_one {st : Stmt} {s : SDen} (h1 : PS X st (tS (gX X T) W s)) : PSs X [st] (tS (gX X T) W s) := pss_one h1
theorem ds_pass {pos : Pos} : PS X (.Pass pos) (tS (gX X T) W sNil) := ps_pass.le fun D σ H ⟨b, P, F, A, ρ, S, r, e, hb, h⟩ => h F A σ H (Ext.refl _) (Kp.refl hb) r e
theorem ds_brk {pos : Pos} : PS X (.Break pos) (tS (gX X T) W sBrk) := ps_break.le fun D σ H ⟨b, P, F, A, ρ, S, r, e, hb, h⟩ => h F A σ H (Ext.refl _) (Kp.refl hb) r e
theorem ds_cont {pos : Pos} : PS X (.Continue pos) (tS (gX X T) W sCont) := ps_continue.le fun D σ H ⟨b, P, F, A, ρ, S, r, e, hb, h⟩ => h F A σ H (Ext.refl _) (Kp.refl hb) r e
theorem ds_expr {e : Expr} {f : Den} {pos : Pos} (he : PE X e (tD (gX X T) W f)) (hs : swapsWith e none pos.line X.env = pure false := by rfl) : PS X (.Expr e pos) (tS (gX X T) W (sExpr f)) :=
  (ps_expr he hs).le fun D σ H ⟨b, P, F, A, ρ, S, r, e, hb, h⟩ => tD_bS r e hb h fun x S1 F1 A1 H1 v e1 p1 r1 er1 rx hb1 h1 => h1 F1 A1 σ H1 (Ext.refl _) (Kp.refl hb1) r1 er1
theorem tAsg_D {g : G} {i : Nat} {f : Den} (D : Ends) (σ : LSt) (H : Hp) (h : tS g W (sAsg i f) D σ H) : tAsg (tD g W f) (gName i) D σ H := by
  obtain ⟨b, P, F, A, ρ, S, r, e, hb, h⟩ := h
  exact tD_bS r e hb h fun x S1 F1 A1 H1 v e1 p1 r1 er1 rx hb1 h1 => h1 F1 A1 (σ.set i (some v)) H1 (Ext.refl _) (Kp.refl hb1) r1 (er1.set rx)
theorem ds_set {i : Nat} {x : Str} {e : Expr} {f : Den} {pos pos' : Pos} (hN : X.N.Nodup) (hi : X.N[i]? = some x) (hx : Loc X.env.scope x) (he : PE X e (tD (gX X T) W f)) (hs : swapsWith e (some (.Name x pos')) pos.line X.env = pure false := by rfl)
    (hf : X.fn x = true ∨ X.env.scope.names.lookup x = some .local := by first | exact .inl rfl | exact .inr rfl | assumption) : PS X (.Assign [.Name x pos'] e pos) (tS (gX X T) W (sAsg i f)) := (ps_set hN hi hx he hs hf).le tAsg_D
theorem retOf_ok {g : G} {b : Nat} {P F H : Hp} {A : List Addr} {S : Sto} {r : RV} {v : V} {D : Ends} (sr : SRel g P F A S H) (hb : b ≤ A.length) (rr : RR g.K F A r v) (h : SOk g b W P F A (retOf b S r) D) : D.rt v H := by
  cases r with
  | d d => exact h F (A.take b) H v (Ext.refl _) ⟨by rw [List.take_take, Nat.min_self], by rw [List.length_take, Nat.min_eq_left hb]; exact Nat.le_refl _⟩ (sr.drop b) rr
  | m j =>
    obtain ⟨a, ha, rfl⟩ := rr
    have h : SOk g b W P F A (if b ≤ j then (match S[j]? with
      | some (.lst ds) => .rt (.list ds) (S.take b)
      | none => .no) else .no) D := h
    by_cases hj : b ≤ j
    · rw [if_pos hj] at h
      have hl : j < S.length := by
        rw [← sr.len]
        exact (List.getElem?_eq_some_iff.mp ha).1
      obtain ⟨fa, o, h3, h4⟩ := sr.cell j a S[j] ha (List.getElem?_eq_getElem hl)
      rw [List.getElem?_eq_getElem hl] at h
      cases hc : S[j] with
      | lst ds =>
        rw [hc] at h h4
        obtain ⟨vs, rfl, h5⟩ := h4
        have na : a ∉ A.take b := fun hm => by
          obtain ⟨k, hk⟩ := List.getElem?_of_mem hm
          have hkb : k < b := by
            have := (List.getElem?_eq_some_iff.mp hk).1
            rw [List.length_take] at this
            omega
          rw [List.getElem?_take, if_pos hkb] at hk
          obtain ⟨x1, y1⟩ := List.getElem?_eq_some_iff.mp hk
          obtain ⟨x2, y2⟩ := List.getElem?_eq_some_iff.mp ha
          have := (List.getElem_inj sr.nd).mp (y1.trans y2.symm)
          omega
        have pa : P a = none := by
          cases q : P a with
          | none => rfl
          | some u => exact absurd (List.mem_of_getElem? ha) (sr.pin a u q).2.2.1
        exact h (upd F a (.lst vs)) (A.take b) H (.ref a) (Ext.new fa) ⟨by rw [List.take_take, Nat.min_self], by rw [List.length_take, Nat.min_eq_left hb]; exact Nat.le_refl _⟩ ((sr.drop b).freeze pa fa na h3 trivial) (.lst upd_same (h5.mono (Ext.new fa)))
    · rw [if_neg hj] at h
      exact h.elim
  | s ns => exact h.elim
theorem ds_ret {e : Expr} {f : Den} {pos : Pos} (he : PE X e (tD (gX X T) W f)) : PS X (.Return (some e) pos) (tS (gX X T) W (sRet f)) :=
  (ps_ret he).le fun D σ H ⟨b, P, F, A, ρ, S, r, e, hb, h⟩ => tD_bS r e hb h fun x S1 F1 A1 H1 v e1 p1 r1 er1 rx hb1 h1 => retOf_ok r1 hb1 rx h1
theorem ds_retN {pos : Pos} : PS X (.Return none pos) (tS (gX X T) W sRetN) :=
  ps_retN.le fun D σ H ⟨b, P, F, A, ρ, S, r, e, hb, h⟩ => h F (A.take b) H .non (Ext.refl _) ⟨by rw [List.take_take, Nat.min_self], by rw [List.length_take, Nat.min_eq_left hb]; exact Nat.le_refl _⟩ (r.drop b) .non
theorem ds_if {c : Expr} {a b : List Stmt} {t : Den} {s u : SDen} {pos : Pos} (hc : PT X c (tB' (gX X T) W t)) (ha : PSs X a (tS (gX X T) W s)) (hb : PSs X b (tS (gX X T) W u)) : PS X (.If c a b pos) (tS (gX X T) W (sIf t s u)) :=
  (ps_if hc ha hb).le fun D σ H ⟨b, P, F, A, ρ, S, r, e, hb, h⟩ => tB_bS r e hb h (fun x hx => by
      split
      · exact (hx _ rfl).elim
      · exact (hx _ rfl).elim
      · rfl) fun c S1 F1 A1 H1 e1 p1 r1 er1 hb1 h1 => by
    cases c with
    | true => exact ⟨b, P, F1, A1, ρ, S1, r1, er1, hb1, h1⟩
    | false => exact ⟨b, P, F1, A1, ρ, S1, r1, er1, hb1, h1⟩

/-! ### while -/
def loopW (t : Den) (s : SDen) : Nat → SDen
  | 0 => fun _ _ _ => .no
  | n + 1 => sB t fun x => match x with
    | .d (.bool true) => fun b ρ S => (match s b ρ S with
      | .nx ρ' S' => loopW t s n b ρ' S'
      | .ct ρ' S' => loopW t s n b ρ' S'
      | .bk ρ' S' => .nx ρ' S'
      | o => o)
    | .d (.bool false) => fun _ ρ S => .nx ρ S
    | _ => fun _ _ _ => .no
@[irreducible] def fuel : Nat := 1000000000
def sWhile (t : Den) (s : SDen) : SDen := loopW t s fuel
theorem ds_while {c : Expr} {body : List Stmt} {t : Den} {s : SDen} {pos : Pos} (hp : PassesOwn (model X.prog X.w) X.A X.env X.xe) (hc : PT X c (tB' (gX X T) W t)) (hb : PSs X body (tS (gX X T) W s)) : PS X (.While c body [] pos) (tS (gX X T) W (sWhile t s)) :=
  (ps_while hp hc hb).le fun D σ H ⟨b, P, F, A, ρ, S, r, e, hb, h⟩ => by
    refine ⟨fun m σ H => ∃ F A ρ S, SRel (gX X T) P F A S H ∧ ERel (gX X T) F A ρ σ ∧ b ≤ A.length ∧ SOk (gX X T) b W P F A (loopW t s m b ρ S) D, ⟨fuel, F, A, ρ, S, r, e, hb, h⟩, fun m σ H hw => ?_⟩
    obtain ⟨F, A, ρ, S, r, e, hb, h⟩ := hw
    cases m with
    | zero => exact h.elim
    | succ m =>
      refine tB_bS r e hb h (fun x hx => by
        split
        · exact (hx _ rfl).elim
        · exact (hx _ rfl).elim
        · rfl) fun c S1 F1 A1 H1 e1 p1 r1 er1 hb1 h1 => ?_
      cases c with
      | false => exact h1 F1 A1 σ H1 (Ext.refl _) (Kp.refl hb1) r1 er1
      | true =>
        refine ⟨fun σ' H' => ∃ F A ρ S, SRel (gX X T) P F A S H' ∧ ERel (gX X T) F A ρ σ' ∧ b ≤ A.length ∧ SOk (gX X T) b W P F A (loopW t s m b ρ S) D, fun σ' H' hn => ⟨m, Nat.lt_succ_self m, hn⟩, ?_⟩
        refine ⟨b, P, F1, A1, ρ, S1, r1, er1, hb1, ?_⟩
        have h1 : SOk (gX X T) b W P F1 A1 (match s b ρ S1 with
          | .nx ρ' S' => loopW t s m b ρ' S'
          | .ct ρ' S' => loopW t s m b ρ' S'
          | .bk ρ' S' => .nx ρ' S'
          | o => o) D := h1
        cases hs : s b ρ S1 with
        | nx ρ' S' =>
          simp only [hs] at h1
          exact fun F2 A2 σ2 H2 e2 k2 r2 er2 => ⟨F2, A2, ρ', S', r2, er2, k2.2, h1.mono e2 k2⟩
        | ct ρ' S' =>
          simp only [hs] at h1
          exact fun F2 A2 σ2 H2 e2 k2 r2 er2 => ⟨F2, A2, ρ', S', r2, er2, k2.2, h1.mono e2 k2⟩
        | bk ρ' S' =>
          simp only [hs] at h1
          exact h1
        | rt d S' =>
          simp only [hs] at h1
          exact h1
        | exc c p ρ' S' =>
          simp only [hs] at h1
          exact h1
        | no =>
          simp only [hs] at h1
          exact h1

/-! ### patterns of names -/
end
inductive Pat where
  | nm (j : Nat)
  | tup (ps : List Pat)
mutual
def gP (K : PySem.W.Frag) : Pat → TG
  | .nm j => gName j
  | .tup ps => gTup K ps.length (gPs K ps)
def gPs (K : PySem.W.Frag) : List Pat → TGs
  | [] => gNil
  | p :: ps => gCons (gP K p) (gPs K ps)
end
mutual
def setP : Pat → D → Env → Option Env
  | .nm j, d, ρ => some (ρ.set j (some (.d d)))
  | .tup ps, .tuple ds, ρ => setPs ps ds ρ
  | .tup _, _, _ => none
def setPs : List Pat → List D → Env → Option Env
  | [], [], ρ => some ρ
  | p :: ps, d :: ds, ρ => (setP p d ρ).bind fun ρ' => setPs ps ds ρ'
  | _, _, _ => none
end
mutual
def slotsP : Pat → List Nat
  | .nm j => [j]
  | .tup ps => slotsPs ps
def slotsPs : List Pat → List Nat
  | [] => []
  | p :: ps => slotsP p ++ slotsPs ps
end
theorem wipe_set {σ : LSt} {j : Nat} {o : Option V} : ∀ {vs : List Nat}, j ∈ vs → wipe (σ.set j o) vs = wipe σ vs
  | v :: vs, h => by
    show (wipe (σ.set j o) vs).set v none = (wipe σ vs).set v none
    by_cases e : j ∈ vs
    · rw [wipe_set e]
    · have ev : j = v := by
        rcases List.mem_cons.mp h with q | q
        · exact q
        · exact absurd q e
      subst ev
      have key : ∀ ws : List Nat, j ∉ ws → wipe (σ.set j o) ws = (wipe σ ws).set j o := fun ws => by
        induction ws with
        | nil => exact fun _ => rfl
        | cons w ws ih =>
          intro hw
          show (wipe (σ.set j o) ws).set w none = ((wipe σ ws).set w none).set j o
          rw [ih (fun z => hw (List.mem_cons_of_mem _ z)), List.set_comm _ _ (fun z : j = w => hw (by rw [z]; exact List.mem_cons_self))]
      rw [key vs e, List.set_set]
mutual
theorem setP_ok {g : G} {F H : Hp} {A : List Addr} (x : Ext F H) : ∀ {p : Pat} {d : D} {v : V} {ρ ρ' : Env} {σ : LSt}, DR g.K F v d → ERel g F A ρ σ → setP p d ρ = some ρ' →
    ∃ σ', ERel g F A ρ' σ' ∧ (∀ Q : LSt → Hp → Prop, Q σ' H → gP g.K p v σ H Q) ∧ ∀ vs : List Nat, (∀ j ∈ slotsP p, j ∈ vs) → wipe σ' vs = wipe σ vs
  | .nm j, d, v, ρ, ρ', σ, hd, e, h => by
    unfold setP at h
    cases h
    exact ⟨σ.set j (some v), e.set hd, fun Q q => q, fun vs hv => wipe_set (hv j (by unfold slotsP; exact List.mem_singleton.mpr rfl))⟩
  | .tup ps, .tuple ds, v, ρ, ρ', σ, hd, e, h => by
    unfold setP at h
    cases hd with
    | tup h1 h2 =>
      obtain ⟨σ', e1, q1, w1, l1⟩ := setPs_ok x h2 e h
      refine ⟨σ', e1, fun Q q => ?_, fun vs hv => w1 vs (by unfold slotsP at hv; exact hv)⟩
      unfold gP
      exact ⟨_, _, rfl, x.sqt h1.sqt, by rw [h2.length]; exact l1, q1 Q q⟩
  | .tup _, .none, _, _, _, _, _, _, h => by cases h
  | .tup _, .bool _, _, _, _, _, _, _, h => by cases h
  | .tup _, .int _, _, _, _, _, _, _, h => by cases h
  | .tup _, .str _, _, _, _, _, _, _, h => by cases h
  | .tup _, .list _, _, _, _, _, _, _, h => by cases h
  | .tup _, .dict _, _, _, _, _, _, _, h => by cases h
theorem setPs_ok {g : G} {F H : Hp} {A : List Addr} (x : Ext F H) : ∀ {ps : List Pat} {ds : List D} {vs : List V} {ρ ρ' : Env} {σ : LSt}, DRs g.K F vs ds → ERel g F A ρ σ → setPs ps ds ρ = some ρ' →
    ∃ σ', ERel g F A ρ' σ' ∧ (∀ Q : LSt → Hp → Prop, Q σ' H → gPs g.K ps vs σ H Q) ∧ (∀ ws : List Nat, (∀ j ∈ slotsPs ps, j ∈ ws) → wipe σ' ws = wipe σ ws) ∧ ds.length = ps.length
  | [], [], vs, ρ, ρ', σ, hd, e, h => by
    cases hd
    unfold setPs at h
    cases h
    exact ⟨σ, e, fun Q q => by unfold gPs; exact ⟨rfl, q⟩, fun ws _ => rfl, rfl⟩
  | p :: ps, d :: ds, vs, ρ, ρ', σ, hd, e, h => by
    cases hd with
    | cons h1 h2 =>
      unfold setPs at h
      cases q : setP p d ρ with
      | none =>
        rw [q] at h
        cases h
      | some ρ1 =>
        rw [q] at h
        obtain ⟨σ1, e1, q1, w1⟩ := setP_ok (A := A) x h1 e q
        obtain ⟨σ2, e2, q2, w2, l2⟩ := setPs_ok x h2 e1 h
        refine ⟨σ2, e2, fun Q qq => ?_, fun ws hv => ?_, by simp only [List.length_cons, l2]⟩
        · unfold gPs
          exact ⟨_, _, rfl, q1 _ (q2 Q qq)⟩
        · unfold slotsPs at hv
          rw [w2 ws fun j hj => hv j (List.mem_append_right _ hj), w1 ws fun j hj => hv j (List.mem_append_left _ hj)]
  | [], _ :: _, _, _, _, _, _, _, h => by
    unfold setPs at h
    cases h
  | _ :: _, [], _, _, _, _, _, _, h => by
    unfold setPs at h
    cases h
end
section
variable {X : Cx} {T : List (Addr × Str)} {W : WX}
theorem dp_name {i : Nat} {x : Str} {pos : Pos} (hN : X.N.Nodup) (hi : X.N[i]? = some x) (hx : Loc X.env.scope x) (hf : X.fn x = true ∨ X.env.scope.names.lookup x = some .local := by first | exact .inl rfl | exact .inr rfl | assumption) : PG X (.Name x pos) (gP X.K (.nm i)) := by
  unfold gP
  exact pg_name hN hi hx hf
theorem dp_nil : PGs X [] (gPs X.K []) := by
  unfold gPs
  exact pgs_nil
theorem dp_cons {e : Expr} {es : List Expr} {p : Pat} {ps : List Pat} (h1 : PG X e (gP X.K p)) (h2 : PGs X es (gPs X.K ps)) (hs : (assignEach (e :: es) X.env).map (·.2) = assign e X.env :: (assignEach es X.env).map (·.2) := by rfl) : PGs X (e :: es) (gPs X.K (p :: ps)) := by
  unfold gPs
  exact pgs_cons h1 h2 hs
theorem dp_tup {es : List Expr} {k : Nat} {ps : List Pat} {pos : Pos} (hc : X.calm = true) (h : PGs X es (gPs X.K ps)) (hn : (assignEach es X.env).length = ps.length := by rfl) (hst : (assignEach es X.env).findIdx? (·.1) = none := by rfl) : PG X (.Tuple es k pos) (gP X.K (.tup ps)) := by
  unfold gP
  exact pg_tup hc h hn hst
/-- (a, b, ..) = e, by a tuple that is made or had -/
def sAsgP (p : Pat) (f : Den) : SDen := sB f fun r _ ρ S => match r with
  | .d d => (match setP p d ρ with
    | some ρ' => .nx ρ' S
    | none => .no)
  | _ => .no
theorem ds_asgP {tg e : Expr} {f : Den} {p : Pat} {pos : Pos} (he : PE X e (tD (gX X T) W f)) (hg : PG X tg (gP X.K p)) (hs : swapsWithSole [tg] e pos.line X.env = pure false := by rfl) (hw : swappedStores [tg] e X.env = pure none := by rfl)
    (h1 : (assignEach [tg] X.env).map (·.2) = [assign tg X.env] := by rfl) : PS X (.Assign [tg] e pos) (tS (gX X T) W (sAsgP p f)) :=
  (ps_asg he hg hs hw h1).le fun D σ H ⟨b, P, F, A, ρ, S, r, e, hb, h⟩ => tD_bS r e hb h fun x S1 F1 A1 H1 v e1 p1 r1 er1 rx hb1 h1 => by
    cases x with
    | d d =>
      have h1 : SOk (gX X T) b W P F1 A1 (match setP p d ρ with
        | some ρ' => .nx ρ' S1
        | none => .no) D := h1
      cases q : setP p d ρ with
      | none =>
        rw [q] at h1
        exact h1.elim
      | some ρ' =>
        rw [q] at h1
        obtain ⟨σ', e', k', _⟩ := setP_ok (g := gX X T) (A := A1) r1.sub rx er1 q
        exact k' _ (h1 F1 A1 σ' H1 (Ext.refl _) (Kp.refl hb1) r1 e')
    | m _ => exact h1.elim
    | s _ => exact h1.elim

/-! ### what is walked -/
inductive IOut where
  | ok (src : Option Nat) (ds : List D) (S : Sto)
  | exc (c : Str) (p : D) (S : Sto)
  | no
abbrev ItDen := Env → Sto → IOut
def SrcOk (src : Option Nat) (A0 : List Addr) (all : List D) (A : List Addr) (S : Sto) : Prop := ∀ j, src = some j → A[j]? = A0[j]? ∧ S[j]? = some (.lst all)
/-- the iterator J yields the data ds, one after the other -/
def Walk (g : G) (F' : Hp) (A0 : List Addr) (src : Option Nat) (ds : List D) (J : It) : Prop := ∀ i P2 F2 A2 S2 H2, Ext F' F2 → SRel g P2 F2 A2 S2 H2 → SrcOk src A0 ds A2 S2 →
  (∀ d, ds[i]? = some d → J.go i H2 ∧ ∀ x H3, J.yld i H2 x H3 → ∃ F3, Ext F2 F3 ∧ SRel g P2 F3 A2 S2 H3 ∧ DR g.K F3 x d) ∧ (ds.length ≤ i → J.stop i H2)
def IOk (g : G) (W : WX) (P F : Hp) (A : List Addr) (σ : LSt) : IOut → (It → Hp → Prop) → Prop
  | .ok src ds S', R => ∀ F' A' H' J, Ext F F' → A <+: A' → SRel g P F' A' S' H' → SrcOk src A' ds A' S' → Walk g F' A' src ds J → R J H'
  | .exc c p S', _ => XcOk g W P F A σ c p S'
  | .no, _ => False
def tI (g : G) (W : WX) (it : ItDen) : TI := fun σ H R => ∃ P F A ρ S, SRel g P F A S H ∧ ERel g F A ρ σ ∧ IOk g W P F A σ (it ρ S) R
/-- a list or a tuple (a cell: it stays as it is meanwhile) -/
def iSeq (f : Den) : ItDen := fun ρ S => match f ρ S with
  | .ok (.d (.list ds)) S' => .ok none ds S'
  | .ok (.d (.tuple ds)) S' => .ok none ds S'
  | .ok (.m j) S' => (match S'[j]? with
    | some (.lst ds) => .ok (some j) ds S'
    | none => .no)
  | .ok _ _ => .no
  | .exc c p S' => .exc c p S'
  | .no => .no
def tSeqI (K : PySem.W.Frag) (tl : TE) : TI := fun σ H R => tl σ H fun x H1 => ∃ a, x = .ref a ∧ (((∃ xs, SqL K H1 a xs) ∧ R (Itl K a) H1) ∨ ((∃ xs, SqT K H1 a xs) ∧ R (Itt K a) H1))
theorem pi_seq {tg l : Expr} {tl : TE} (hl : PE X l tl) : PI X tg l (tSeqI X.K tl) := by
  refine ⟨fun pins s σ H R I h => ?_⟩
  have base : wpAny (model X.prog X.w) X.A (eval l X.env) (EP X pins σ fun x H1 => ∃ a, x = .ref a ∧ (((∃ xs, SqL X.K H1 a xs) ∧ R (Itl X.K a) H1) ∨ ((∃ xs, SqT X.K H1 a xs) ∧ R (Itt X.K a) H1))) X.xe s := hl.run pins s σ H _ I h
  refine thn base fun v s1 ⟨x, H1, I1, r1, q1⟩ => ?_
  obtain ⟨a, e, q1⟩ := q1
  subst e
  cases r1
  have fin : ∀ (J : It) (tn : Nat → Heap → Prop) (h' : Heap), (∀ b o, s1.heap.get? b = some o → h'.get? b = some o) → Turn X.prog X.w X.K tg J [s1.heap.objs.size] s1.heap.objs.size tn → tn 0 h' → R J H1 → PIE X pins σ tg R (.ref s1.heap.objs.size) { s1 with heap := h' } := fun J tn h' kp tr t0 q =>
    ⟨s1.heap.objs.size, [s1.heap.objs.size], tn, J, H1, rfl, I1.kept (t' := s1.toks) kp, tr, t0, fun b hb => by
      have e : b = s1.heap.objs.size := by simpa using hb
      subst e
      exact I1.fpOk (Nat.le_refl _) (I1.hok.fresh (Nat.le_refl _)), q⟩
  rcases q1 with ⟨⟨xs, hq⟩, q⟩ | ⟨⟨xs, hq⟩, q⟩
  · obtain ⟨its, rv, p, hz⟩ := I1.list hq
    exact wpAny_pyIter_list p.isList (fin _ _ _ (fun b o e => Heap.get?_push_of_some _ e) (turn_list a _) ⟨_, Heap.get?_push_size _ rfl, rfl, rfl⟩ q)
  · obtain ⟨its, rv, p, hz⟩ := I1.tuple hq
    exact wpAny_pyIter_tuple (show s1.heap.IsTuple a its.toArray from p) (fin _ _ _ (fun b o e => Heap.get?_push_of_some _ e) (turn_tuple a _) ⟨_, Heap.get?_push_size _ rfl, rfl, rfl⟩ q)
theorem walk_list {g : G} {F : Hp} {A0 : List Addr} {src : Option Nat} {ds : List D} {a : Addr} (h : ∀ P2 F2 A2 S2 H2, Ext F F2 → SRel g P2 F2 A2 S2 H2 → SrcOk src A0 ds A2 S2 → ∃ vs, H2 a = some (.lst vs) ∧ DRs g.K F2 vs ds) : Walk g F A0 src ds (Itl g.K a) := by
  intro i P2 F2 A2 S2 H2 e r q
  obtain ⟨vs, h1, h2⟩ := h P2 F2 A2 S2 H2 e r q
  refine ⟨fun d hd => ?_, fun hl => ⟨vs, SqL.of h1, by rw [h2.length]; exact hl⟩⟩
  obtain ⟨v, hv, hr⟩ := h2.get hd
  refine ⟨⟨vs, v, SqL.of h1, hv⟩, fun x H3 y => ?_⟩
  obtain ⟨rfl, y⟩ := y
  have ev := (y vs (SqL.of h1)).symm.trans hv
  cases ev
  exact ⟨F2, Ext.refl _, r, hr⟩
theorem walk_tup {g : G} {F : Hp} {A0 : List Addr} {src : Option Nat} {ds : List D} {a : Addr} {vs : List V} (h1 : SqT g.K F a vs) (h2 : DRs g.K F vs ds) : Walk g F A0 src ds (Itt g.K a) := by
  intro i P2 F2 A2 S2 H2 e r q
  have h3 := (e.trans r.sub).sqt h1
  refine ⟨fun d hd => ?_, fun hl => ⟨vs, h3, by rw [h2.length]; exact hl⟩⟩
  obtain ⟨v, hv, hr⟩ := h2.get hd
  refine ⟨⟨vs, v, h3, hv⟩, fun x H3 y => ?_⟩
  obtain ⟨rfl, y⟩ := y
  have ev := (y vs h3).symm.trans hv
  cases ev
  exact ⟨F2, Ext.refl _, r, hr.mono e⟩
theorem srcNone {A0 : List Addr} {ds : List D} {A : List Addr} {S : Sto} : SrcOk none A0 ds A S := fun _ z => nomatch z
theorem di_seq {tg e : Expr} {f : Den} (h : PE X e (tD (gX X T) W f)) : PI X tg e (tI (gX X T) W (iSeq f)) := (pi_seq h).le fun σ H R ⟨P, F, A, ρ, S, r, e, h⟩ => by
  refine ⟨P, F, A, ρ, S, r, e, ?_⟩
  unfold iSeq at h
  cases hf : f ρ S with
  | ok x S1 =>
    rw [hf] at h
    cases x with
    | d d =>
      cases d with
      | list ds =>
        intro F1 A1 H1 v e1 p1 r1 rr
        cases rr with
        | lst h1 h2 =>
          refine ⟨_, rfl, .inl ⟨⟨_, SqL.of (r1.sub _ _ h1)⟩, h F1 A1 H1 _ e1 p1 r1 srcNone ?_⟩⟩
          exact walk_list fun P2 F2 A2 S2 H2 e2 r2 _ => ⟨_, r2.sub _ _ (e2 _ _ h1), h2.mono e2⟩
      | tuple ds =>
        intro F1 A1 H1 v e1 p1 r1 rr
        cases rr with
        | tup h1 h2 => exact ⟨_, rfl, .inr ⟨⟨_, r1.sub.sqt h1.sqt⟩, h F1 A1 H1 _ e1 p1 r1 srcNone (walk_tup h1.sqt h2)⟩⟩
      | _ => exact h.elim
    | m j =>
      intro F1 A1 H1 v e1 p1 r1 rr
      obtain ⟨a, ha, rfl⟩ := rr
      have hl : j < S1.length := by
        rw [← r1.len]
        exact (List.getElem?_eq_some_iff.mp ha).1
      have h : IOk (gX X T) W P F A σ (match S1[j]? with
        | some (.lst ds) => .ok (some j) ds S1
        | none => .no) R := h
      rw [List.getElem?_eq_getElem hl] at h
      obtain ⟨_, o, h3, h4⟩ := r1.cell j a S1[j] ha (List.getElem?_eq_getElem hl)
      cases hc : S1[j] with
      | lst ds =>
        rw [hc] at h h4
        obtain ⟨vs, rfl, h5⟩ := h4
        refine ⟨a, rfl, .inl ⟨⟨vs, SqL.of h3⟩, h F1 A1 H1 _ e1 p1 r1 (fun k ek => ?_) ?_⟩⟩
        · cases ek
          exact ⟨rfl, by rw [List.getElem?_eq_getElem hl, hc]⟩
        · refine walk_list fun P2 F2 A2 S2 H2 e2 r2 q2 => ?_
          obtain ⟨q3, q4⟩ := q2 j rfl
          rw [ha] at q3
          obtain ⟨_, o, h6, vs', rfl, h7⟩ := r2.cell j a (.lst ds) q3 q4
          exact ⟨vs', h6, h7⟩
    | s ns => exact h.elim
  | exc c p S1 =>
    rw [hf] at h
    exact h
  | no =>
    rw [hf] at h
    exact h
/-- range(n), range(a, b) -/
def rgOk2 (a b : Int) : Bool := decide (-(2 ^ 62) ≤ a) && decide (a < 2 ^ 62) && decide (-(2 ^ 62) ≤ b) && decide (b < 2 ^ 62)
def iRange1 (fs : DenA) : ItDen := fun ρ S => match fs ρ S with
  | .ok [.d (.int n)] S' => if rgOk2 0 n then .ok none (rangeD 0 n) S' else .no
  | .ok _ _ => .no
  | .exc c p S' => .exc c p S'
  | .no => .no
def iRange2 (fs : DenA) : ItDen := fun ρ S => match fs ρ S with
  | .ok [.d (.int a), .d (.int n)] S' => if rgOk2 a n then .ok none (rangeD a n) S' else .no
  | .ok _ _ => .no
  | .exc c p S' => .exc c p S'
  | .no => .no
theorem walk_range {g : G} {F : Hp} {A0 : List Addr} {lo hi : Int} : Walk g F A0 none (rangeD lo hi) (Itr lo (hi - lo).toNat) := by
  intro i P2 F2 A2 S2 H2 e r q
  have hlen : (rangeD lo hi).length = (hi - lo).toNat := by unfold rangeD; rw [List.length_map, List.length_range]
  refine ⟨fun d hd => ?_, fun hl => by rw [hlen] at hl; exact hl⟩
  have hi' : i < (hi - lo).toNat := by
    rw [← hlen]
    exact (List.getElem?_eq_some_iff.mp hd).1
  refine ⟨hi', fun x H3 y => ?_⟩
  obtain ⟨rfl, rfl⟩ := y
  refine ⟨F2, Ext.refl _, r, ?_⟩
  unfold rangeD at hd
  rw [List.getElem?_map, List.getElem?_range hi'] at hd
  cases hd
  exact .int _
theorem di_range1 {tg a : Expr} {fs : DenA} {p pos : Pos} (hg : Gl X "range") (hm : X.mg "range" = none) (ha : PA X [a] (tA (gX X T) W fs)) (hs : starEach [a] X.env = [(false, eval a X.env)] := by rfl) : PI X tg (.Call (.Name "range" p) [a] [] pos) (tI (gX X T) W (iRange1 fs)) :=
  (pi_range1 hg hm ha hs).le fun σ H R ⟨P, F, A, ρ, S, r, e, h⟩ => by
    refine ⟨P, F, A, ρ, S, r, e, ?_⟩
    unfold iRange1 at h
    cases hf : fs ρ S with
    | ok rs S1 =>
      rw [hf] at h
      intro F1 A1 H1 vs e1 p1 r1 rr
      split at h
      · rename_i n S' he
        cases he
        obtain ⟨v, rfl, rv⟩ := rrs1 rr
        cases rv
        split at h
        · rename_i hl
          simp only [rgOk2, Bool.and_eq_true, decide_eq_true_eq] at hl
          refine ⟨n, rfl, hl.1.2, hl.2, ?_⟩
          have w := walk_range (g := gX X T) (F := F1) (A0 := A1) (lo := 0) (hi := n)
          rw [Int.sub_zero] at w
          exact h F1 A1 H1 _ e1 p1 r1 srcNone w
        · exact h.elim
      · exact h.elim
      · rename_i he
        cases he
      · rename_i he
        cases he
    | exc c p S1 =>
      rw [hf] at h
      exact h
    | no =>
      rw [hf] at h
      exact h
theorem di_range2 {tg a a' : Expr} {fs : DenA} {p pos : Pos} (hg : Gl X "range") (hm : X.mg "range" = none) (ha : PA X [a, a'] (tA (gX X T) W fs)) (hs : starEach [a, a'] X.env = [(false, eval a X.env), (false, eval a' X.env)] := by rfl) (hs2 : starEach [a'] X.env = [(false, eval a' X.env)] := by rfl) :
    PI X tg (.Call (.Name "range" p) [a, a'] [] pos) (tI (gX X T) W (iRange2 fs)) :=
  (pi_range2 hg hm ha hs hs2).le fun σ H R ⟨P, F, A, ρ, S, r, e, h⟩ => by
    refine ⟨P, F, A, ρ, S, r, e, ?_⟩
    unfold iRange2 at h
    cases hf : fs ρ S with
    | ok rs S1 =>
      rw [hf] at h
      intro F1 A1 H1 vs e1 p1 r1 rr
      split at h
      · rename_i a n S' he
        cases he
        obtain ⟨v, w, rfl, rv, rw'⟩ := rrs2 rr
        cases rv
        cases rw'
        split at h
        · rename_i hl
          simp only [rgOk2, Bool.and_eq_true, decide_eq_true_eq] at hl
          exact ⟨a, n, rfl, ⟨hl.1.1.1, hl.1.1.2, hl.1.2, hl.2⟩, h F1 A1 H1 _ e1 p1 r1 srcNone walk_range⟩
        · exact h.elim
      · exact h.elim
      · rename_i he
        cases he
      · rename_i he
        cases he
    | exc c p S1 =>
      rw [hf] at h
      exact h
    | no =>
      rw [hf] at h
      exact h
/-- reversed(x) -/
def iRev (f : Den) : ItDen := fun ρ S => match f ρ S with
  | .ok (.d (.list ds)) S' => .ok none ds.reverse S'
  | .ok (.d (.tuple ds)) S' => .ok none ds.reverse S'
  | .ok _ _ => .no
  | .exc c p S' => .exc c p S'
  | .no => .no
theorem rev_at {α : Type} {xs : List α} {i : Nat} {x : α} (h : xs.reverse[i]? = some x) : i < xs.length ∧ xs[xs.length - 1 - i]? = some x := by
  have hi : i < xs.length := by
    have := (List.getElem?_eq_some_iff.mp h).1
    rwa [List.length_reverse] at this
  rw [List.getElem?_reverse hi] at h
  exact ⟨hi, h⟩
theorem di_rev {tg e : Expr} {f : Den} {p pos : Pos} (hg : Gl X "reversed") (hm : X.mg "reversed" = none) (he : PE X e (tD (gX X T) W f)) (hs : starEach [e] X.env = (false, eval e X.env) :: starEach [] X.env := by rfl) : PI X tg (.Call (.Name "reversed" p) [e] [] pos) (tI (gX X T) W (iRev f)) :=
  (RT.pi_revA hg hm he hs).le fun σ H R ⟨P, F, A, ρ, S, r, e, h⟩ => by
    refine ⟨P, F, A, ρ, S, r, e, ?_⟩
    unfold iRev at h
    cases hf : f ρ S with
    | ok x S1 =>
      rw [hf] at h
      cases x with
      | d d =>
        cases d with
        | list ds =>
          intro F1 A1 H1 v e1 p1 r1 rr
          cases rr with
          | @lst a vs _ h1 h2 =>
            refine ⟨a, vs, rfl, .inl ⟨SqL.of (r1.sub _ _ h1), h F1 A1 H1 _ e1 p1 r1 srcNone fun i P2 F2 A2 S2 H2 e2 r2 q => ?_⟩⟩
            have h3 : SqL X.K H2 a vs := SqL.of (r2.sub _ _ (e2 _ _ h1))
            refine ⟨fun d hd => ?_, fun hl => by rw [List.length_reverse] at hl; show vs.length ≤ i; rw [h2.length]; exact hl⟩
            obtain ⟨hi, hd'⟩ := rev_at hd
            obtain ⟨w, hw, hr⟩ := h2.get hd'
            rw [← h2.length] at hw hi
            refine ⟨⟨hi, vs, w, h3, hw⟩, fun x H3 y => ?_⟩
            obtain ⟨rfl, y⟩ := y
            have ev := (y vs h3).symm.trans hw
            cases ev
            exact ⟨F2, Ext.refl _, r2, hr.mono e2⟩
        | tuple ds =>
          intro F1 A1 H1 v e1 p1 r1 rr
          cases rr with
          | @tup a vs _ h1 h2 =>
            refine ⟨a, vs, rfl, .inr ⟨r1.sub.sqt h1.sqt, h F1 A1 H1 _ e1 p1 r1 srcNone fun i P2 F2 A2 S2 H2 e2 r2 q => ?_⟩⟩
            have h3 : SqT X.K H2 a vs := (e2.trans r2.sub).sqt h1.sqt
            refine ⟨fun d hd => ?_, fun hl => by rw [List.length_reverse] at hl; show vs.length ≤ i; rw [h2.length]; exact hl⟩
            obtain ⟨hi, hd'⟩ := rev_at hd
            obtain ⟨w, hw, hr⟩ := h2.get hd'
            rw [← h2.length] at hw hi
            refine ⟨⟨hi, vs, w, h3, hw⟩, fun x H3 y => ?_⟩
            obtain ⟨rfl, y⟩ := y
            have ev := (y vs h3).symm.trans hw
            cases ev
            exact ⟨F2, Ext.refl _, r2, hr.mono e2⟩
        | _ => exact h.elim
      | m j => exact h.elim
      | s ns => exact h.elim
    | exc c p S1 =>
      rw [hf] at h
      exact h
    | no =>
      rw [hf] at h
      exact h
end
end DL

end
section
set_option Elab.async false
set_option linter.all false
set_option maxRecDepth 100000
set_option maxHeartbeats 1000000
namespace DL
open PySem PySem.Spec PyProof.Rows L2

/-! ### for -/
open Classical in
noncomputable def srcKept (src : Option Nat) (all : List D) (S : Sto) : Bool := match src with
  | none => true
  | some j => decide (S[j]? = some (.lst all))
def bOf (b : Nat) : Option Nat → Nat
  | none => b
  | some j => max b (j + 1)
noncomputable def loopF (p : Pat) (s : SDen) (b : Nat) (src : Option Nat) (all : List D) : List D → Env → Sto → SOut
  | [], ρ, S => .nx ρ S
  | d :: ds, ρ, S => match setP p d ρ with
    | none => .no
    | some ρ1 => match s b ρ1 S with
      | .nx ρ2 S2 => if srcKept src all S2 then loopF p s b src all ds ρ2 S2 else .no
      | .ct ρ2 S2 => if srcKept src all S2 then loopF p s b src all ds ρ2 S2 else .no
      | .bk ρ2 S2 => .nx ρ2 S2
      | o => o
noncomputable def sFor (p : Pat) (it : ItDen) (s : SDen) : SDen := fun b ρ S => match it ρ S with
  | .ok src ds S' => loopF p s (bOf b src) src ds ds ρ S'
  | .exc c q S' => .exc c q ρ S'
  | .no => .no
section
variable {g : G} {W : WX} {b c : Nat} {P F F' H : Hp} {A A' : List Addr} {σ : LSt} {S : Sto} {ρ : Env}
theorem SOk.up {D : Ends} (q : b ≤ c) : ∀ {o : SOut}, SOk g b W P F A o D → SOk g c W P F A o D
  | .nx _ _, h => fun F2 A2 σ2 H2 e2 p2 => h F2 A2 σ2 H2 e2 (p2.le q)
  | .bk _ _, h => fun F2 A2 σ2 H2 e2 p2 => h F2 A2 σ2 H2 e2 (p2.le q)
  | .ct _ _, h => fun F2 A2 σ2 H2 e2 p2 => h F2 A2 σ2 H2 e2 (p2.le q)
  | .rt _ _, h => fun F2 A2 H2 v e2 p2 => h F2 A2 H2 v e2 (p2.le q)
  | .exc _ _ _ _, h => fun F2 A2 σ2 H2 C dx fs pv e2 p2 => h F2 A2 σ2 H2 C dx fs pv e2 (p2.le q)
  | .no, h => h
theorem Kp.get {A A' : List Addr} (h : Kp b A A') {j : Nat} (hj : j < b) : A'[j]? = A[j]? := by
  have e := congrArg (fun l => l[j]?) h.1
  simp only [List.getElem?_take, if_pos hj] at e
  exact e
theorem srcOk_keep {src : Option Nat} {A0 : List Addr} {ds : List D} {S2 : Sto} (h : SrcOk src A0 ds A S) (k : Kp (bOf b src) A A') (q : srcKept src ds S2 = true) : SrcOk src A0 ds A' S2 := fun j ej => by
  subst ej
  obtain ⟨h1, _⟩ := h j rfl
  refine ⟨(k.get (show j < max b (j + 1) by omega)).trans h1, ?_⟩
  simpa only [srcKept, decide_eq_true_eq] using q
end
section
variable {X : Cx} {T : List (Addr × Str)} {W : WX}
theorem ds_for {tg iter : Expr} {body : List Stmt} {p : Pat} {it : ItDen} {s : SDen} {pos : Pos} (hp : PassesOwn (model X.prog X.w) X.A X.env X.xe) (hc : X.calm = true) (hi : PI X tg iter (tI (gX X T) W it)) (hg : PG X tg (gP X.K p)) (hb : PSs X body (tS (gX X T) W s))
    (hs : ∀ x, foldedSetIterable iter X.env x = pure x := by intro _; rfl) : PS X (.For tg iter body [] pos) (tS (gX X T) W (sFor p it s)) :=
  (ps_for hp hc hi hg hb hs).le fun D σ H ⟨b, P, F, A, ρ, S, r, e, hb, h⟩ => by
    refine ⟨P, F, A, ρ, S, r, e, ?_⟩
    unfold sFor at h
    cases hit : it ρ S with
    | exc c q S' =>
      rw [hit] at h
      exact XsOk.ex hb e h
    | no =>
      rw [hit] at h
      exact h
    | ok src ds S' =>
      rw [hit] at h
      intro F1 A1 H1 J e1 p1 r1 so wk
      have hb1 := (Kp.of hb p1).2
      have hbb : b ≤ bOf b src := by cases src <;> simp only [bOf] <;> omega
      have hb' : bOf b src ≤ A1.length := by
        cases src with
        | none => exact hb1
        | some j =>
          have hj := (List.getElem?_eq_some_iff.mp (so j rfl).2).1
          rw [← r1.len] at hj
          show max b (j + 1) ≤ _
          omega
      have h1 : SOk (gX X T) (bOf b src) W P F1 A1 (loopF p s (bOf b src) src ds ds ρ S') D := (h.mono e1 (Kp.of hb p1)).up hbb
      refine ⟨fun i m σ H => m = ds.length - i ∧ i ≤ ds.length ∧ ∃ F2 A2 ρ2 S2, Ext F1 F2 ∧ Kp (bOf b src) A1 A2 ∧ SRel (gX X T) P F2 A2 S2 H ∧ ERel (gX X T) F2 A2 ρ2 σ ∧ SrcOk src A1 ds A2 S2 ∧ SOk (gX X T) (bOf b src) W P F2 A2 (loopF p s (bOf b src) src ds (ds.drop i) ρ2 S2) D,
        ⟨ds.length, by simp, Nat.zero_le _, F1, A1, ρ, S', Ext.refl _, Kp.refl hb', r1, e.mono e1 p1, so, by rw [List.drop_zero]; exact h1⟩, fun i m σ H hw => ?_⟩
      obtain ⟨rfl, hi, F2, A2, ρ2, S2, e2, k2, r2, er2, so2, h2⟩ := hw
      obtain ⟨wgo, wstop⟩ := wk i P F2 A2 S2 H e2 r2 so2
      by_cases hlt : i < ds.length
      · refine .inr ?_
        obtain ⟨go, yl⟩ := wgo ds[i] (List.getElem?_eq_getElem hlt)
        rw [List.drop_eq_getElem_cons hlt] at h2
        unfold loopF at h2
        refine ⟨go, fun σ H => ∃ F3 A3 ρ3 S3, Ext F1 F3 ∧ Kp (bOf b src) A1 A3 ∧ SRel (gX X T) P F3 A3 S3 H ∧ ERel (gX X T) F3 A3 ρ3 σ ∧ SrcOk src A1 ds A3 S3 ∧ SOk (gX X T) (bOf b src) W P F3 A3 (loopF p s (bOf b src) src ds (ds.drop (i + 1)) ρ3 S3) D,
          fun σ' H' hn => ⟨ds.length - (i + 1), by omega, rfl, hlt, hn⟩, fun x H' y => ?_⟩
        obtain ⟨F3, e3, r3, hd⟩ := yl x H' y
        cases hset : setP p ds[i] ρ2 with
        | none =>
          rw [hset] at h2
          exact h2.elim
        | some ρ3 =>
          rw [hset] at h2
          obtain ⟨σ3, er3, k3, _⟩ := setP_ok (g := gX X T) (A := A2) r3.sub hd (er2.mono e3 (List.prefix_refl _)) hset
          refine k3 _ ⟨bOf b src, P, F3, A2, ρ3, S2, r3, er3, k2.2, ?_⟩
          have h3 := SOk.mono e3 (Kp.refl k2.2) h2
          simp only at h3
          cases hs : s (bOf b src) ρ3 S2 with
          | nx ρ4 S4 =>
            simp only [hs] at h3
            intro F5 A5 σ5 H5 e5 k5 r5 er5
            split at h3
            · rename_i hk
              exact ⟨F5, A5, ρ4, S4, (e2.trans e3).trans e5, k2.trans k5, r5, er5, srcOk_keep so2 k5 hk, h3.mono e5 k5⟩
            · exact h3.elim
          | ct ρ4 S4 =>
            simp only [hs] at h3
            intro F5 A5 σ5 H5 e5 k5 r5 er5
            split at h3
            · rename_i hk
              exact ⟨F5, A5, ρ4, S4, (e2.trans e3).trans e5, k2.trans k5, r5, er5, srcOk_keep so2 k5 hk, h3.mono e5 k5⟩
            · exact h3.elim
          | bk ρ4 S4 =>
            simp only [hs] at h3
            exact h3
          | rt d S4 =>
            simp only [hs] at h3
            exact h3
          | exc c q ρ4 S4 =>
            simp only [hs] at h3
            exact h3
          | no =>
            simp only [hs] at h3
            exact h3
      · have ei : i = ds.length := by omega
        subst ei
        rw [List.drop_length] at h2
        exact .inl ⟨wstop (Nat.le_refl _), h2 F2 A2 σ H (Ext.refl _) (Kp.refl k2.2) r2 er2⟩
end

/-! ### comprehensions -/
def wipeE (ρ : Env) : List Nat → Env
  | [] => ρ
  | v :: vs => (wipeE ρ vs).set v none
theorem ERel.wipe {g : G} {F : Hp} {A : List Addr} {ρ : Env} {σ : LSt} (h : ERel g F A ρ σ) : ∀ vs : List Nat, ERel g F A (wipeE ρ vs) (wipe σ vs)
  | [] => h
  | v :: vs => (ERel.wipe h vs).unset
inductive COut where
  | ok (ds : List D) (S : Sto)
  | no
/-- the items made, one after the other -/
def loopC (p : Pat) (t : Den) (f : Den) (ρw : Env) (src : Option Nat) : List D → List D → Sto → COut
  | acc, [], S => .ok acc S
  | acc, d :: ds, S => match setP p d ρw with
    | none => .no
    | some ρ1 => match t ρ1 S with
      | .ok (.d (.bool true)) S1 => (match f ρ1 S1 with
        | .ok (.d v) S2 => if acc.length < sizeLine then loopC p t f ρw src (acc ++ [v]) ds S2 else .no
        | _ => .no)
      | .ok (.d (.bool false)) S1 => loopC p t f ρw src acc ds S1
      | _ => .no
/-- a row that is walked stays -/
noncomputable def gd (src : Option Nat) (all : List D) (t : Den) : Den := match src with
  | none => t
  | some j => fun ρ S => if srcKept (some j) all S then t ρ S else .no
theorem gd_no {src : Option Nat} {all : List D} {t : Den} {ρ : Env} {S : Sto} (h : ¬ srcKept src all S = true) : gd src all t ρ S = .no := by
  cases src with
  | none => exact absurd rfl h
  | some j =>
    show (if srcKept (some j) all S then t ρ S else .no) = _
    rw [if_neg h]
theorem gd_yes {src : Option Nat} {all : List D} {t : Den} {ρ : Env} {S : Sto} (h : srcKept src all S = true) : gd src all t ρ S = t ρ S := by
  cases src with
  | none => rfl
  | some j =>
    show (if srcKept (some j) all S then t ρ S else .no) = _
    rw [if_pos h]
theorem srcOk_of {src : Option Nat} {A1 A2 : List Addr} {ds : List D} {S1 S2 : Sto} (p : A1 <+: A2) (so : SrcOk src A1 ds A1 S1) (hl : A1.length = S1.length) (h : srcKept src ds S2 = true) : SrcOk src A1 ds A2 S2 := by
  intro j hj
  subst hj
  obtain ⟨_, h2⟩ := so j rfl
  have hlt : j < S1.length := (List.getElem?_eq_some_iff.mp h2).1
  refine ⟨?_, by unfold srcKept at h; simpa using h⟩
  obtain ⟨t, rfl⟩ := p
  rw [List.getElem?_append_left (by omega)]
/-- [f for p in it if t]; vs: the slots of its own names -/
noncomputable def eComp (it : ItDen) (p : Pat) (t : Den) (f : Den) (vs : List Nat) : Den := fun ρ S => match it ρ S with
  | .ok src ds S' => (match loopC p (gd src ds t) f (wipeE ρ vs) src [] ds S' with
    | .ok out S2 => if srcKept src ds S2 then .ok (.d (.list out)) S2 else .no
    | .no => .no)
  | .exc c q S' => .exc c q S'
  | .no => .no
abbrev W0 : WX := fun _ _ _ _ => False
theorem SRel.pinned {g : G} {P F H : Hp} {A : List Addr} {S : Sto} {p : Addr} {o : HO} (r : SRel g P F A S H) (hH : H p = some o) (hF : F p = none) (hA : p ∉ A) (hP : P p = none) (ho : Plain o) : SRel g (upd P p o) F A S H :=
  ⟨r.sub, r.pl, r.len, r.nd, r.cell, r.tabs, fun a u q => by
    by_cases h : a = p
    · subst h
      rw [upd_same] at q
      cases q
      exact ⟨hH, hF, hA, ho⟩
    · rw [upd_ne h] at q
      exact r.pin a u q⟩
theorem SRel.unpin {g : G} {P F H : Hp} {A : List Addr} {S : Sto} {p : Addr} {o : HO} (r : SRel g (upd P p o) F A S H) (hP : P p = none) : SRel g P F A S H :=
  ⟨r.sub, r.pl, r.len, r.nd, r.cell, r.tabs, fun a u q => r.pin a u (by rw [upd_ne (fun z => by rw [z, hP] at q; cases q)]; exact q)⟩
theorem SRel.repin {g : G} {P F H : Hp} {A : List Addr} {S : Sto} {p : Addr} {o u : HO} (r : SRel g (upd P p o) F A S H) (hP : P p = none) (hu : Plain u) : SRel g (upd P p u) F A S (upd H p u) := by
  obtain ⟨h1, h2, h3, h4⟩ := r.pin p o upd_same
  have r0 := r.unpin hP
  have nf : ∀ {b o}, F b = some o → b ≠ p := fun {b o} e z => by
    rw [z, h2] at e
    cases e
  refine SRel.pinned ⟨fun b v e => by rw [upd_ne (nf e)]; exact r.sub b v e, r.pl, r.len, r.nd, fun k b c e1 e2 => ?_, tabs_keep r.tabs fun b v e np => ?_, fun b v q => ?_⟩ upd_same h2 h3 hP hu
  · obtain ⟨f, w, q1, q2⟩ := r.cell k b c e1 e2
    exact ⟨f, w, by rw [upd_ne (show b ≠ p from fun z => h3 (by rw [← z]; exact List.mem_of_getElem? e1))]; exact q1, q2⟩
  · rw [upd_ne (show b ≠ p from fun z => by
      rw [z, h1] at e
      cases e
      exact np h4)]
    exact e
  · obtain ⟨q1, q2, q3, q4⟩ := r0.pin b v q
    exact ⟨by rw [upd_ne (show b ≠ p from fun z => by rw [z, hP] at q; cases q)]; exact q1, q2, q3, q4⟩
/-- the tests of a clause -/
theorem XcOk.w0 {g : G} {P F : Hp} {A : List Addr} {σ : LSt} {c : Str} {p : D} {S : Sto} : XcOk g W0 P F A σ c p S → True := fun _ => trivial
section
variable {X : Cx} {T : List (Addr × Str)} {W : WX}
def tYesD : Den := fun _ S => .ok (.d (.bool true)) S
theorem dts_nil : PTs X [] (tB' (gX X T) W tYesD) := ⟨fun pins s σ H Q I ⟨P, F, A, ρ, S, r, e, h⟩ => pts_nil.run pins s σ H Q I (h F A H (Ext.refl _) (List.prefix_refl _) r)⟩
theorem dts_one {c : Expr} {t : Den} (h : PT X c (tB' (gX X T) W t)) : PTs X [c] (tB' (gX X T) W t) := pts_one h
theorem tLc_F {g : G} {it : ItDen} {p : Pat} {t f : Den} {vs : List Nat} (hv : ∀ j ∈ slotsP p, j ∈ vs) (σ : LSt) (H : Hp) (Q : VK) (h : tF g W (eComp it p t f vs) σ H Q) : tLc (tI g W it) (gP g.K p) (tB' g W0 t) (tD g W0 f) vs σ H Q := by
  obtain ⟨P, F, A, ρ, S, r, e, h⟩ := h
  refine ⟨P, F, A, ρ, S, r, e, ?_⟩
  unfold eComp at h
  cases hit : it ρ S with
  | exc c q S' =>
    rw [hit] at h
    exact h
  | no =>
    rw [hit] at h
    exact h.elim
  | ok src ds S' =>
    rw [hit] at h
    intro F1 A1 H1 J e1 p1 r1 so wk Dl hD
    · simp only at h
      obtain ⟨fD, aD, pD⟩ := r1.fresh hD
      have h := FOk.mono e1 p1 h
      refine ⟨fun i m H => m = ds.length - i ∧ i ≤ ds.length ∧ ∃ F2 A2 S2 acc ws, Ext F1 F2 ∧ A1 <+: A2 ∧ SRel g (upd P Dl (.lst ws)) F2 A2 S2 H ∧ DRs g.K F2 ws acc ∧
          FOk g W P F2 A2 σ (match loopC p (gd src ds t) f (wipeE ρ vs) src acc (ds.drop i) S2 with
            | .ok out S2 => if srcKept src ds S2 then .ok (.d (.list out)) S2 else .no
            | .no => .no) Q, ⟨ds.length, by simp, Nat.zero_le _, F1, A1, S', [], [], Ext.refl _, List.prefix_refl _, ?_, .nil, by rw [List.drop_zero]; simpa using h⟩, fun i m H hw => ?_⟩
      · exact (r1.grow (Ext.new hD)).pinned upd_same fD aD pD trivial
      obtain ⟨rfl, hi, F2, A2, S2, acc, ws, e2, p2, r2, hacc, h2⟩ := hw
      have hkept : srcKept src ds S2 = true := by
        refine Classical.byContradiction fun hk => ?_
        by_cases hlt : i < ds.length
        · rw [List.drop_eq_getElem_cons hlt] at h2
          unfold loopC at h2
          cases hset : setP p ds[i] (wipeE ρ vs) with
          | none =>
            rw [hset] at h2
            exact h2.elim
          | some ρ3 =>
            rw [hset] at h2
            simp only [gd_no hk] at h2
            exact h2.elim
        · rw [List.drop_of_length_le (by omega)] at h2
          unfold loopC at h2
          simp only [if_neg hk] at h2
          exact h2.elim
      obtain ⟨wgo, wstop⟩ := wk i _ F2 A2 S2 H e2 r2 (srcOk_of p2 so r1.len hkept)
      obtain ⟨hDl, fDl, aDl, _⟩ := r2.pin Dl _ upd_same
      by_cases hlt : i < ds.length
      · refine .inr ?_
        obtain ⟨go, yl⟩ := wgo ds[i] (List.getElem?_eq_getElem hlt)
        rw [List.drop_eq_getElem_cons hlt] at h2
        unfold loopC at h2
        refine ⟨go, fun H => ∃ F3 A3 S3 acc ws, Ext F1 F3 ∧ A1 <+: A3 ∧ SRel g (upd P Dl (.lst ws)) F3 A3 S3 H ∧ DRs g.K F3 ws acc ∧
          FOk g W P F3 A3 σ (match loopC p (gd src ds t) f (wipeE ρ vs) src acc (ds.drop (i + 1)) S3 with
            | .ok out S2 => if srcKept src ds S2 then .ok (.d (.list out)) S2 else .no
            | .no => .no) Q, fun H' hn => ⟨ds.length - (i + 1), by omega, rfl, hlt, hn⟩, fun x H' y => ?_⟩
        obtain ⟨F3, e3, r3, hd⟩ := yl x H' y
        have erw : ERel g F3 A2 (wipeE ρ vs) (wipe σ vs) := (e.mono ((e1.trans e2).trans e3) (p1.trans p2)).wipe vs
        cases hset : setP p ds[i] (wipeE ρ vs) with
        | none =>
          rw [hset] at h2
          exact h2.elim
        | some ρ3 =>
          rw [hset] at h2
          obtain ⟨σ3, er3, k3, w3⟩ := setP_ok (g := g) (A := A2) r3.sub hd erw hset
          refine k3 _ ⟨?_, ?_⟩
          · rw [w3 vs hv]
            have key : ∀ us : List Nat, (∀ j ∈ us, j ∈ vs) → wipe (wipe σ vs) us = wipe σ vs := fun us hu => by
              induction us with
              | nil => rfl
              | cons u us ih =>
                show (wipe (wipe σ vs) us).set u none = wipe σ vs
                rw [ih fun j hj => hu j (List.mem_cons_of_mem _ hj)]
                have hm := hu u List.mem_cons_self
                have key2 : ∀ ws : List Nat, u ∈ ws → (wipe σ ws).set u none = wipe σ ws := fun ws hw => by
                  induction ws with
                  | nil => cases hw
                  | cons w ws ih2 =>
                    show ((wipe σ ws).set w none).set u none = (wipe σ ws).set w none
                    by_cases ew : w = u
                    · subst ew
                      rw [List.set_set]
                    · have hw' : u ∈ ws := by
                        rcases List.mem_cons.mp hw with q | q
                        · exact absurd q.symm ew
                        · exact q
                      rw [List.set_comm _ _ ew, ih2 hw']
                exact key2 vs hm
            exact key vs fun j hj => hj
          · have h3 := FOk.mono e3 (List.prefix_refl _) h2
            simp only [gd_yes hkept] at h3
            refine ⟨_, F3, A2, ρ3, S2, r3, er3, ?_⟩
            cases ht : t ρ3 S2 with
            | exc c q S4 =>
              simp only [ht] at h3
              exact h3.elim
            | no =>
              simp only [ht] at h3
              exact h3.elim
            | ok tr S4 =>
              simp only [ht] at h3
              cases tr with
              | m j => exact h3.elim
              | s ns => exact h3.elim
              | d td =>
                cases td with
                | bool tb =>
                  intro F5 A5 H5 e5 p5 r5
                  cases tb with
                  | false =>
                    exact ⟨F5, A5, S4, acc, ws, (e2.trans e3).trans e5, p2.trans p5, r5, (hacc.mono e3).mono e5, h3.mono e5 p5⟩
                  | true =>
                    refine ⟨_, F5, A5, ρ3, S4, r5, er3.mono e5 p5, ?_⟩
                    simp only at h3
                    cases hf : f ρ3 S4 with
                    | exc c q S6 =>
                      simp only [hf] at h3
                      exact h3.elim
                    | no =>
                      simp only [hf] at h3
                      exact h3.elim
                    | ok fr S6 =>
                      simp only [hf] at h3
                      cases fr with
                      | m j => exact h3.elim
                      | s ns => exact h3.elim
                      | d fv =>
                        intro F7 A7 H7 v e7 p7 r7 rv
                        simp only at h3
                        by_cases hz : acc.length < sizeLine
                        · rw [if_pos hz] at h3
                          obtain ⟨hDl7, _, _, _⟩ := r7.pin Dl _ upd_same
                          have hacc7 := ((hacc.mono e3).mono e5).mono e7
                          exact ⟨ws, hDl7, by rw [hacc.length]; exact hz, F7, A7, S6, acc ++ [fv], ws ++ [v], ((e2.trans e3).trans e5).trans e7, (p2.trans p5).trans p7, r7.repin pD trivial, hacc7.append (.cons rv .nil), (h3.mono e5 p5).mono e7 p7⟩
                        · rw [if_neg hz] at h3
                          exact h3.elim
                | _ => exact h3.elim
      · have ei : i = ds.length := by omega
        subst ei
        rw [List.drop_length] at h2
        unfold loopC at h2
        simp only [if_pos hkept] at h2
        exact .inl ⟨wstop (Nat.le_refl _), h2 F2 A2 H Dl ws (Ext.refl _) (List.prefix_refl _) (r2.unpin pD) hDl hacc fDl aDl pD⟩
theorem df_comp {elt tg iter : Expr} {ifs : List Expr} {scope : Scope} {own : List (Str × Nat)} {pos : Pos} {it : ItDen} {p : Pat} {t f : Den} (hc : X.calm = true) (hN : X.N.Nodup) (hi : PI X tg iter (tI (gX X T) W it)) (ok : BlkOk X.N X.env.scope scope own) (hv : ∀ j ∈ slotsP p, j ∈ own.map (·.2))
    (hg : ∀ (s : Shared) (H : Hp) (C : Addr) (cl : List (Str × Addr)) (fp : List Addr), PG (X.blk s H scope (compEnvC scope cl C X.env) fp) tg (gP X.K p)) (ht : ∀ (s : Shared) (H : Hp) (C : Addr) (cl : List (Str × Addr)) (fp : List Addr), PTs (X.blk s H scope (compEnvC scope cl C X.env) fp) ifs (tB' (gX X T) W0 t))
    (he : ∀ (s : Shared) (H : Hp) (C : Addr) (cl : List (Str × Addr)) (fp : List Addr), PE (X.blk s H scope (compEnvC scope cl C X.env) fp) elt (tD (gX X T) W0 f)) (hs : ∀ x, foldedSetIterable iter X.env x = pure x := by intro _; rfl) :
    PE X (.ListComp elt [⟨tg, iter, ifs, 0⟩] scope pos) (tF (gX X T) W (eComp it p t f (own.map (·.2)))) := (pe_lc hc hN hi ok hg ht he hs).le (tLc_F hv)
theorem tF_fz {g : G} {f : Den} (σ : LSt) (H : Hp) (Q : VK) (h : tD g W (eFz f) σ H Q) : tF g W f σ H Q := by
  obtain ⟨P, F, A, ρ, S, sr, er, h⟩ := h
  exact tF_bind sr er h (fun x hx => by
      split
      · exact (hx _ rfl).elim
      · rfl) fun ds S1 F1 A1 H1 p vs e1 p1 sr1 er1 hp hd hF hA hP h1 =>
    h1 (upd F1 p (.lst vs)) A1 H1 (.ref p) (Ext.new hF) (List.prefix_refl _) (sr1.freeze hP hF hA hp trivial) (.lst upd_same (hd.mono (Ext.new hF)))
theorem tF_new {g : G} {f : Den} (σ : LSt) (H : Hp) (Q : VK) (h : tD g W (eNew f) σ H Q) : tF g W f σ H Q := by
  obtain ⟨P, F, A, ρ, S, sr, er, h⟩ := h
  exact tF_bind sr er h (fun x hx => by
      split
      · exact (hx _ rfl).elim
      · rfl) fun ds S1 F1 A1 H1 p vs e1 p1 sr1 er1 hp hd hF hA hP h1 =>
    h1 F1 (A1 ++ [p]) H1 (.ref p) (Ext.refl _) (List.prefix_append _ _) (sr1.push hP hF hA hp ⟨vs, rfl, hd⟩) ⟨p, by rw [← sr1.len, List.getElem?_append_right (Nat.le_refl _), Nat.sub_self]; rfl, rfl⟩
/-- name = [..] on one line, the name a local; w: eFz or eNew -/
theorem ds_setLc {i : Nat} {y : Str} {py : Pos} {elt tg iter : Expr} {ifs : List Expr} {scope : Scope} {own : List (Str × Nat)} {pos spos : Pos} {it : ItDen} {p : Pat} {t f : Den} {w : Den → Den} (hw : w = eFz ∨ w = eNew) (hc : X.calm = true) (hN : X.N.Nodup) (hy : X.N[i]? = some y) (hyl : X.env.scope.names.lookup y = some .local)
    (hsw : swapsWith (.ListComp elt [⟨tg, iter, ifs, 0⟩] scope pos) (some (.Name y py)) spos.line X.env = pure true) (hi : PI X tg iter (tI (gX X T) W it)) (ok : BlkOk X.N X.env.scope scope own) (hv : ∀ j ∈ slotsP p, j ∈ own.map (·.2))
    (hg : ∀ (s : Shared) (H : Hp) (C : Addr) (cl : List (Str × Addr)) (fp : List Addr), PG (X.blk s H scope (compEnvC scope cl C X.env) fp) tg (gP X.K p)) (ht : ∀ (s : Shared) (H : Hp) (C : Addr) (cl : List (Str × Addr)) (fp : List Addr), PTs (X.blk s H scope (compEnvC scope cl C X.env) fp) ifs (tB' (gX X T) W0 t))
    (he : ∀ (s : Shared) (H : Hp) (C : Addr) (cl : List (Str × Addr)) (fp : List Addr), PE (X.blk s H scope (compEnvC scope cl C X.env) fp) elt (tD (gX X T) W0 f)) (hs : ∀ x, foldedSetIterable iter X.env x = pure x := by intro _; rfl) :
    PS X (.Assign [.Name y py] (.ListComp elt [⟨tg, iter, ifs, 0⟩] scope pos) spos) (tS (gX X T) W (sAsg i (w (eComp it p t f (own.map (·.2)))))) :=
  (ps_setLc hc hN hy hyl hsw hi ok hg ht he hs).le fun D σ H h => by
    have h1 := tAsg_D D σ H h
    rcases hw with rfl | rfl
    · exact tLc_F hv σ H _ (tF_fz σ H _ h1)
    · exact tLc_F hv σ H _ (tF_new σ H _ h1)
end
end DL

end
section
set_option Elab.async false
set_option linter.all false
set_option maxRecDepth 100000
set_option maxHeartbeats 1000000
namespace DL
open PySem PySem.Spec PyProof.Rows L2

/-! ### a op b op c .. -/
structure PCh (X : Cx) (ops : List CmpOp) (es : List Expr) (t : V → TE) : Prop where
  run : ∀ (pos : Pos) (pins : List (Addr × Obj)) (s : Shared) (σ : LSt) (H : Hp) (Q : VK) (x : V) (v : Value), Inv X pins σ H s → RelV x v → t x σ H Q → wpAny (model X.prog X.w) X.A (compareChain pos v ops (evalEach es X.env)) (EP X pins σ Q) X.xe s
structure PTCh (X : Cx) (ops : List CmpOp) (es : List Expr) (t : V → TT) : Prop where
  run : ∀ (pos : Pos) (pins : List (Addr × Obj)) (s : Shared) (σ : LSt) (H : Hp) (Q : Bool → Hp → Prop) (x : V) (v : Value), Inv X pins σ H s → RelV x v → t x σ H Q → wpAny (model X.prog X.w) X.A (testChain pos v ops (evalEach es X.env)) (TP X pins σ Q) X.xe s
section
variable {X : Cx} {op op' : CmpOp} {ops : List CmpOp} {b b' : Expr} {bs : List Expr} {r : R2} {tb : TE}
theorem pch_last (ho : OpR X (compareOp op) r) (hb : PE X b tb) : PCh X [op] [b] (fun x σ H Q => tb σ H fun y H1 => r x y H1 Q) :=
  ⟨fun pos pins s σ H Q x v I rx h => chain_last (thn (hb.run pins s σ H _ I h) fun u s1 ⟨y, H1, I1, ry, q⟩ => ho pins s1 σ H1 x y v u Q I1 rx ry q)⟩
theorem pch_cons {t : V → TE} (ho : OpR X (compareOp op) r) (hb : PE X b tb) (hr : PCh X (op' :: ops) (b' :: bs) t) :
    PCh X (op :: op' :: ops) (b :: b' :: bs) (fun x σ H Q => tb σ H fun y H1 => r x y H1 fun z H2 => ∃ k, z = .bl k ∧ if k = true then t y σ H2 Q else Q (.bl false) H2) :=
  ⟨fun pos pins s σ H Q x v I rx h => chain_link (thn (hb.run pins s σ H _ I h) fun u s1 ⟨y, H1, I1, ry, q⟩ => thn (ho pins s1 σ H1 x y v u _ I1 rx ry q) fun c s2 ⟨z, H2, I2, rz, k, e, q2⟩ => by
    subst e
    cases rz
    refine wpAny_truthy_bool ?_
    cases k with
    | true => exact hr.run pos pins s2 σ H2 Q y u I2 ry q2
    | false => exact ⟨.bl false, H2, I2, rfl, q2⟩)⟩
theorem ptch_last (ho : OpR X (compareOp op) r) (hb : PE X b tb) : PTCh X [op] [b] (fun x σ H Q => tb σ H fun y H1 => r x y H1 fun z H2 => ∃ k, z = .bl k ∧ Q k H2) :=
  ⟨fun pos pins s σ H Q x v I rx h => test_last (thn (hb.run pins s σ H _ I h) fun u s1 ⟨y, H1, I1, ry, q⟩ => thn (ho pins s1 σ H1 x y v u _ I1 rx ry q) fun c s2 ⟨z, H2, I2, rz, k, e, q2⟩ => by
    subst e
    cases rz
    exact wpAny_truthy_bool ⟨H2, I2, q2⟩)⟩
theorem ptch_cons {t : V → TT} (ho : OpR X (compareOp op) r) (hb : PE X b tb) (hr : PTCh X (op' :: ops) (b' :: bs) t) :
    PTCh X (op :: op' :: ops) (b :: b' :: bs) (fun x σ H Q => tb σ H fun y H1 => r x y H1 fun z H2 => ∃ k, z = .bl k ∧ if k = true then t y σ H2 Q else Q false H2) :=
  ⟨fun pos pins s σ H Q x v I rx h => test_link (thn (hb.run pins s σ H _ I h) fun u s1 ⟨y, H1, I1, ry, q⟩ => thn (ho pins s1 σ H1 x y v u _ I1 rx ry q) fun c s2 ⟨z, H2, I2, rz, k, e, q2⟩ => by
    subst e
    cases rz
    refine wpAny_truthy_bool ?_
    cases k with
    | true => exact hr.run pos pins s2 σ H2 Q y u I2 ry q2
    | false => exact ⟨H2, I2, q2⟩)⟩
theorem pe_chn {a : Expr} {ta : TE} {t : V → TE} {pos : Pos} (ha : PE X a ta) (h : PCh X (op :: op' :: ops) (b :: b' :: bs) t) (hm : lastMarks (op :: op' :: ops) (b :: b' :: bs) = false := by with_unfolding_all rfl) : PE X (.Compare a (op :: op' :: ops) (b :: b' :: bs) pos) (fun σ H Q => ta σ H fun x H1 => t x σ H1 Q) :=
  ⟨fun pins s σ H Q I q => Compare_chain (thn (ha.run pins s σ H _ I q) fun v s1 ⟨x, H1, I1, rx, q1⟩ => h.run pos pins s1 σ H1 Q x v I1 rx q1) hm⟩
theorem pt_chn {a : Expr} {ta : TE} {t : V → TT} {pos : Pos} (ha : PE X a ta) (h : PTCh X (op :: op' :: ops) (b :: b' :: bs) t) (hm : lastMarks (op :: op' :: ops) (b :: b' :: bs) = false := by with_unfolding_all rfl) : PT X (.Compare a (op :: op' :: ops) (b :: b' :: bs) pos) (fun σ H Q => ta σ H fun x H1 => t x σ H1 Q) :=
  ⟨fun pins s σ H Q I q => isTrue_chain (thn (ha.run pins s σ H _ I q) fun v s1 ⟨x, H1, I1, rx, q1⟩ => h.run pos pins s1 σ H1 Q x v I1 rx q1) hm⟩
end
abbrev Lk := (D → D → Option D) × Den
def chainD : List Lk → RV → Den
  | [], _ => fun _ _ => .no
  | [(op, f)], x => eB f fun y => fun _ S => match val S x, val S y with
    | some a, some b => (match op a b with
      | some c => .ok (.d c) S
      | none => .no)
    | _, _ => .no
  | (op, f) :: l :: ls, x => eB f fun y => fun ρ S => match val S x, val S y with
    | some a, some b => (match op a b with
      | some (.bool true) => chainD (l :: ls) y ρ S
      | some (.bool false) => .ok (.d (.bool false)) S
      | _ => .no)
    | _, _ => .no
def eChain (f : Den) (ls : List Lk) : Den := eB f fun x => chainD ls x
def tCh (g : G) (W : WX) (ls : List Lk) : V → TE := fun v σ H Q => ∃ P F A ρ S x, SRel g P F A S H ∧ ERel g F A ρ σ ∧ RR g.K F A x v ∧ DOk g W P F A σ (chainD ls x ρ S) Q
def tTh (g : G) (W : WX) (ls : List Lk) : V → TT := fun v σ H Q => ∃ P F A ρ S x, SRel g P F A S H ∧ ERel g F A ρ σ ∧ RR g.K F A x v ∧ BOk g W P F A σ (chainD ls x ρ S) Q
section
variable {X : Cx} {T : List (Addr × Str)} {W : WX} {op op' : CmpOp} {ops : List CmpOp} {b b' : Expr} {bs : List Expr} {r : R2} {dop : D → D → Option D} {f : Den} {l : Lk} {ls : List Lk}
theorem dch_last (ho : OpR X (compareOp op) r) (hd : OpD (gX X T) r dop) (hb : PE X b (tD (gX X T) W f)) : PCh X [op] [b] (tCh (gX X T) W [(dop, f)]) :=
  ⟨fun pos pins s σ H Q x v I rx h => (pch_last ho hb).run pos pins s σ H Q x v I rx (by
    obtain ⟨P, F, A, ρ, S, y, sr, er, ry, h⟩ := h
    refine tD_bD sr er h fun z S1 F1 A1 H1 u e1 p1 r1 er1 rz h1 => ?_
    obtain ⟨a, c, d, ha, hc, hd', h3⟩ := eOp_ok (op := dop) (P := fun o => DOk _ W P F1 A1 σ o Q) (fun z => z) h1
    exact hd P F1 A1 S1 H1 x u a c d Q r1 (r1.read (ry.mono e1 p1) ha) (r1.read rz hc) hd' fun F3 H3 w e3 sr3 d => h3 F3 A1 H3 w e3 (List.prefix_refl _) sr3 d)⟩
theorem dch_cons (ho : OpR X (compareOp op) r) (hd : OpD (gX X T) r dop) (hb : PE X b (tD (gX X T) W f)) (hr : PCh X (op' :: ops) (b' :: bs) (tCh (gX X T) W (l :: ls))) : PCh X (op :: op' :: ops) (b :: b' :: bs) (tCh (gX X T) W ((dop, f) :: l :: ls)) :=
  ⟨fun pos pins s σ H Q x v I rx h => (pch_cons ho hb hr).run pos pins s σ H Q x v I rx (by
    obtain ⟨P, F, A, ρ, S, y, sr, er, ry, h⟩ := h
    refine tD_bD sr er h fun z S1 F1 A1 H1 u e1 p1 r1 er1 rz h1 => ?_
    cases q1 : val S1 y with
    | none =>
      simp only [q1] at h1
      exact h1.elim
    | some a =>
      cases q2 : val S1 z with
      | none =>
        simp only [q1, q2] at h1
        exact h1.elim
      | some c =>
        simp only [q1, q2] at h1
        cases q3 : dop a c with
        | none =>
          simp only [q3] at h1
          exact h1.elim
        | some d =>
          refine hd P F1 A1 S1 H1 x u a c d _ r1 (r1.read (ry.mono e1 p1) q1) (r1.read rz q2) q3 fun F3 H3 w e3 sr3 rw' => ?_
          cases d with
          | bool k =>
            cases rw'
            refine ⟨k, rfl, ?_⟩
            cases k with
            | true =>
              simp only [q3] at h1
              exact ⟨P, F3, A1, ρ, S1, z, sr3, er1.mono e3 (List.prefix_refl _), rz.mono e3 (List.prefix_refl _), h1.mono e3 (List.prefix_refl _)⟩
            | false =>
              simp only [q3] at h1
              exact h1 F3 A1 H3 _ e3 (List.prefix_refl _) sr3 (.bl false)
          | _ =>
            simp only [q3] at h1
            exact h1.elim)⟩
theorem dth_last (ho : OpR X (compareOp op) r) (hd : OpD (gX X T) r dop) (hb : PE X b (tD (gX X T) W f)) : PTCh X [op] [b] (tTh (gX X T) W [(dop, f)]) :=
  ⟨fun pos pins s σ H Q x v I rx h => (ptch_last ho hb).run pos pins s σ H Q x v I rx (by
    obtain ⟨P, F, A, ρ, S, y, sr, er, ry, h⟩ := h
    refine tD_bB sr er h fun z S1 F1 A1 H1 u e1 p1 r1 er1 rz h1 => ?_
    obtain ⟨a, c, d, ha, hc, hd', h3⟩ := eOp_ok (op := dop) (P := fun o => BOk _ W P F1 A1 σ o Q) (fun z => z) h1
    refine hd P F1 A1 S1 H1 x u a c d _ r1 (r1.read (ry.mono e1 p1) ha) (r1.read rz hc) hd' fun F3 H3 w e3 sr3 rw' => ?_
    cases d with
    | bool k =>
      cases rw'
      exact ⟨k, rfl, h3 F3 A1 H3 e3 (List.prefix_refl _) sr3⟩
    | _ => exact h3.elim)⟩
theorem dth_cons (ho : OpR X (compareOp op) r) (hd : OpD (gX X T) r dop) (hb : PE X b (tD (gX X T) W f)) (hr : PTCh X (op' :: ops) (b' :: bs) (tTh (gX X T) W (l :: ls))) : PTCh X (op :: op' :: ops) (b :: b' :: bs) (tTh (gX X T) W ((dop, f) :: l :: ls)) :=
  ⟨fun pos pins s σ H Q x v I rx h => (ptch_cons ho hb hr).run pos pins s σ H Q x v I rx (by
    obtain ⟨P, F, A, ρ, S, y, sr, er, ry, h⟩ := h
    refine tD_bB sr er h fun z S1 F1 A1 H1 u e1 p1 r1 er1 rz h1 => ?_
    cases q1 : val S1 y with
    | none =>
      simp only [q1] at h1
      exact h1.elim
    | some a =>
      cases q2 : val S1 z with
      | none =>
        simp only [q1, q2] at h1
        exact h1.elim
      | some c =>
        simp only [q1, q2] at h1
        cases q3 : dop a c with
        | none =>
          simp only [q3] at h1
          exact h1.elim
        | some d =>
          refine hd P F1 A1 S1 H1 x u a c d _ r1 (r1.read (ry.mono e1 p1) q1) (r1.read rz q2) q3 fun F3 H3 w e3 sr3 rw' => ?_
          cases d with
          | bool k =>
            cases rw'
            refine ⟨k, rfl, ?_⟩
            cases k with
            | true =>
              simp only [q3] at h1
              exact ⟨P, F3, A1, ρ, S1, z, sr3, er1.mono e3 (List.prefix_refl _), rz.mono e3 (List.prefix_refl _), h1.mono e3 (List.prefix_refl _)⟩
            | false =>
              simp only [q3] at h1
              exact h1 F3 A1 H3 e3 (List.prefix_refl _) sr3
          | _ =>
            simp only [q3] at h1
            exact h1.elim)⟩
theorem de_chain {a : Expr} {f0 : Den} {pos : Pos} (ha : PE X a (tD (gX X T) W f0)) (h : PCh X (op :: op' :: ops) (b :: b' :: bs) (tCh (gX X T) W ls)) (hm : lastMarks (op :: op' :: ops) (b :: b' :: bs) = false := by with_unfolding_all rfl) : PE X (.Compare a (op :: op' :: ops) (b :: b' :: bs) pos) (tD (gX X T) W (eChain f0 ls)) :=
  (pe_chn ha h hm).le fun σ H Q ⟨P, F, A, ρ, S, sr, er, h⟩ => tD_bD sr er h fun z S1 F1 A1 H1 u e1 p1 r1 er1 rz h1 => ⟨P, F1, A1, ρ, S1, z, r1, er1, rz, h1⟩
theorem dt_chain {a : Expr} {f0 : Den} {pos : Pos} (ha : PE X a (tD (gX X T) W f0)) (h : PTCh X (op :: op' :: ops) (b :: b' :: bs) (tTh (gX X T) W ls)) (hm : lastMarks (op :: op' :: ops) (b :: b' :: bs) = false := by with_unfolding_all rfl) : PT X (.Compare a (op :: op' :: ops) (b :: b' :: bs) pos) (tB' (gX X T) W (eChain f0 ls)) :=
  (pt_chn ha h hm).le fun σ H Q ⟨P, F, A, ρ, S, sr, er, h⟩ => tD_bB sr er h fun z S1 F1 A1 H1 u e1 p1 r1 er1 rz h1 => ⟨P, F1, A1, ρ, S1, z, r1, er1, rz, h1⟩

/-! ### methods of a list that is a cell -/
/-- op: what is handed back, and the list behind it -/
def eMeth (op : List D → List D → Option (D × List D)) (f : Den) (fs : DenA) : Den := eB f fun x => match x with
  | .m j => aB fs fun rs _ S => (match datas rs, S[j]? with
    | some as, some (.lst ds) => (match op ds as with
      | some (r, ds') => .ok (.d r) (S.set j (.lst ds'))
      | none => .no)
    | _, _ => .no)
  | _ => fun _ _ => .no
def MethD (K : PySem.W.Frag) (r : V → List V → Hp → VK → Prop) (op : List D → List D → Option (D × List D)) : Prop := ∀ F H a vs ds ws as z ds' Q, H a = some (.lst vs) → DRs K F vs ds → DRs K F ws as → op ds as = some (z, ds') →
  (∀ vs' v, DRs K F vs' ds' → DR K F v z → Q v (upd H a (.lst vs'))) → r (.ref a) ws H Q
theorem cell_at {g : G} {P F H : Hp} {A : List Addr} {S : Sto} {j : Nat} {a : Addr} (sr : SRel g P F A S H) (ha : A[j]? = some a) : ∃ ds vs, S[j]? = some (.lst ds) ∧ H a = some (.lst vs) ∧ DRs g.K F vs ds := by
  have hl : j < S.length := by
    rw [← sr.len]
    exact (List.getElem?_eq_some_iff.mp ha).1
  obtain ⟨_, o, h3, h4⟩ := sr.cell j a S[j] ha (List.getElem?_eq_getElem hl)
  cases hc : S[j] with
  | lst ds =>
    rw [hc] at h4
    obtain ⟨vs, rfl, h5⟩ := h4
    exact ⟨ds, vs, by rw [List.getElem?_eq_getElem hl, hc], h3, h5⟩
theorem tBM_D {g : G} {r : V → List V → Hp → VK → Prop} {op : List D → List D → Option (D × List D)} (ho : MethD g.K r op) {f : Den} {fs : DenA} (σ : LSt) (H : Hp) (Q : VK) (h : tD g W (eMeth op f fs) σ H Q) : tBM g.K "list" r (tD g W f) (tA g W fs) σ H Q := by
  obtain ⟨P, F, A, ρ, S, sr, er, h⟩ := h
  refine tD_bD sr er h fun x S1 F1 A1 H1 v e1 p1 r1 er1 rx h1 => ?_
  cases x with
  | d d => exact h1.elim
  | s ns => exact h1.elim
  | m j =>
    obtain ⟨a, ha, rfl⟩ := rx
    obtain ⟨ds0, vs0, _, h30, _⟩ := cell_at r1 ha
    refine ⟨.inl ⟨rfl, _, SqL.of h30⟩, ?_⟩
    refine tA_bD r1 er1 h1 fun xs S2 F2 A2 H2 ws e2 p2 r2 er2 rr h2 => ?_
    obtain ⟨ds, vs, h4, h5, h6⟩ := cell_at r2 (pre_get p2 ha)
    cases q : datas xs with
    | none =>
      simp only [q] at h2
      exact h2.elim
    | some as =>
      simp only [q, h4] at h2
      cases q2 : op ds as with
      | none =>
        simp only [q2] at h2
        exact h2.elim
      | some zd =>
        obtain ⟨z, ds'⟩ := zd
        simp only [q2] at h2
        exact ho F2 H2 a vs ds ws as z ds' Q h5 h6 (datas_ok q rr) q2 fun vs' v hv hz => h2 F2 A2 _ v (Ext.refl _) (List.prefix_refl _) (r2.write (pre_get p2 ha) ⟨vs', rfl, hv⟩) hz
theorem tBM0_D {g : G} {r : V → List V → Hp → VK → Prop} {op : List D → List D → Option (D × List D)} (ho : MethD g.K r op) {f : Den} (σ : LSt) (H : Hp) (Q : VK) (h : tD g W (eMeth op f aNil) σ H Q) : tBM0 g.K "list" r (tD g W f) σ H Q := by
  obtain ⟨P, F, A, ρ, S, sr, er, h⟩ := h
  refine tD_bD sr er h fun x S1 F1 A1 H1 v e1 p1 r1 er1 rx h1 => ?_
  cases x with
  | d d => exact h1.elim
  | s ns => exact h1.elim
  | m j =>
    obtain ⟨a, ha, rfl⟩ := rx
    obtain ⟨ds, vs, h4, h5, h6⟩ := cell_at r1 ha
    refine ⟨.inl ⟨rfl, _, SqL.of h5⟩, ?_⟩
    have h1 : DOk g W P F1 A1 σ (match datas [], S1[j]? with
      | some as, some (.lst ds) => (match op ds as with
        | some (r, ds') => .ok (.d r) (S1.set j (.lst ds'))
        | none => .no)
      | _, _ => .no) Q := h1
    simp only [datas, h4] at h1
    cases q2 : op ds [] with
    | none =>
      simp only [q2] at h1
      exact h1.elim
    | some zd =>
      obtain ⟨z, ds'⟩ := zd
      simp only [q2] at h1
      exact ho F1 H1 a vs ds [] [] z ds' Q h5 h6 .nil q2 fun vs' v hv hz => h1 F1 A1 _ v (Ext.refl _) (List.prefix_refl _) (r1.write ha ⟨vs', rfl, hv⟩) hz
def mAppend : List D → List D → Option (D × List D)
  | ds, [x] => if ds.length < sizeLine then some (.none, ds ++ [x]) else none
  | _, _ => none
theorem methD_append {K : PySem.W.Frag} : MethD K rAppend mAppend := by
  intro F H a vs ds ws as z ds' Q ha h1 h2 h3 k
  unfold mAppend at h3
  split at h3
  · split at h3
    · rename_i hl
      cases h3
      cases h2 with
      | cons q1 q2 =>
        cases q2
        exact ⟨a, vs, _, rfl, rfl, ha, by rw [h1.length]; exact hl, k _ _ (h1.append (.cons q1 .nil)) .non⟩
    · cases h3
  · cases h3
theorem DRs.eraseIdx {K : PySem.W.Frag} {F : Hp} : ∀ {ds : List D} {vs : List V} (i : Nat), DRs K F vs ds → DRs K F (vs.eraseIdx i) (ds.eraseIdx i)
  | [], _, _, h => by cases h; exact .nil
  | _ :: _, _, 0, h => by
    cases h with
    | cons h1 h2 => exact h2
  | _ :: _, _, i + 1, h => by
    cases h with
    | cons h1 h2 => exact .cons h1 (DRs.eraseIdx i h2)
def mPop : List D → List D → Option (D × List D)
  | ds, [] => (ds[ds.length - 1]?).map fun z => (z, ds.dropLast)
  | _, _ => none
theorem DRs.dropLast {K : PySem.W.Frag} {F : Hp} {ds : List D} {vs : List V} (h : DRs K F vs ds) : DRs K F vs.dropLast ds.dropLast := by
  rw [List.dropLast_eq_take, List.dropLast_eq_take, h.length]
  exact h.take _
theorem methD_pop {K : PySem.W.Frag} : MethD K rPop mPop := by
  intro F H a vs ds ws as z ds' Q ha h1 h2 h3 k
  unfold mPop at h3
  split at h3
  · cases q : ds[ds.length - 1]? with
    | none =>
      rw [q] at h3
      cases h3
    | some y =>
      rw [q] at h3
      cases h3
      cases h2
      obtain ⟨v, hv, hr⟩ := h1.get q
      exact ⟨a, vs, v, rfl, rfl, ha, by rw [h1.length]; exact hv, k _ _ h1.dropLast hr⟩
  · cases h3
def mPopAt : List D → List D → Option (D × List D)
  | ds, [.int i] => if -(2 ^ 63) ≤ i ∧ i < 2 ^ 63 then (match seqIndex? i ds.length with
    | some j => (ds[j]?).map fun z => (z, ds.eraseIdx j)
    | none => none) else none
  | _, _ => none
theorem methD_popAt {K : PySem.W.Frag} : MethD K rPopAt mPopAt := by
  intro F H a vs ds ws as z ds' Q ha h1 h2 h3 k
  unfold mPopAt at h3
  split at h3
  · rename_i i
    split at h3
    · rename_i hl
      split at h3
      · rename_i j q
        cases q2 : ds[j]? with
        | none =>
          rw [q2] at h3
          cases h3
        | some y =>
          rw [q2] at h3
          cases h3
          cases h2 with
          | cons q3 q4 =>
            cases q4
            cases q3
            obtain ⟨v, hv, hr⟩ := h1.get q2
            exact ⟨a, vs, i, j, v, rfl, rfl, ha, hl.1, hl.2, by rw [h1.length]; exact q, hv, k _ _ (h1.eraseIdx j) hr⟩
      · cases h3
    · cases h3
  · cases h3
theorem de_append {o e : Expr} {f : Den} {fs : DenA} {apos cpos : Pos} (ho : PE X o (tD (gX X T) W f)) (ha : PA X [e] (tA (gX X T) W fs))
    (hbase : attributeBase o "append" X.env (eval o X.env) = eval o X.env := by rfl)
    (hfew : ((backTo cpos (starEach [e] X.env)).all (fun x => !x.1) && (backToKw cpos (keywordEach [] X.env)).all (fun x => x.1.isSome) && decide (([e] : List Expr).length + ([] : List Keyword).length + (if ([] : List Keyword).isEmpty then 0 else 1) < 30)) = true := by rfl)
    (hline : (apos.endLine == cpos.line) = true := by rfl) (hs : starEach [e] X.env = (false, eval e X.env) :: starEach [] X.env := by rfl) (hplain : (backTo cpos (starEach [] X.env)).any (·.1) = false := by rfl) :
    PE X (.Call (.Attribute o "append" apos) [e] [] cpos) (tD (gX X T) W (eMeth mAppend f fs)) :=
  (pe_bm PySem.F.plainAttrs_list PySem.F.slot_list_append PySem.F.type_list_append mt_append ho ha hbase hfew hline hs hplain).le (tBM_D methD_append)
theorem de_popAt {o e : Expr} {f : Den} {fs : DenA} {apos cpos : Pos} (ho : PE X o (tD (gX X T) W f)) (ha : PA X [e] (tA (gX X T) W fs))
    (hbase : attributeBase o "pop" X.env (eval o X.env) = eval o X.env := by rfl)
    (hfew : ((backTo cpos (starEach [e] X.env)).all (fun x => !x.1) && (backToKw cpos (keywordEach [] X.env)).all (fun x => x.1.isSome) && decide (([e] : List Expr).length + ([] : List Keyword).length + (if ([] : List Keyword).isEmpty then 0 else 1) < 30)) = true := by rfl)
    (hline : (apos.endLine == cpos.line) = true := by rfl) (hs : starEach [e] X.env = (false, eval e X.env) :: starEach [] X.env := by rfl) (hplain : (backTo cpos (starEach [] X.env)).any (·.1) = false := by rfl) :
    PE X (.Call (.Attribute o "pop" apos) [e] [] cpos) (tD (gX X T) W (eMeth mPopAt f fs)) :=
  (pe_bm PySem.F.plainAttrs_list PySem.F.slot_list_pop PySem.F.type_list_pop mt_popAt ho ha hbase hfew hline hs hplain).le (tBM_D methD_popAt)
theorem de_pop {o : Expr} {f : Den} {apos cpos : Pos} (ho : PE X o (tD (gX X T) W f)) (hbase : attributeBase o "pop" X.env (eval o X.env) = eval o X.env := by rfl) (hline : (apos.endLine == cpos.line) = true := by rfl) :
    PE X (.Call (.Attribute o "pop" apos) [] [] cpos) (tD (gX X T) W (eMeth mPop f aNil)) :=
  (pe_bm0 PySem.F.plainAttrs_list PySem.F.slot_list_pop PySem.F.type_list_pop mt_pop ho hbase hline).le (tBM0_D methD_pop)

/-! ### o[i] = e -/
def sSub (fv fo fi : Den) : SDen := sB fv fun v => sB fo fun o => sB fi fun i => fun _ ρ S => match v, o, i with
  | .d d, .m j, .d (.int k) => (match S[j]? with
    | some (.lst ds) => (match ixN ds.length k with
      | some n => .nx ρ (S.set j (.lst (ds.set n d)))
      | none => .no)
    | none => .no)
  | _, _, _ => .no
end
end DL

end
section
set_option Elab.async false
set_option linter.all false
set_option maxRecDepth 100000
set_option maxHeartbeats 1000000
namespace DL
open PySem PySem.Spec PyProof.Rows L2

/-! ### more of two places -/
/-- *: ints, a tuple again and again -/
def dMul : D → D → Option D
  | .int i, .int j => if small64b i || small64b j then some (.int (i * j)) else none
  | .tuple xs, .int k => if xs ≠ [] ∧ 2 ≤ k ∧ k ≤ 1000000 ∧ xs.length * k.toNat ≤ 1000000 then some (.tuple (List.replicate k.toNat xs).flatten) else none
  | _, _ => none
def rMul (K : PySem.W.Frag) : R2 := fun x y H Q => rI CMul (fun i j => .int (i * j)) x y H Q ∨ rRepD K x y H Q
theorem op_mulD {X : Cx} : OpR X (binaryOp .Mult) (rMul X.K) := op_mul.or op_repD
section
variable {g : G}
theorem opD_mul : OpD g (rMul g.K) dMul := by
  intro P F A S H x y a b c Q sr hx hy hc k
  unfold dMul at hc
  split at hc
  · split at hc
    · rename_i hl
      cases hc
      rw [rd_int hx, rd_int hy]
      refine .inl ⟨_, _, rfl, rfl, ?_, fin0 sr k (.int _)⟩
      simp only [small64b, Bool.or_eq_true, Bool.and_eq_true, decide_eq_true_eq] at hl
      exact hl
    · cases hc
  · split at hc
    · rename_i xs n hl
      cases hc
      obtain ⟨p, vs, rfl, h1, h2⟩ := rd_tup sr.sub hx
      rw [rd_int hy]
      exact .inr ⟨p, n, vs, ⟨rfl, rfl⟩, h1, fun z => hl.1 (h2.nil_iff.mp z), ⟨hl.2.1, hl.2.2.1⟩, by rw [h2.length]; exact hl.2.2.2, finT sr k (h2.rep _)⟩
    · cases hc
  · cases hc
/-- is, is not: None, True, False -/
def dIsB : D → D → Option D
  | .bool a, .bool b => some (.bool (decide (a = b)))
  | a, b => dIs a b
def rIs : R2 := fun x y H Q => (y = .non ∧ Q (.bl (decide (x = .non))) H) ∨ rIsB x y H Q
theorem op_isD {X : Cx} : OpR X (compareOp .Is) rIs := op_isN.or op_isBl
theorem opD_isB : OpD g rIs dIsB := by
  intro P F A S H x y a b c Q sr hx hy hc k
  unfold dIsB at hc
  split at hc
  · cases hc
    rw [rd_bl hx, rd_bl hy]
    exact .inr ⟨_, _, rfl, rfl, fin0 sr k (.bl _)⟩
  · exact .inl (opD_is P F A S H x y a b c Q sr hx hy hc k)
/-- x.index(y) -/
def dIndex : D → D → Option D
  | .list ds, x => if flatD x && ds.all flatD then (ds.findIdx? fun z => PyData.eqv z x).map fun (j : Nat) => PyData.int (j : Int) else none
  | .tuple ds, x => if flatD x && ds.all flatD then (ds.findIdx? fun z => PyData.eqv z x).map fun (j : Nat) => PyData.int (j : Int) else none
  | _, _ => none
end
section
variable {X : Cx} {T : List (Addr × Str)} {W : WX}
theorem findIdx_of {α : Type} {p : α → Bool} {l : List α} {j : Nat} (h : l.findIdx? p = some j) : (∃ z, l[j]? = some z ∧ p z = true) ∧ ∀ m z, l[m]? = some z → m < j → p z = false := by
  rw [List.findIdx?_eq_some_iff_getElem] at h
  obtain ⟨h1, h2, h3⟩ := h
  refine ⟨⟨l[j], List.getElem?_eq_getElem h1, h2⟩, fun m z hz hm => ?_⟩
  have e := h3 m hm
  obtain ⟨_, e2⟩ := List.getElem?_eq_some_iff.mp hz
  rw [← e2]
  simpa using e
def isSeqRV : RV → Bool
  | .d (.list _) => true
  | .d (.tuple _) => true
  | .m _ => true
  | _ => false
/-- an index of a list or tuple of flat things -/
def eIndex (f f' : Den) : Den := eB f fun x => if isSeqRV x = true then (eB f' fun y => fun _ S => match val S x, val S y with
  | some a, some b => (match dIndex a b with
    | some c => .ok (.d c) S
    | none => .no)
  | _, _ => .no) else fun _ _ => .no
theorem de_index {o e : Expr} {f f' : Den} {apos cpos : Pos} (ho : PE X o (tD (gX X T) W f)) (ha : PE X e (tD (gX X T) W f')) (hbase : attributeBase o "index" X.env (eval o X.env) = eval o X.env := by rfl)
    (hfew : ((backTo cpos (starEach [e] X.env)).all (fun x => !x.1) && (backToKw cpos (keywordEach [] X.env)).all (fun x => x.1.isSome) && decide (([e] : List Expr).length + ([] : List Keyword).length + (if ([] : List Keyword).isEmpty then 0 else 1) < 30)) = true := by rfl)
    (hline : (apos.endLine == cpos.line) = true := by rfl) (hs : starEach [e] X.env = (false, eval e X.env) :: starEach [] X.env := by rfl) (hplain : (backTo cpos (starEach [] X.env)).any (·.1) = false := by rfl) :
    PE X (.Call (.Attribute o "index" apos) [e] [] cpos) (tD (gX X T) W (eIndex f f')) :=
  (pe_index ho (pa_cons ha pa_nil hs) hbase hfew hline hs hplain).le fun σ H Q ⟨P, F, A, ρ, S, sr, er, h⟩ => by
    refine tD_bD sr er h fun x S1 F1 A1 H1 v e1 p1 sr1 er1 rx h1 => ?_
    by_cases hq : isSeqRV x = true
    · rw [if_pos hq] at h1
      have arg : ∀ K : V → Hp → Prop, (∀ y S2 F2 A2 H2 u a b c, Ext F1 F2 → SRel (gX X T) P F2 A2 S2 H2 → val S2 x = some a → RD X.K F2 H2 v a → RD X.K F2 H2 u b → dIndex a b = some c → Q (match c with | .int i => .int i | _ => .non) H2 → K u H2) →
          tD (gX X T) W f' σ H1 K := fun K hK => by
        refine tD_bD sr1 er1 h1 fun y S2 F2 A2 H2 u e2 p2 sr2 er2 ry h2 => ?_
        obtain ⟨a, b, c, ha, hb, hc, h3⟩ := eOp_ok (op := dIndex) (P := fun o => DOk _ W P F2 A2 σ o Q) (fun z => z) h2
        refine hK y S2 F2 A2 H2 u a b c e2 sr2 ha (sr2.read (rx.mono e2 p2) ha) (sr2.read ry hb) hc ?_
        have hi : ∃ i, c = .int i := by
          unfold dIndex at hc
          split at hc
          · split at hc
            · simp only [Option.map_eq_some_iff] at hc
              obtain ⟨j, _, rfl⟩ := hc
              exact ⟨_, rfl⟩
            · cases hc
          · split at hc
            · simp only [Option.map_eq_some_iff] at hc
              obtain ⟨j, _, rfl⟩ := hc
              exact ⟨_, rfl⟩
            · cases hc
          · cases hc
        obtain ⟨i, rfl⟩ := hi
        exact h3 F2 A2 H2 (.int i) (Ext.refl _) (List.prefix_refl _) sr2 (.int i)
      have fin : ∀ {F2 H2 : Hp} {u : V} {vs : List V} {ds : List D} {b c : D}, DRs X.K F2 vs ds → RD X.K F2 H2 u b → (if flatD b && ds.all flatD then (ds.findIdx? fun z => PyData.eqv z b).map fun (j : Nat) => PyData.int (j : Int) else none) = some c → Q (match c with | .int i => .int i | _ => .non) H2 →
          ∃ j z, (flatV u = true ∧ vs.all flatV = true) ∧ vs[j]? = some z ∧ eqV z u = true ∧ (∀ m z', vs[m]? = some z' → m < j → eqV z' u = false) ∧ Q (.int (j : Nat)) H2 := by
        intro F2 H2 u vs ds b c hd hu hc q
        split at hc
        · rename_i hl
          rw [Bool.and_eq_true] at hl
          simp only [Option.map_eq_some_iff] at hc
          obtain ⟨j, hj, rfl⟩ := hc
          obtain ⟨⟨z, hz, hzj⟩, hno⟩ := findIdx_of hj
          obtain ⟨w, hw, hr⟩ := hd.get hz
          have hu' := rd_flat hu hl.1
          have fl : ∀ {z}, z ∈ ds → flatD z = true := fun {z} hm => List.all_eq_true.mp hl.2 z hm
          refine ⟨j, w, ⟨flat_of hu' hl.1, flats_of hd hl.2⟩, hw, ?_, fun m z' hm hmj => ?_, q⟩
          · rw [eqV_of hr hu' (fl (List.mem_of_getElem? hz)) hl.1]
            exact hzj
          · obtain ⟨d', hd', hr'⟩ := hd.getV hm
            rw [eqV_of hr' hu' (fl (List.mem_of_getElem? hd')) hl.1]
            exact hno m d' hd' hmj
        · cases hc
      have isL : ∀ {S2 : Sto} {F2 H2 : Hp} {u : V} {ds : List D} {b c : D}, RD X.K F2 H2 v (.list ds) → RD X.K F2 H2 u b → dIndex (.list ds) b = some c → Q (match c with | .int i => .int i | _ => .non) H2 → rIndex X.K v [u] H2 Q := by
        intro S2 F2 H2 u ds b c hv hu hc q
        obtain ⟨p, vs, rfl, h3, h4⟩ := rd_lst hv
        obtain ⟨j, z, ⟨q1, q2⟩, q3, q4, q5, q6⟩ := fin h4 hu hc q
        exact ⟨p, vs, u, j, z, rfl, rfl, SqL.of h3, q1, q2, q3, q4, fun m z' hm hz => q5 m z' hz hm, q6⟩
      cases x with
      | s ns => cases hq
      | m j =>
        obtain ⟨a, ha, rfl⟩ := rx
        obtain ⟨ds0, vs0, _, h30, _⟩ := cell_at sr1 ha
        refine .inl ⟨.inl ⟨rfl, a, vs0, rfl, SqL.of h30⟩, arg _ fun y S2 F2 A2 H2 u a' b c e2 sr2 hv hd hu hc q => ?_⟩
        have hl : ∃ ds, a' = .list ds := by
          unfold val at hv
          simp only at hv
          split at hv
          · cases hv
            exact ⟨_, rfl⟩
          · cases hv
        obtain ⟨ds, rfl⟩ := hl
        exact isL (S2 := S2) hd hu hc q
      | d d =>
        cases d with
        | list ds =>
          have rx' : DR X.K F1 v (.list ds) := rx
          cases rx' with
          | lst h3 h4 =>
            refine .inl ⟨.inl ⟨rfl, _, _, rfl, SqL.of (sr1.sub _ _ h3)⟩, arg _ fun y S2 F2 A2 H2 u a' b c e2 sr2 hv hd hu hc q => ?_⟩
            cases hv
            exact isL (S2 := S2) hd hu hc q
        | tuple ds =>
          have rx' : DR X.K F1 v (.tuple ds) := rx
          cases rx' with
          | tup h3 h4 =>
            refine .inr ⟨.inr ⟨rfl, _, _, rfl, sr1.sub.tups h3⟩, arg _ fun y S2 F2 A2 H2 u a' b c e2 sr2 hv hd hu hc q => ?_⟩
            cases hv
            obtain ⟨j, z, q0, q3, q4, q5, q6⟩ := fin (h4.mono e2) hu hc q
            exact ⟨_, _, u, j, z, ⟨rfl, rfl⟩, sr2.sub.sqt (e2.sqt h3.sqt), q0, q3, q4, q5, q6⟩
        | _ => cases hq
    · rw [if_neg hq] at h1
      exact h1.elim
end
end DL

end
section
set_option Elab.async false
set_option linter.all false
set_option maxRecDepth 100000
set_option maxHeartbeats 1000000
namespace DL
open PySem PySem.Spec PyProof.Rows L2

/-! ### slices -/
def optB (o : Option Den) (k : Option Int → Den) : Den := match o with
  | none => k none
  | some l => eB l fun y => match y with
    | .d (.int i) => k (some i)
    | _ => fun _ _ => .no
def tO (g : G) (W : WX) : Option Den → TO
  | none => tNoPart
  | some l => tPart (tD g W l)
def slRest (x : RV) (i j : Option Int) : Den := fun _ S => match val S x with
  | some a => (match dSl a i j with
    | some c => .ok (.d c) S
    | none => .no)
  | none => .no
def eSlice (f : Den) (lo hi : Option Den) : Den := eB f fun x => optB lo fun i => optB hi fun j => slRest x i j
section
variable {X : Cx} {T : List (Addr × Str)} {W : WX}
theorem do_none : PO X none (tO (gX X T) W none) := po_none
theorem do_some {e : Expr} {f : Den} (h : PE X e (tD (gX X T) W f)) : PO X (some e) (tO (gX X T) W (some f)) := po_some h
theorem tO_bind {g : G} {P F H : Hp} {A : List Addr} {σ : LSt} {S : Sto} {ρ : Env} {o : Option Den} {k : Option Int → Den} {R : Option Int → Hp → Prop} {Q : VK} (r : SRel g P F A S H) (e : ERel g F A ρ σ) (h : DOk g W P F A σ (optB o k ρ S) Q)
    (hk : ∀ i S1 F1 A1 H1, Ext F F1 → A <+: A1 → SRel g P F1 A1 S1 H1 → ERel g F1 A1 ρ σ → DOk g W P F1 A1 σ (k i ρ S1) Q → R i H1) : tO g W o σ H R := by
  cases o with
  | none => exact hk none S F A H (Ext.refl _) (List.prefix_refl _) r e h
  | some l =>
    refine tD_bD r e h fun y S1 F1 A1 H1 v e1 p1 r1 er1 rx h1 => ?_
    cases y with
    | d d =>
      cases d with
      | int i =>
        cases rx
        exact ⟨i, rfl, hk _ S1 F1 A1 H1 e1 p1 r1 er1 h1⟩
      | _ => exact h1.elim
    | _ => exact h1.elim
theorem de_slice {e : Expr} {f : Den} {lo hi : Option Expr} {fl fh : Option Den} {p2 pos : Pos} (he : PE X e (tD (gX X T) W f)) (hl : PO X lo (tO (gX X T) W fl)) (hh : PO X hi (tO (gX X T) W fh)) : PE X (.Subscript e (.Slice lo hi none p2) pos) (tD (gX X T) W (eSlice f fl fh)) :=
  (pe_slice (sl_list.or sl_tupD) he hl hh).le fun σ H Q ⟨P, F, A, ρ, S, sr, er, h⟩ => by
    refine tD_bD sr er h fun x S1 F1 A1 H1 v e1 p1 sr1 er1 rx h1 => ?_
    refine tO_bind sr1 er1 h1 fun i S2 F2 A2 H2 e2 p2 sr2 er2 h2 => ?_
    refine tO_bind sr2 er2 h2 fun j S3 F3 A3 H3 e3 p3 sr3 er3 h3 => ?_
    unfold slRest at h3
    cases q1 : val S3 x with
    | none =>
      rw [q1] at h3
      exact h3.elim
    | some a =>
      rw [q1] at h3
      cases q2 : dSl a i j with
      | none =>
        simp only [q2] at h3
        exact h3.elim
      | some c =>
        simp only [q2] at h3
        exact slD_seq P F3 A3 S3 H3 v a i j c Q sr3 (sr3.read (rx.mono (e2.trans e3) (p2.trans p3)) q1) q2 fun F4 H4 w e4 sr4 d4 => h3 F4 A3 H4 w e4 (List.prefix_refl _) sr4 d4
/-- x[::-1] -/
def dRev : D → Option D
  | .list ds => some (.list ds.reverse)
  | .tuple ds => some (.tuple ds.reverse)
  | _ => none
theorem de_rev {e : Expr} {f : Den} {k : Nat} {p1 p2 p3 pos : Pos} (he : PE X e (tD (gX X T) W f)) : PE X (.Subscript e (.Slice none none (some (.UnaryOp .USub (.Constant (.int 1) k p1) p2)) p3) pos) (tD (gX X T) W (eUn dRev f)) :=
  (pe_revD he).le fun σ H Q ⟨P, F, A, ρ, S, sr, er, h⟩ => by
    refine tD_bD sr er h fun x S1 F1 A1 H1 v e1 p1 sr1 er1 rx h1 => ?_
    obtain ⟨a, c, ha, hc, h3⟩ := eUn_ok (P := fun o => DOk _ W P F1 A1 σ o Q) (fun z => z) h1
    have hr := sr1.read rx ha
    have k : ∀ F' H' v, Ext F1 F' → SRel (gX X T) P F' A1 S1 H' → DR X.K F' v c → Q v H' := fun F' H' v e' r' d' => h3 F' A1 H' v e' (List.prefix_refl _) r' d'
    unfold dRev at hc
    split at hc
    · cases hc
      obtain ⟨p, vs, rfl, h4, h5⟩ := rd_lst hr
      exact ⟨p, vs, rfl, .inl ⟨SqL.of h4, fun p hp => finL sr1 k h5.reverse hp⟩⟩
    · cases hc
      obtain ⟨p, vs, rfl, h4, h5⟩ := rd_tup sr1.sub hr
      exact ⟨p, vs, rfl, .inr ⟨h4, finT sr1 k h5.reverse⟩⟩
    · cases hc

/-! ### o[i] = .., o[i], p[j] = .. -/
end
def wr1 (fo fi : Den) (d : D) (k : SDen) : SDen := sB fo fun o => sB fi fun i => fun b ρ S => match o, i with
  | .m j, .d (.int n) => (match S[j]? with
    | some (.lst xs) => (match ixN xs.length n with
      | some n => k b ρ (S.set j (.lst (xs.set n d)))
      | none => .no)
    | none => .no)
  | _, _ => .no
def storeD : List (Den × Den) → List D → SDen
  | [], [] => fun _ ρ S => .nx ρ S
  | (fo, fi) :: ts, d :: ds => wr1 fo fi d (storeD ts ds)
  | _, _ => fun _ _ _ => .no
theorem wr1_ok {g : G} {W : WX} {b : Nat} {P F H : Hp} {A : List Addr} {σ : LSt} {S : Sto} {ρ : Env} {D0 : Ends} {fo fi : Den} {d : D} {v : V} {k : SDen} {R : LSt → Hp → Prop} (r : SRel g P F A S H) (e : ERel g F A ρ σ) (hb : b ≤ A.length) (hd : DR g.K F v d)
    (h : SOk g b W P F A (wr1 fo fi d k b ρ S) D0) (hk : ∀ F1 A1 H1 S1, Ext F F1 → A <+: A1 → SRel g P F1 A1 S1 H1 → ERel g F1 A1 ρ σ → b ≤ A1.length → SOk g b W P F1 A1 (k b ρ S1) D0 → R σ H1) : gSub (tD g W fo) (tD g W fi) rSetL v σ H R := by
  refine tD_bS r e hb h fun o S1 F1 A1 H1 ov e1 p1 r1 er1 ro hb1 q1 => ?_
  refine tD_bS r1 er1 hb1 q1 fun i S2 F2 A2 H2 iv e2 p2 r2 er2 ri hb2 q2 => ?_
  cases o with
  | d _ => exact q2.elim
  | s _ => exact q2.elim
  | m j =>
    cases i with
    | m _ => exact q2.elim
    | s _ => exact q2.elim
    | d id =>
      cases id with
      | int n =>
        cases ri
        obtain ⟨a, ha, rfl⟩ := ro
        obtain ⟨xs, ws, c1, c2, c3⟩ := cell_at r2 (pre_get p2 ha)
        simp only [c1] at q2
        cases hn : ixN xs.length n with
        | none =>
          simp only [hn] at q2
          exact q2.elim
        | some n' =>
          simp only [hn] at q2
          have hd1 := hd.mono (e1.trans e2)
          exact ⟨a, ws, n, n', rfl, rfl, c2, by rw [c3.length]; exact hn, hk F2 A2 _ _ (e1.trans e2) (p1.trans p2) (r2.write (pre_get p2 ha) ⟨_, rfl, c3.set hd1 n'⟩) er2 hb2 q2⟩
      | _ => exact q2.elim
def gSubs (g : G) (W : WX) : List (Den × Den) → TGs
  | [] => gNil
  | (fo, fi) :: ts => gCons (gSub (tD g W fo) (tD g W fi) rSetL) (gSubs g W ts)
theorem storeD_ok {g : G} {W : WX} {b : Nat} {P : Hp} {D0 : Ends} : ∀ {ts : List (Den × Den)} {ds : List D} {vs : List V} {F H : Hp} {A : List Addr} {σ : LSt} {S : Sto} {ρ : Env}, SRel g P F A S H → ERel g F A ρ σ → b ≤ A.length → DRs g.K F vs ds →
    SOk g b W P F A (storeD ts ds b ρ S) D0 → gSubs g W ts vs σ H D0.nx
  | [], [], _, F, H, A, σ, S, ρ, r, e, hb, hd, h => by
    cases hd
    exact ⟨rfl, h F A σ H (Ext.refl _) (Kp.refl hb) r e⟩
  | (fo, fi) :: ts, d :: ds, _, F, H, A, σ, S, ρ, r, e, hb, hd, h => by
    cases hd with
    | cons h1 h2 =>
      have h : SOk g b W P F A (wr1 fo fi d (storeD ts ds) b ρ S) D0 := h
      exact ⟨_, _, rfl, wr1_ok r e hb h1 h fun F1 A1 H1 S1 e1 p1 r1 er1 hb1 q => storeD_ok r1 er1 hb1 (h2.mono e1) q⟩
  | [], _ :: _, _, _, _, _, _, _, _, _, _, _, _, h => h.elim
  | _ :: _, [], _, _, _, _, _, _, _, _, _, _, _, h => h.elim
/-- t1[i1], .. = e -/
def sSubs (ts : List (Den × Den)) (f : Den) : SDen := sB f fun r => match r with
  | .d (.tuple ds) => if ds.length = ts.length then storeD ts ds else fun _ _ _ => .no
  | _ => fun _ _ _ => .no
/-- o[i] = e -/
def sSub1 (fo fi f : Den) : SDen := sB f fun r => match r with
  | .d d => wr1 fo fi d sNil
  | _ => fun _ _ _ => .no
section
variable {X : Cx} {T : List (Addr × Str)} {W : WX}
theorem dgs_nil : PGs X [] (gSubs (gX X T) W []) := pgs_nil
theorem dgs_cons {o i : Expr} {es : List Expr} {fo fi : Den} {ts : List (Den × Den)} {pos : Pos} (ho : PE X o (tD (gX X T) W fo)) (hi : PE X i (tD (gX X T) W fi)) (h : PGs X es (gSubs (gX X T) W ts))
    (ha : ∀ v, assign (.Subscript o i pos) X.env v = (do
      let ov ← holding [v] (eval o X.env)
      let iv ← holding [v, ov] (eval i X.env)
      standAt pos
      holding [v, ov, iv] (setItem ov iv v)
      release [v, ov, iv] []) := by intro _; rfl)
    (hs : (assignEach (.Subscript o i pos :: es) X.env).map (·.2) = assign (.Subscript o i pos) X.env :: (assignEach es X.env).map (·.2) := by rfl) : PGs X (.Subscript o i pos :: es) (gSubs (gX X T) W ((fo, fi) :: ts)) := pgs_cons (pg_sub ho hi set_list ha) h hs
theorem ds_subs {es : List Expr} {e : Expr} {f : Den} {ts : List (Den × Den)} {k : Nat} {tpos pos : Pos} (hc : X.calm = true) (he : PE X e (tD (gX X T) W f)) (h : PGs X es (gSubs (gX X T) W ts)) (hl : ts.length = (assignEach es X.env).length := by rfl) (hst : (assignEach es X.env).findIdx? (·.1) = none := by rfl)
    (hs : swapsWithSole [.Tuple es k tpos] e pos.line X.env = pure false := by rfl) (hw : swappedStores [.Tuple es k tpos] e X.env = pure none := by rfl) (h1 : (assignEach [.Tuple es k tpos] X.env).map (·.2) = [assign (.Tuple es k tpos) X.env] := by rfl) :
    PS X (.Assign [.Tuple es k tpos] e pos) (tS (gX X T) W (sSubs ts f)) :=
  (ps_asg he (pg_tup hc h rfl hst) hs hw h1).le fun D σ H ⟨b, P, F, A, ρ, S, r, e, hb, h⟩ => tD_bS r e hb h fun x S1 F1 A1 H1 v e1 p1 r1 er1 rx hb1 h1 => by
    cases x with
    | d d =>
      cases d with
      | tuple ds =>
        have rx' : DR X.K F1 v (.tuple ds) := rx
        cases rx' with
        | tup h2 h3 =>
          by_cases hq : ds.length = ts.length
          · simp only [if_pos hq] at h1
            exact ⟨_, _, rfl, r1.sub.sqt h2.sqt, by rw [h3.length, hq, hl], storeD_ok r1 er1 hb1 h3 h1⟩
          · simp only [if_neg hq] at h1
            exact h1.elim
      | _ => exact h1.elim
    | _ => exact h1.elim
theorem ds_sub1 {o i e : Expr} {fo fi f : Den} {tpos pos : Pos} (ho : PE X o (tD (gX X T) W fo)) (hi : PE X i (tD (gX X T) W fi)) (he : PE X e (tD (gX X T) W f))
    (ha : ∀ v, assign (.Subscript o i tpos) X.env v = (do
      let ov ← holding [v] (eval o X.env)
      let iv ← holding [v, ov] (eval i X.env)
      standAt tpos
      holding [v, ov, iv] (setItem ov iv v)
      release [v, ov, iv] []) := by intro _; rfl)
    (hs : swapsWithSole [.Subscript o i tpos] e pos.line X.env = pure false := by rfl) (hw : swappedStores [.Subscript o i tpos] e X.env = pure none := by rfl) (h1 : (assignEach [.Subscript o i tpos] X.env).map (·.2) = [assign (.Subscript o i tpos) X.env] := by rfl) :
    PS X (.Assign [.Subscript o i tpos] e pos) (tS (gX X T) W (sSub1 fo fi f)) :=
  (ps_asg he (pg_sub ho hi set_list ha) hs hw h1).le fun D σ H ⟨b, P, F, A, ρ, S, r, e, hb, h⟩ => tD_bS r e hb h fun x S1 F1 A1 H1 v e1 p1 r1 er1 rx hb1 h1 => by
    cases x with
    | d d =>
      exact wr1_ok r1 er1 hb1 rx h1 fun F2 A2 H2 S2 e2 p2 r2 er2 hb2 q => q F2 A2 σ H2 (Ext.refl _) (Kp.refl hb2) r2 er2
    | _ => exact h1.elim
/-- a, b = x, y: plain local names, stored one by one -/
def sPar (i j : Nat) (fs : DenA) : SDen := fun b ρ S => match fs ρ S with
  | .ok [u, v] S' => .nx ((ρ.set i (some u)).set j (some v)) S'
  | .ok _ _ => .no
  | .exc c p S' => .exc c p ρ S'
  | .no => .no
def sPar3 (i j l : Nat) (fs : DenA) : SDen := fun b ρ S => match fs ρ S with
  | .ok [u, v, w] S' => .nx (((ρ.set i (some u)).set j (some v)).set l (some w)) S'
  | .ok _ _ => .no
  | .exc c p S' => .exc c p ρ S'
  | .no => .no
theorem tA_bS {g : G} {W : WX} {b : Nat} {P F H : Hp} {A : List Addr} {σ : LSt} {S : Sto} {ρ : Env} {fs : DenA} {R : List V → Hp → Prop} (r : SRel g P F A S H) (e : ERel g F A ρ σ) (hb : b ≤ A.length)
    (hx : ∀ c p S', fs ρ S = .exc c p S' → XsOk g b W P F A c p ρ S') (hn : fs ρ S ≠ .no) (hk : ∀ xs S1, fs ρ S = .ok xs S1 → ∀ F1 A1 H1 vs, Ext F F1 → A <+: A1 → SRel g P F1 A1 S1 H1 → ERel g F1 A1 ρ σ → RRs g.K F1 A1 xs vs → R vs H1) : tA g W fs σ H R := by
  refine ⟨P, F, A, ρ, S, r, e, ?_⟩
  cases hf : fs ρ S with
  | ok xs S1 => exact fun F1 A1 H1 vs e1 p1 r1 rr => hk xs S1 hf F1 A1 H1 vs e1 p1 r1 (e.mono e1 p1) rr
  | exc c p S1 => exact XsOk.ex hb e (hx c p S1 hf)
  | no => exact hn hf
theorem ds_par {i j : Nat} {x y : Str} {a b : Expr} {fs : DenA} {px py pt pos : Pos} {kt k2 pt2} (hc : X.calm = true) (hN : X.N.Nodup) (hi : X.N[i]? = some x) (hj : X.N[j]? = some y) (hij : i ≠ j)
    (hx : X.env.scope.names.lookup x = some .local) (hy : X.env.scope.names.lookup y = some .local) (ha : PA X [a, b] (tA (gX X T) W fs))
    (hw : swappedStores [.Tuple [.Name x px, .Name y py] kt pt] (.Tuple [a, b] k2 pt2) X.env = pure (some [x, y]))
    (hs : swapsWithSole [.Tuple [.Name x px, .Name y py] kt pt] (.Tuple [a, b] k2 pt2) pos.line X.env = pure false := by rfl) :
    PS X (.Assign [.Tuple [.Name x px, .Name y py] kt pt] (.Tuple [a, b] k2 pt2) pos) (tS (gX X T) W (sPar i j fs)) :=
  (ps_par hc hN hi hj hij hx hy ha hw hs).le fun D σ H ⟨b, P, F, A, ρ, S, r, e, hb, h⟩ => by
    unfold sPar at h
    refine tA_bS r e hb (fun c p S' he => by rw [he] at h; exact h) (fun he => by rw [he] at h; exact h) fun xs S1 he F1 A1 H1 vs e1 p1 r1 er1 rr => ?_
    rw [he] at h
    split at h
    · rename_i u v S' eo
      cases eo
      obtain ⟨x, y, rfl, h1, h2⟩ := rrs2 rr
      exact ⟨x, y, rfl, h F1 A1 _ H1 e1 (Kp.of hb p1) r1 ((er1.set h1).set h2)⟩
    · exact h.elim
    · rename_i eo
      cases eo
    · rename_i eo
      cases eo
theorem ds_par3 {i j l : Nat} {x y z : Str} {a b c : Expr} {fs : DenA} {px py pz pt pos : Pos} {kt k2 pt2} (hc : X.calm = true) (hN : X.N.Nodup) (hi : X.N[i]? = some x) (hj : X.N[j]? = some y) (hl : X.N[l]? = some z) (hij : i ≠ j) (hil : i ≠ l) (hjl : j ≠ l)
    (hx : X.env.scope.names.lookup x = some .local) (hy : X.env.scope.names.lookup y = some .local) (hz : X.env.scope.names.lookup z = some .local) (ha : PA X [a, b, c] (tA (gX X T) W fs))
    (hw : swappedStores [.Tuple [.Name x px, .Name y py, .Name z pz] kt pt] (.Tuple [a, b, c] k2 pt2) X.env = pure (some [x, y, z]))
    (hs : swapsWithSole [.Tuple [.Name x px, .Name y py, .Name z pz] kt pt] (.Tuple [a, b, c] k2 pt2) pos.line X.env = pure false := by rfl) :
    PS X (.Assign [.Tuple [.Name x px, .Name y py, .Name z pz] kt pt] (.Tuple [a, b, c] k2 pt2) pos) (tS (gX X T) W (sPar3 i j l fs)) :=
  (ps_par3 hc hN hi hj hl hij hil hjl hx hy hz ha hw hs).le fun D σ H ⟨b, P, F, A, ρ, S, r, e, hb, h⟩ => by
    unfold sPar3 at h
    refine tA_bS r e hb (fun c p S' he => by rw [he] at h; exact h) (fun he => by rw [he] at h; exact h) fun xs S1 he F1 A1 H1 vs e1 p1 r1 er1 rr => ?_
    rw [he] at h
    split at h
    · rename_i u v w S' eo
      cases eo
      cases vs with
      | nil => exact rr.elim
      | cons x vs =>
        obtain ⟨y, z, rfl, h2, h3⟩ := rrs2 rr.2
        exact ⟨x, y, z, rfl, h F1 A1 _ H1 e1 (Kp.of hb p1) r1 (((er1.set rr.1).set h2).set h3)⟩
    · exact h.elim
    · rename_i eo
      cases eo
    · rename_i eo
      cases eo
/-- x += e, x -= e, ints -/
theorem ds_aug {i : Nat} {x : Str} {e : Expr} {f : Den} {op : Operator} {ti : TIp} {dop : D → D → Option D} {pos' pos : Pos} (hN : X.N.Nodup) (hi : X.N[i]? = some x) (hx : Loc X.env.scope x) (he : PE X e (tD (gX X T) W f)) (ho : PIp X op ti) (hd : OpD (gX X T) ti dop)
    (hf : X.fn x = true ∨ X.env.scope.names.lookup x = some .local := by first | exact .inl rfl | exact .inr rfl | assumption) : PS X (.AugAssign (.Name x pos') op e pos) (tS (gX X T) W (sAsg i (eOp dop (eVar i) f))) :=
  (ps_aug hN hi hx he ho hf).le fun D σ H ⟨b, P, F, A, ρ, S, r, e, hb, h⟩ => by
    have h' : SOk (gX X T) b W P F A (sB (eOp dop (eVar i) f) (fun r _ ρ S => .nx (ρ.set i (some r)) S) b ρ S) D := h
    cases hv : ρ[i]? with
    | none =>
      unfold sB eOp eB eVar at h'
      simp only [hv] at h'
      exact h'.elim
    | some o =>
      cases o with
      | none =>
        unfold sB eOp eB eVar at h'
        simp only [hv] at h'
        exact h'.elim
      | some rv =>
        obtain ⟨v, hv1, hv2⟩ := e.at_ i rv hv
        refine ⟨v, hv1, ?_⟩
        have h2 : SOk (gX X T) b W P F A (sB f (fun y _ ρ S => match val S rv, val S y with
          | some a, some b => (match dop a b with
            | some c => .nx (ρ.set i (some (.d c))) S
            | none => .no)
          | _, _ => .no) b ρ S) D := by
          unfold sB eOp eB eVar at h'
          unfold sB
          simp only [hv] at h'
          cases hf : f ρ S with
          | ok y S1 =>
            simp only [hf] at h' ⊢
            cases q1 : val S1 rv with
            | none =>
              simp only [q1] at h'
              exact h'.elim
            | some a =>
              cases q2 : val S1 y with
              | none =>
                simp only [q1, q2] at h'
                exact h'.elim
              | some c =>
                simp only [q1, q2] at h' ⊢
                cases q3 : dop a c with
                | none =>
                  simp only [q3] at h'
                  exact h'.elim
                | some d =>
                  simp only [q3] at h' ⊢
                  exact h'
          | exc c p S1 =>
            simp only [hf] at h' ⊢
            exact h'
          | no =>
            simp only [hf] at h'
            exact h'.elim
        refine tD_bS r e hb h2 fun y S1 F1 A1 H1 u e1 p1 r1 er1 ry hb1 h3 => ?_
        cases q1 : val S1 rv with
        | none =>
          simp only [q1] at h3
          exact h3.elim
        | some a =>
          cases q2 : val S1 y with
          | none =>
            simp only [q1, q2] at h3
            exact h3.elim
          | some c =>
            simp only [q1, q2] at h3
            cases q3 : dop a c with
            | none =>
              simp only [q3] at h3
              exact h3.elim
            | some d =>
              simp only [q3] at h3
              exact hd P F1 A1 S1 H1 v u a c d _ r1 (r1.read (hv2.mono e1 p1) q1) (r1.read ry q2) q3 fun F4 H4 w e4 sr4 d4 => h3 F4 A1 _ H4 e4 (Kp.refl hb1) sr4 ((er1.mono e4 (List.prefix_refl _)).set d4)
def dAddI : D → D → Option D
  | .int i, .int j => some (.int (i + j))
  | _, _ => none
theorem opD_ipAdd {g : G} : OpD g (ipI fun i j => i + j) dAddI := by
  intro P F A S H x y a b c Q sr hx hy hc k
  unfold dAddI at hc
  split at hc
  · cases hc
    rw [rd_int hx, rd_int hy]
    exact ⟨_, _, rfl, rfl, fin0 sr k (.int _)⟩
  · cases hc
theorem opD_ipSub {g : G} : OpD g (ipI fun i j => i - j) dSub := by
  intro P F A S H x y a b c Q sr hx hy hc k
  unfold dSub at hc
  split at hc
  · cases hc
    rw [rd_int hx, rd_int hy]
    exact ⟨_, _, rfl, rfl, fin0 sr k (.int _)⟩
  · cases hc
end
end DL

end
section
set_option Elab.async false
set_option linter.all false
set_option maxRecDepth 100000
set_option maxHeartbeats 1000000
namespace DL
open PySem PySem.Spec PyProof.Rows L2

/-! ### two clauses, one within the other -/
theorem wipe_again (σ : LSt) (vs : List Nat) : ∀ us : List Nat, (∀ j ∈ us, j ∈ vs) → wipe (wipe σ vs) us = wipe σ vs
  | [], _ => rfl
  | u :: us, hu => by
    show (wipe (wipe σ vs) us).set u none = wipe σ vs
    rw [wipe_again σ vs us fun j hj => hu j (List.mem_cons_of_mem _ hj)]
    have key2 : ∀ ws : List Nat, u ∈ ws → (wipe σ ws).set u none = wipe σ ws := fun ws hw => by
      induction ws with
      | nil => cases hw
      | cons w ws ih2 =>
        show ((wipe σ ws).set w none).set u none = (wipe σ ws).set w none
        by_cases ew : w = u
        · subst ew
          rw [List.set_set]
        · rw [List.set_comm _ _ ew, ih2 ((List.mem_cons.mp hw).resolve_left fun q => ew q.symm)]
    exact key2 vs (hu u List.mem_cons_self)
/-- the turns of one clause: from the list ws0 to the list of out -/
theorem walkC {g : G} {P F1 H1 : Hp} {A1 : List Addr} {σ : LSt} {ρ : Env} {S1 S' : Sto} {Dl : Addr} {ws0 : List V} {acc0 out ds : List D} {p : Pat} {t f : Den} {vs : List Nat} {J : It} {End : Hp → Prop} (hv : ∀ j ∈ slotsP p, j ∈ vs) (hP : P Dl = none)
    (r1 : SRel g (upd P Dl (.lst ws0)) F1 A1 S1 H1) (h0 : DRs g.K F1 ws0 acc0) (er : ERel g F1 A1 ρ σ) (wk : Walk g F1 A1 none ds J) (hl : loopC p t f (wipeE ρ vs) none acc0 ds S1 = .ok out S')
    (fin : ∀ F2 A2 H2 ws, Ext F1 F2 → A1 <+: A2 → SRel g (upd P Dl (.lst ws)) F2 A2 S' H2 → DRs g.K F2 ws out → End H2) :
    ∃ W : Nat → Nat → Hp → Prop, (∃ m, W 0 m H1) ∧ ∀ i m H, W i m H → (J.stop i H ∧ End H) ∨ (J.go i H ∧ ∃ Nx : Hp → Prop, (∀ H', Nx H' → ∃ m', m' < m ∧ W (i + 1) m' H') ∧ ∀ x H', J.yld i H x H' →
      gP g.K p x (wipe σ vs) H' fun σ2 H2 => wipe σ2 vs = wipe σ vs ∧ tB' g W0 t σ2 H2 fun b H3 => if b = true then tD g W0 f σ2 H3 fun y H4 => ∃ acc, H4 Dl = some (.lst acc) ∧ acc.length < sizeLine ∧ Nx (upd H4 Dl (.lst (acc ++ [y]))) else Nx H3) := by
  refine ⟨fun i m H => m = ds.length - i ∧ i ≤ ds.length ∧ ∃ F2 A2 S2 acc ws, Ext F1 F2 ∧ A1 <+: A2 ∧ SRel g (upd P Dl (.lst ws)) F2 A2 S2 H ∧ DRs g.K F2 ws acc ∧ loopC p t f (wipeE ρ vs) none acc (ds.drop i) S2 = .ok out S',
    ⟨ds.length, by simp, Nat.zero_le _, F1, A1, S1, acc0, ws0, Ext.refl _, List.prefix_refl _, r1, h0, by rw [List.drop_zero]; exact hl⟩, fun i m H hw => ?_⟩
  obtain ⟨rfl, hi, F2, A2, S2, acc, ws, e2, p2, r2, hacc, h2⟩ := hw
  obtain ⟨wgo, wstop⟩ := wk i _ F2 A2 S2 H e2 r2 srcNone
  by_cases hlt : i < ds.length
  · refine .inr ?_
    obtain ⟨go, yl⟩ := wgo ds[i] (List.getElem?_eq_getElem hlt)
    rw [List.drop_eq_getElem_cons hlt] at h2
    unfold loopC at h2
    refine ⟨go, fun H => ∃ F3 A3 S3 acc ws, Ext F1 F3 ∧ A1 <+: A3 ∧ SRel g (upd P Dl (.lst ws)) F3 A3 S3 H ∧ DRs g.K F3 ws acc ∧ loopC p t f (wipeE ρ vs) none acc (ds.drop (i + 1)) S3 = .ok out S',
      fun H' hn => ⟨ds.length - (i + 1), by omega, rfl, hlt, hn⟩, fun x H' y => ?_⟩
    obtain ⟨F3, e3, r3, hd⟩ := yl x H' y
    have erw : ERel g F3 A2 (wipeE ρ vs) (wipe σ vs) := (er.mono (e2.trans e3) p2).wipe vs
    cases hset : setP p ds[i] (wipeE ρ vs) with
    | none =>
      rw [hset] at h2
      cases h2
    | some ρ3 =>
      rw [hset] at h2
      simp only at h2
      obtain ⟨σ3, er3, k3, w3⟩ := setP_ok (g := g) (A := A2) r3.sub hd erw hset
      refine k3 _ ⟨?_, _, F3, A2, ρ3, S2, r3, er3, ?_⟩
      · rw [w3 vs hv]
        exact wipe_again σ vs vs fun j hj => hj
      cases ht : t ρ3 S2 with
      | exc c q S4 =>
        simp only [ht] at h2
        cases h2
      | no =>
        simp only [ht] at h2
        cases h2
      | ok tr S4 =>
        simp only [ht] at h2
        cases tr with
        | m j => cases h2
        | s ns => cases h2
        | d td =>
          cases td with
          | bool tb =>
            intro F5 A5 H5 e5 p5 r5
            cases tb with
            | false => exact ⟨F5, A5, S4, acc, ws, (e2.trans e3).trans e5, p2.trans p5, r5, (hacc.mono e3).mono e5, h2⟩
            | true =>
              refine ⟨_, F5, A5, ρ3, S4, r5, er3.mono e5 p5, ?_⟩
              simp only at h2
              cases hf : f ρ3 S4 with
              | exc c q S6 =>
                simp only [hf] at h2
                cases h2
              | no =>
                simp only [hf] at h2
                cases h2
              | ok fr S6 =>
                simp only [hf] at h2
                cases fr with
                | m j => cases h2
                | s ns => cases h2
                | d fv =>
                  intro F7 A7 H7 v e7 p7 r7 rv
                  simp only at h2
                  by_cases hz : acc.length < sizeLine
                  · rw [if_pos hz] at h2
                    obtain ⟨hD7, _, _, _⟩ := r7.pin Dl _ upd_same
                    exact ⟨ws, hD7, by rw [hacc.length]; exact hz, F7, A7, S6, acc ++ [fv], ws ++ [v], ((e2.trans e3).trans e5).trans e7, (p2.trans p5).trans p7, r7.repin hP trivial, (((hacc.mono e3).mono e5).mono e7).append (.cons rv .nil), h2⟩
                  · rw [if_neg hz] at h2
                    cases h2
          | _ => cases h2
  · have ei : i = ds.length := by omega
    subst ei
    rw [List.drop_length] at h2
    unfold loopC at h2
    cases h2
    exact .inl ⟨wstop (Nat.le_refl _), fin F2 A2 H ws e2 p2 r2 hacc⟩
def loopC2 (p : Pat) (t : Den) (it1 : ItDen) (p1 : Pat) (t1 f : Den) (vs1 : List Nat) (ρw : Env) : List D → List D → Sto → COut
  | acc, [], S => .ok acc S
  | acc, d :: ds, S => match setP p d ρw with
    | none => .no
    | some ρ1 => match t ρ1 S with
      | .ok (.d (.bool true)) S1 => (match it1 ρ1 S1 with
        | .ok none ds1 S2 => (match loopC p1 t1 f (wipeE ρ1 vs1) none acc ds1 S2 with
          | .ok acc' S3 => loopC2 p t it1 p1 t1 f vs1 ρw acc' ds S3
          | .no => .no)
        | _ => .no)
      | .ok (.d (.bool false)) S1 => loopC2 p t it1 p1 t1 f vs1 ρw acc ds S1
      | _ => .no
/-- [f for p in it if t for p1 in it1 if t1] -/
def eComp2 (it : ItDen) (p : Pat) (t : Den) (it1 : ItDen) (p1 : Pat) (t1 f : Den) (vs vs1 : List Nat) : Den := fun ρ S => match it ρ S with
  | .ok none ds S' => (match loopC2 p t it1 p1 t1 f vs1 (wipeE ρ vs) [] ds S' with
    | .ok out S2 => .ok (.d (.list out)) S2
    | .no => .no)
  | .ok _ _ _ => .no
  | .exc c q S' => .exc c q S'
  | .no => .no
section
variable {X : Cx} {T : List (Addr × Str)} {W : WX}
theorem tLc2_F {g : G} {it it1 : ItDen} {p p1 : Pat} {t t1 f : Den} {vs vs1 : List Nat} (hv : ∀ j ∈ slotsP p, j ∈ vs) (hv1 : ∀ j ∈ slotsP p1, j ∈ vs1) (σ : LSt) (H : Hp) (Q : VK) (h : tF g W (eComp2 it p t it1 p1 t1 f vs vs1) σ H Q) :
    tLc2 (tI g W it) (gP g.K p) (tB' g W0 t) (tI g W0 it1) (gP g.K p1) (tB' g W0 t1) (tD g W0 f) vs vs1 σ H Q := by
  obtain ⟨P, F, A, ρ, S, r, e, h⟩ := h
  refine ⟨P, F, A, ρ, S, r, e, ?_⟩
  unfold eComp2 at h
  cases hit : it ρ S with
  | exc c q S' =>
    rw [hit] at h
    exact h
  | no =>
    rw [hit] at h
    exact h.elim
  | ok src ds S' =>
    rw [hit] at h
    cases src with
    | some j => exact h.elim
    | none =>
      simp only at h
      intro F1 A1 H1 J e1 p1' r1 so wk Dl hD
      have h := FOk.mono e1 p1' h
      obtain ⟨fD, aD, pD⟩ := r1.fresh hD
      cases hl : loopC2 p t it1 p1 t1 f vs1 (wipeE ρ vs) [] ds S' with
      | no =>
        rw [hl] at h
        exact h.elim
      | ok out Sf =>
        rw [hl] at h
        simp only at h
        refine ⟨fun i m H => m = ds.length - i ∧ i ≤ ds.length ∧ ∃ F2 A2 S2 acc ws, Ext F1 F2 ∧ A1 <+: A2 ∧ SRel g (upd P Dl (.lst ws)) F2 A2 S2 H ∧ DRs g.K F2 ws acc ∧ loopC2 p t it1 p1 t1 f vs1 (wipeE ρ vs) acc (ds.drop i) S2 = .ok out Sf,
          ⟨ds.length, by simp, Nat.zero_le _, F1, A1, S', [], [], Ext.refl _, List.prefix_refl _, (r1.grow (Ext.new hD)).pinned upd_same fD aD pD trivial, .nil, by rw [List.drop_zero]; exact hl⟩, fun i m H hw => ?_⟩
        obtain ⟨rfl, hi, F2, A2, S2, acc, ws, e2, p2, r2, hacc, h2⟩ := hw
        obtain ⟨wgo, wstop⟩ := wk i _ F2 A2 S2 H e2 r2 srcNone
        by_cases hlt : i < ds.length
        · refine .inr ?_
          obtain ⟨go, yl⟩ := wgo ds[i] (List.getElem?_eq_getElem hlt)
          rw [List.drop_eq_getElem_cons hlt] at h2
          unfold loopC2 at h2
          refine ⟨go, fun H => ∃ F3 A3 S3 acc ws, Ext F1 F3 ∧ A1 <+: A3 ∧ SRel g (upd P Dl (.lst ws)) F3 A3 S3 H ∧ DRs g.K F3 ws acc ∧ loopC2 p t it1 p1 t1 f vs1 (wipeE ρ vs) acc (ds.drop (i + 1)) S3 = .ok out Sf,
            fun H' hn => ⟨ds.length - (i + 1), by omega, rfl, hlt, hn⟩, fun x H' y => ?_⟩
          obtain ⟨F3, e3, r3, hd⟩ := yl x H' y
          have erw : ERel g F3 A2 (wipeE ρ vs) (wipe σ vs) := (e.mono ((e1.trans e2).trans e3) (p1'.trans p2)).wipe vs
          cases hset : setP p ds[i] (wipeE ρ vs) with
          | none =>
            rw [hset] at h2
            cases h2
          | some ρ3 =>
            rw [hset] at h2
            simp only at h2
            obtain ⟨σ3, er3, k3, w3⟩ := setP_ok (g := g) (A := A2) r3.sub hd erw hset
            refine k3 _ ⟨?_, _, F3, A2, ρ3, S2, r3, er3, ?_⟩
            · rw [w3 vs hv]
              exact wipe_again σ vs vs fun j hj => hj
            cases ht : t ρ3 S2 with
            | exc c q S4 =>
              simp only [ht] at h2
              cases h2
            | no =>
              simp only [ht] at h2
              cases h2
            | ok tr S4 =>
              simp only [ht] at h2
              cases tr with
              | m j => cases h2
              | s ns => cases h2
              | d td =>
                cases td with
                | bool tb =>
                  intro F5 A5 H5 e5 p5 r5
                  cases tb with
                  | false => exact ⟨F5, A5, S4, acc, ws, (e2.trans e3).trans e5, p2.trans p5, r5, (hacc.mono e3).mono e5, h2⟩
                  | true =>
                    simp only at h2
                    refine ⟨_, F5, A5, ρ3, S4, r5, er3.mono e5 p5, ?_⟩
                    cases hi1 : it1 ρ3 S4 with
                    | exc c q S6 =>
                      simp only [hi1] at h2
                      cases h2
                    | no =>
                      simp only [hi1] at h2
                      cases h2
                    | ok src1 ds1 S6 =>
                      simp only [hi1] at h2
                      cases src1 with
                      | some j => cases h2
                      | none =>
                        simp only at h2
                        intro F7 A7 H7 J1 e7 p7 r7 so7 wk7
                        cases hl1 : loopC p1 t1 f (wipeE ρ3 vs1) none acc ds1 S6 with
                        | no =>
                          simp only [hl1] at h2
                          cases h2
                        | ok acc' S8 =>
                          simp only [hl1] at h2
                          refine walkC hv1 pD r7 (((hacc.mono e3).mono e5).mono e7) ((er3.mono e5 p5).mono e7 p7) wk7 hl1 fun F9 A9 H9 ws9 e9 p9 r9 h9 => ?_
                          exact ⟨F9, A9, S8, acc', ws9, (((e2.trans e3).trans e5).trans e7).trans e9, ((p2.trans p5).trans p7).trans p9, r9, h9, h2⟩
                | _ => cases h2
        · have ei : i = ds.length := by omega
          subst ei
          rw [List.drop_length] at h2
          unfold loopC2 at h2
          cases h2
          obtain ⟨hDl, fDl, aDl, _⟩ := r2.pin Dl _ upd_same
          exact .inl ⟨wstop (Nat.le_refl _), h F2 A2 H Dl ws e2 p2 (r2.unpin pD) hDl hacc fDl aDl pD⟩
theorem df_comp2 {elt tg iter tg1 iter1 : Expr} {ifs ifs1 : List Expr} {scope : Scope} {own : List (Str × Nat)} {vs1 : List Nat} {pos : Pos} {it it1 : ItDen} {p p1 : Pat} {t t1 f : Den} (hc : X.calm = true) (hN : X.N.Nodup) (hi : PI X tg iter (tI (gX X T) W it)) (ok : BlkOk X.N X.env.scope scope own)
    (hsub : ∀ i ∈ vs1, i ∈ own.map (·.2)) (hv : ∀ j ∈ slotsP p, j ∈ own.map (·.2)) (hv1 : ∀ j ∈ slotsP p1, j ∈ vs1)
    (hg : ∀ (s : Shared) (H : Hp) (C : Addr) (cl : List (Str × Addr)) (fp : List Addr), PG (X.blk s H scope (compEnvC scope cl C X.env) fp) tg (gP X.K p)) (ht : ∀ (s : Shared) (H : Hp) (C : Addr) (cl : List (Str × Addr)) (fp : List Addr), PTs (X.blk s H scope (compEnvC scope cl C X.env) fp) ifs (tB' (gX X T) W0 t))
    (hi1 : ∀ (s : Shared) (H : Hp) (C : Addr) (cl : List (Str × Addr)) (fp : List Addr), PI (X.blk s H scope (compEnvC scope cl C X.env) fp) tg1 iter1 (tI (gX X T) W0 it1))
    (hg1 : ∀ (s : Shared) (H : Hp) (C : Addr) (cl : List (Str × Addr)) (fp : List Addr), PG (X.blk s H scope (compEnvC scope cl C X.env) fp) tg1 (gP X.K p1)) (ht1 : ∀ (s : Shared) (H : Hp) (C : Addr) (cl : List (Str × Addr)) (fp : List Addr), PTs (X.blk s H scope (compEnvC scope cl C X.env) fp) ifs1 (tB' (gX X T) W0 t1))
    (he : ∀ (s : Shared) (H : Hp) (C : Addr) (cl : List (Str × Addr)) (fp : List Addr), PE (X.blk s H scope (compEnvC scope cl C X.env) fp) elt (tD (gX X T) W0 f)) (hs : ∀ x, foldedSetIterable iter X.env x = pure x := by intro _; rfl) (hs1 : ∀ env x, foldedSetIterable iter1 env x = pure x := by intro _ _; rfl) :
    PE X (.ListComp elt [⟨tg, iter, ifs, 0⟩, ⟨tg1, iter1, ifs1, 0⟩] scope pos) (tF (gX X T) W (eComp2 it p t it1 p1 t1 f (own.map (·.2)) vs1)) :=
  (pe_lc2 hc hN hi ok hsub hg ht hi1 hg1 ht1 he hs hs1).le (tLc2_F hv hv1)
end
end DL

end
section
set_option Elab.async false
set_option linter.all false
set_option maxRecDepth 100000
set_option maxHeartbeats 1000000
namespace DL
open PySem PySem.Spec PyProof.Rows L2

/-! ### errors are made and raised -/
/-- the __init__ at fI makes of a new thing of the class C one with a place and a name -/
def MkI (prog : Program) (w : World) (base : Heap) (fI C : Addr) (nm : Str) : Prop := ∀ (A : Around) (R : Result → Shared → Prop) (s : Shared) (x t0 : Addr) (v : Value), DLX.Bs base s.heap → s.heap.get? x = some (PySem.HandSPX.excO C t0) → base.get? x = none → A.depth + 1 < recursionLimit →
  (∀ h' tk dx t1 tn, DLX.Ini s.heap h' x C dx t1 (DLX.mPN nm tn v) → R (.ok (.ret .none)) { s with heap := h', toks := tk }) → codeAny (model prog w) A (.call (.ref fI) ⟨[.ref x, v], []⟩) R s
/-- what is known of a class of errors -/
structure ErrX (K : PySem.W.Frag) (mg : Str → Option Value) (prog : Program) (w : World) (base : Heap) (x : Str) (C : Addr) : Prop where
  T : OexC K C
  mgC : mg x = some (.ref C)
  ini : ∃ (fI : Addr) (nm : Str), PySem.W.findIn K (.ref C) "__init__" = some (some (.ref fI)) ∧ PySem.W.typeIn K (.ref fI) = some (.type "function") ∧ (L2.Mod K mg base → MkI prog w base fI C nm)
def plFs (nm : Str) (v : V) : List (Str × V) := [(("name" : Str), .str nm), (("place" : Str), v)]
theorem plFs_place (nm : Str) (v : V) : (plFs nm v).lookup ("place" : Str) = some v := by
  have h : (("place" : Str) == ("name" : Str)) = false := by decide +kernel
  unfold plFs
  simp [List.lookup, h]
theorem plFs_rel {nm : Str} {t : Tok} {v : V} {u : Value} (r : RelV v u) (f : Str) : RelO ((plFs nm v).lookup f) (DLX.mPN nm t u f) := by
  unfold plFs DLX.mPN
  rw [lookup_put]
  by_cases h : f = "name"
  · rw [if_pos h, if_pos h]
    exact ⟨t, rfl⟩
  · rw [if_neg h, if_neg h, lookup_put]
    by_cases h2 : f = "place"
    · rw [if_pos h2, if_pos h2]
      exact r
    · rw [if_neg h2, if_neg h2]
      trivial
section
variable {X : Cx} {T : List (Addr × Str)} {W : WX}
/-- C(e) -/
def tMkE (C : Addr) (ta : TA) : L2.St → Hp → XK → Prop := fun σ H Q => ta σ H fun vs H1 => ∃ v, vs = [v] ∧ ∀ d fs, H1 d = none → fs.lookup ("place" : Str) = some v → Q (.ref C) (some d) (upd H1 d (.xd fs))
theorem pmk_err {x : Str} {C : Addr} {a : Expr} {ta : TA} {p pos : Pos} {k : Nat} (E : ErrX X.K X.mg X.prog X.w X.base x C) (hr : Room (k + 1) X.A) (ha : PA X [a] ta) (hg : Gl X x) (hdb : (x == ("__debug__" : Str)) = false := by decide)
    (he : starEach (a :: []) X.env = (false, eval a X.env) :: starEach [] X.env := by rfl) (hpl : (backTo pos (starEach [] X.env)).any (·.1) = false := by rfl) : PMk X (.Call (.Name x p) [a] [] pos) (tMkE C ta) := by
  intro pins s σ H Q I h
  refine wpAny_Call_Name_kw (ld_glob I hg E.mgC ?_ hdb)
  refine PySem.W.callWith_K (h₀ := X.base) I.ok.mod.kin E.T.kC (thn (ha.run pos pins s σ H _ I h) fun us s1 ⟨vs, H1, I1, r1, v, ev, q1⟩ => ⟨I1.kIn, ?_⟩) he hpl
  subst ev
  obtain ⟨u, rfl, ru⟩ := vals1 r1
  obtain ⟨fI, nm, hfi, hft, ini⟩ := E.ini
  obtain ⟨nmC, q, N, bs, bm, sn, sub, ab, col, dd, k0, k1, k2, k3, k5, hC, hbm⟩ := E.T.cls
  show wpAny _ _ (call (.ref C) [u]) _ _ _
  obtain ⟨hp, g, dr, tk, os⟩ := s1
  have kk : ∀ b o, hp.get? b = some o → ((hp.push (PySem.W.kdv_tup [u])).push (PySem.HandSPX.excO C hp.objs.size)).get? b = some o := fun b o e => Heap.get?_push_of_some _ (Heap.get?_push_of_some _ e)
  have hget : ((hp.push (PySem.W.kdv_tup [u])).push (PySem.HandSPX.excO C hp.objs.size)).get? (hp.objs.size + 1) = some (PySem.HandSPX.excO C hp.objs.size) := by heap_get
  have hb0 : X.base.get? (hp.objs.size + 1) = none := by
    cases e : X.base.get? (hp.objs.size + 1) with
    | none => rfl
    | some o =>
      have z := Heap.lt_size (I1.bk _ _ e)
      exact absurd (Nat.lt_of_succ_lt z) (Nat.lt_irrefl _)
  refine wpAny_call (PySem.HandSPX.call_own F.excBase_ValueError (fun Y => PySem.HandSPX.refsVE_contains Y bm hbm) (I1.kIn _ _ hC) (PySem.W.looks_findIn I1.kIn hfi) (fun self => PySem.W.bind_fn I1.kIn self hft) (DLX.one_ok u) ?_)
  refine ini I.ok.mod _ _ ⟨(hp.push (PySem.W.kdv_tup [u])).push (PySem.HandSPX.excO C hp.objs.size), g, dr, tk, os⟩ (hp.objs.size + 1) hp.objs.size u (fun b o e => kk b o (I1.bk b o e)) hget hb0 (by
    have z := hr.dp
    show X.A.depth + 1 + 1 < recursionLimit
    omega) fun h' tk' d t1 tn J => ⟨rfl, ?_⟩
  -- the new thing is an exception in our hands
  show MkP X pins σ Q (.ref (hp.objs.size + 1)) ⟨h', g, dr, tk', os⟩
  generalize ea : hp.objs.size + 1 = a at *
  have hlt : ∀ {b : Addr} {o : Obj}, hp.get? b = some o → b ≠ a := fun {b o} e => Nat.ne_of_lt (ea ▸ Nat.lt_succ_of_lt (Heap.lt_size e))
  have dbig : hp.objs.size ≤ d := by
    have z := J.dnew
    have z2 : hp.objs.size ≤ ((hp.push (PySem.W.kdv_tup [u])).push (PySem.HandSPX.excO C hp.objs.size)).objs.size := by
      rw [Heap.size_push, Heap.size_push]
      exact Nat.le_succ_of_le (Nat.le_succ _)
    exact Nat.le_trans z2 z
  obtain ⟨G', g1, g2⟩ := restrict h' fun b => decide (b ≠ a)
  have gk : ∀ b, b ≠ a → G'.get? b = h'.get? b := fun b hb => g1 b (decide_eq_true hb)
  have ge : G'.get? a = none := g2 a (by simp)
  have old : ∀ b o, hp.get? b = some o → G'.get? b = some o := fun b o e => (gk b (hlt e)).trans (J.keep b o (hlt e) (kk b o e))
  have J2 : Inv X pins σ (upd H1 d (.xd (plFs nm v))) ⟨G', g, dr, tk', os⟩ := I1.laid (t' := tk') old dbig ⟨_, J.ns.at (fun o e => (gk d J.ne).trans e), fun f => plFs_rel ru f⟩
  have na : (upd H1 d (.xd (plFs nm v))) a = none := by
    rw [upd_ne (Ne.symm J.ne)]
    exact I1.hok.fresh (show hp.objs.size ≤ a from ea ▸ Nat.le_succ _)
  refine ⟨a, _, _, ⟨G', g, dr, tk', os⟩, _, .ref C, some d, rfl, J2, fun b o e => ?_, ge, J.obj, ⟨rfl, rfl⟩, rfl, rfl, na, rfl, I1.bare, raises_own E.T.exC E.T.tyC, q1 d (plFs nm v) (I1.hok.fresh dbig) (plFs_place nm v)⟩
  by_cases hb : b = a
  · subst hb
    rw [ge] at e
    cases e
  · exact (gk b hb).symm.trans e
/-- raise C(e) -/
def sRaise (c : Str) (f : Den) : SDen := fun _ ρ S => match f ρ S with
  | .ok (.d p) S' => .exc c p ρ S'
  | .ok _ _ => .no
  | .exc c p S' => .exc c p ρ S'
  | .no => .no
theorem ds_raise {x : Str} {C : Addr} {a : Expr} {f : Den} {p pos pos2 : Pos} {k : Nat} (hc : X.calm = true) (tk : Takes X W) (E : ErrX X.K X.mg X.prog X.w X.base x C) (hr : Room (k + 1) X.A) (ha : PE X a (tD (gX X T) W f)) (hg : Gl X x) (hdb : (x == ("__debug__" : Str)) = false := by decide)
    (he : starEach (a :: []) X.env = (false, eval a X.env) :: starEach [] X.env := by rfl) (hpl : (backTo pos (starEach [] X.env)).any (·.1) = false := by rfl) : PS X (.Raise (some (.Call (.Name x p) [a] [] pos)) none pos2) (tS (gX X T) W (sRaise x f)) :=
  (ps_raise hc tk (pmk_err E hr (pa_cons ha pa_nil he) hg hdb he hpl)).le fun D σ H ⟨b, P, F, A, ρ, S, r, e, hb, h⟩ => by
    refine ⟨P, F, A, ρ, S, r, e, ?_⟩
    unfold sRaise at h
    cases hf : f ρ S with
    | no =>
      rw [hf] at h
      exact h
    | exc c q S1 =>
      rw [hf] at h
      exact XsOk.ex hb e h
    | ok rv S1 =>
      rw [hf] at h
      cases rv with
      | m j => exact h.elim
      | s ns => exact h.elim
      | d pd =>
        intro F1 A1 H1 v e1 p1 r1 rv
        refine ⟨v, rfl, fun d fs hd hl => ?_⟩
        have fr := r1.fresh hd
        have hd2 : ∀ b o, H1 b = some o → upd H1 d (.xd fs) b = some o := fun b o q => by
          rw [upd_ne (ne_of_none q hd)]
          exact q
        exact h F1 A1 σ (upd H1 d (.xd fs)) C d fs v e1 (Kp.of hb p1) (r1.grow hd2) (e.mono e1 p1) E.mgC upd_same hl rv
end
end DL

end
section
set_option Elab.async false
set_option linter.all false
set_option maxRecDepth 100000
set_option maxHeartbeats 1000000
namespace DL
open PySem PySem.Spec PyProof.Rows L2

/-! ### defs -/
inductive FOut where
  | rt (d : D) (S : Sto)
  | exc (c : Str) (p : D) (S : Sto)
  | no
abbrev Mir := List RV → Sto → FOut
def envOf (n : Nat) (rs : List RV) : Env := rs.map some ++ List.replicate (n - rs.length) none
/-- what a def makes of its arguments; n: its names -/
def mk (np n : Nat) (body : SDen) : Mir := fun rs S => if rs.length = np then (match body S.length (envOf n rs) S with
  | .rt d S' => .rt d (S'.take S.length)
  | .nx _ S' => .rt .none (S'.take S.length)
  | .exc c p _ S' => .exc c p (S'.take S.length)
  | _ => .no) else .no
def spM (g : G) (np : Nat) (m : Mir) : Sp := fun vs H Q E => ∃ P F A S rs, SRel g P F A S H ∧ RRs g.K F A rs vs ∧ rs.length = np ∧ match m rs S with
  | .rt d S' => ∀ F' H' v, Ext F F' → SRel g P F' A S' H' → DR g.K F' v d → Q v H'
  | .exc c p S' => ∀ F' H' C dx fs pv, Ext F F' → SRel g P F' A S' H' → g.mg c = some (.ref C) → H' dx = some (.xd fs) → fs.lookup ("place" : Str) = some pv → DR g.K F' pv p → E (.ref C) (some dx) H'
  | .no => False
theorem RRs.get {K : PySem.W.Frag} {F : Hp} {A : List Addr} : ∀ {rs : List RV} {vs : List V} {i : Nat} {r : RV}, RRs K F A rs vs → rs[i]? = some r → ∃ v, vs[i]? = some v ∧ RR K F A r v
  | [], _, _, _, _, e => by simp at e
  | _ :: _, [], _, _, h, _ => h.elim
  | x :: rs, v :: vs, 0, r, h, e => by
    have e' := Option.some.inj (show some x = some r from e)
    subst e'
    exact ⟨v, rfl, h.1⟩
  | x :: rs, v :: vs, i + 1, r, h, e => RRs.get (i := i) h.2 (show rs[i]? = some r from e)
theorem eRel_start {g : G} {F : Hp} {A : List Addr} {N : List Str} {rs : List RV} {vs : List V} (h : RRs g.K F A rs vs) : ERel g F A (envOf N.length rs) (L2.start N vs) := by
  have hl := h.length
  refine ⟨by simp [envOf, L2.start, hl], fun i r e => ?_⟩
  unfold envOf at e
  unfold L2.start
  by_cases hi : i < rs.length
  · rw [List.getElem?_append_left (by simpa using hi)] at e
    rw [List.getElem?_append_left (by rw [List.length_map, hl]; exact hi)]
    rw [List.getElem?_map] at e ⊢
    cases q : rs[i]? with
    | none =>
      rw [q] at e
      cases e
    | some r' =>
      rw [q] at e
      have e' := Option.some.inj (Option.some.inj (show some (some r') = some (some r) from e))
      subst e'
      obtain ⟨v, hv, hr⟩ := h.get q
      exact ⟨v, by rw [hv]; rfl, hr⟩
  · rw [List.getElem?_append_right (by simpa using hi)] at e
    have z := List.mem_of_getElem? e
    rw [List.mem_replicate] at z
    cases z.2
section
variable {P : Program} {w : World} {K : PySem.W.Frag} {mg : Str → Option Value} {base : Heap} {T : List (Addr × Str)}
theorem take_eq {A A' : List Addr} {b : Nat} (h : Kp b A A') (e : b = A.length) : A'.take b = A := by
  rw [h.1, e, List.take_length]
theorem mk_reads {g : G} {N : List Str} {np n : Nat} {body : SDen} {vs : List V} {H : Hp} {Q : VK} {E : XK} (hn : N.length = n) (h : spM g np (mk np n body) vs H Q E) : tS g (fun cls d _ H => E cls d H) body { nx := fun _ H' => Q .non H', rt := Q } (L2.start N vs) H := by
  obtain ⟨P0, F0, A0, S0, rs, sr, rr, hl, h⟩ := h
  refine ⟨S0.length, P0, F0, A0, envOf n rs, S0, sr, by rw [← hn]; exact eRel_start rr, by rw [sr.len]; exact Nat.le_refl _, ?_⟩
  unfold mk at h
  rw [if_pos hl] at h
  have eb : S0.length = A0.length := sr.len.symm
  cases hb : body S0.length (envOf n rs) S0 with
  | nx ρ' S' =>
    rw [hb] at h
    intro F1 A1 σ1 H1 e1 k1 r1 er1
    have r2 := r1.drop S0.length
    rw [take_eq k1 eb] at r2
    exact h F1 H1 .non e1 r2 .non
  | rt d S' =>
    rw [hb] at h
    intro F1 A1 H1 v e1 k1 r1 hd
    have r2 := r1.drop S0.length
    rw [take_eq k1 eb] at r2
    exact h F1 H1 v e1 r2 hd
  | bk ρ' S' =>
    rw [hb] at h
    exact h.elim
  | ct ρ' S' =>
    rw [hb] at h
    exact h.elim
  | exc c p ρ' S' =>
    rw [hb] at h
    intro F1 A1 σ1 H1 C dx fs pv e1 k1 r1 er1 hm hx hf hd
    have r2 := r1.drop S0.length
    rw [take_eq k1 eb] at r2
    exact h F1 H1 C dx fs pv e1 r2 hm hx hf hd
  | no =>
    rw [hb] at h
    exact h.elim

/-- a def by its body -/
theorem fn_mk {x qual : Str} {st : Stmt} {f : Addr} {fd : FuncData} {N ps : List Str} {k n : Nat} {body : SDen} (F : Fun K x qual st f fd) (S : FnScope N ps (defScope st)) (hn : N.length = n)
    (hbody : ∀ (cdv : Value) (A : Around) (outer : List PySem.Env) (s : Shared) (H : Hp) (E : XK), Room k (A.deeper (envOfC qual (defScope st) s.heap.objs.size f cdv)) →
      PSs (cxOf (L2.CX P w) P w K mg base N qual (defScope st) f cdv A outer s H E) (defBody st) (tS ⟨K, mg, T⟩ (fun cls d _ H => E cls d H) body)) : FnOk P w K mg base (L2.CX P w) (k + 1) f fd ps (spM ⟨K, mg, T⟩ ps.length (mk ps.length n body)) := by
  refine F.okX S (fun vs H Q E h => ?_) (fun cdv A outer s H vs Q E hr h => ⟨_, hbody cdv A outer s H E hr, ?_⟩)
  · obtain ⟨_, _, _, _, rs, _, hr, hl, _⟩ := h
    rw [hr.length, hl]
  · exact mk_reads hn h
/-- nothing is promised: for a def that calls itself too often -/
theorem fn_no {f : Addr} {fd : FuncData} {ps : List Str} {k np : Nat} {CX : CXT} : FnOk P w K mg base CX k f fd ps (spM ⟨K, mg, T⟩ np fun _ _ => .no) :=
  ⟨fun vs H Q E h => let ⟨_, _, _, _, _, _, _, _, z⟩ := h; z.elim, fun A outer s H args us vs Q E _ _ _ _ h => let ⟨_, _, _, _, _, _, _, _, z⟩ := h; z.elim⟩
end
/-- f(e, ..) -/
def eCall (m : Mir) (fs : DenA) : Den := aB fs fun rs _ S => match m rs S with
  | .rt d S' => .ok (.d d) S'
  | .exc c p S' => .exc c p S'
  | .no => .no
/-- all that a call of a def asks -/
def DefK (P : Program) (w : World) (K : PySem.W.Frag) (mg : Str → Option Value) (base : Heap) (T : List (Addr × Str)) (x : Str) (k np : Nat) (m : Mir) : Prop :=
  ∃ (f : Addr) (fd : FuncData) (ps : List Str), ps.length = np ∧ FnOk P w K mg base (L2.CX P w) k f fd ps (spM ⟨K, mg, T⟩ np m) ∧ mg x = some (.ref f) ∧ PySem.W.keepIn K (.ref f) = true ∧ Binds K fd ps []
section
variable {X : Cx} {T : List (Addr × Str)} {W : WX}
theorem spM_of {g : G} {P F H : Hp} {A : List Addr} {S : Sto} {σ : LSt} {rs : List RV} {vs : List V} {np : Nat} {m : Mir} {Q : VK} {ρ : Env} (sr : SRel g P F A S H) (rr : RRs g.K F A rs vs) (hm : ∀ rs S, m rs S ≠ .no → rs.length = np) (h : DOk g W P F A σ (match m rs S with
  | .rt d S' => .ok (.d d) S'
  | .exc c p S' => .exc c p S'
  | .no => .no) Q) : spM g np m vs H Q (WE W σ) := by
  refine ⟨P, F, A, S, rs, sr, rr, ?_, ?_⟩
  · refine hm rs S fun z => ?_
    rw [z] at h
    exact h
  · cases q : m rs S with
    | rt d S' =>
      rw [q] at h
      exact fun F' H' v e1 r1 hd => h F' A H' v e1 (List.prefix_refl _) r1 hd
    | exc c p S' =>
      rw [q] at h
      exact fun F' H' C dx fs pv e1 r1 hc hx hf hd => h F' A H' C dx fs pv e1 (List.prefix_refl _) r1 hc hx hf hd
    | no =>
      rw [q] at h
      exact h.elim
theorem de_call {x : Str} {e : Expr} {es : List Expr} {fs : DenA} {k np : Nat} {m : Mir} {p pos : Pos} (D : DefK X.prog X.w X.K X.mg X.base T x k np m) (hm : ∀ rs S, m rs S ≠ .no → rs.length = np) (hr : Room k X.A) (tk : Takes X W) (hg : Gl X x) (ha : PA X (e :: es) (tA (gX X T) W fs))
    (hdb : (x == ("__debug__" : Str)) = false := by decide) (he : starEach (e :: es) X.env = (false, eval e X.env) :: starEach es X.env := by rfl) (hpl : (backTo pos (starEach es X.env)).any (·.1) = false := by rfl) : PE X (.Call (.Name x p) (e :: es) [] pos) (tD (gX X T) W (eCall m fs)) := by
  obtain ⟨f, fd, ps, hps, F, hmg, hk, hb⟩ := D
  refine (pe_callS F hr hg hmg hk hb (fun σ => passAt tk σ) ha hdb he hpl).le fun σ H Q ⟨P, F, A, ρ, S, sr, er, h⟩ => ?_
  exact tA_bD sr er h fun xs S1 F1 A1 H1 vs e1 p1 sr1 er1 rr h1 => spM_of (ρ := ρ) sr1 rr hm h1
theorem mk_np {np n : Nat} {body : SDen} : ∀ rs S, mk np n body rs S ≠ .no → rs.length = np := fun rs S h => by
  by_cases e : rs.length = np
  · exact e
  · exact absurd (if_neg e) h
end
end DL

end
section
set_option Elab.async false
set_option linter.all false
set_option maxRecDepth 100000
set_option maxHeartbeats 1000000
namespace DL
open PySem PySem.Spec PyProof.Rows L2 LamX

/-! ### try: .. except C as e: .., many clauses, each handing back -/
abbrev Clz := List (Value × (Addr → Value → Option Addr → TS))
/-- what the clauses want of an exception of the body; slot i is e's -/
def wAsM (K : PySem.W.Frag) (i : Nat) (D : Ends) : Clz → WX
  | [] => fun _ _ _ _ => False
  | (c, ts) :: r => fun cls d σ H => ∃ b, PySem.W.exmOne K cls c = some b ∧ (b = true → ∀ a σ2, H a = none → σ2[i]? = some (some (V.ref a)) → ts a cls d { nx := fun _ _ => False, rt := D.rt } σ2 H) ∧ (b = false → wAsM K i D r cls d σ H)
inductive AsOk (X : Cx) (n : Str) : List ExceptHandler → Clz → Prop
  | nil : AsOk X n [] []
  | cons {x : Str} {c : Value} {ts : Addr → Value → Option Addr → TS} {st : Stmt} {np hp : Pos} {hds : List ExceptHandler} {l : Clz} (hc : Names X x c)
      (hsu : ∀ (a : Addr) (oe : Obj) (cls : Value) (d : Option Addr) (pn : List (Addr × Obj)), Zc cls d oe → (∃ vs, oe.data = .fields vs) → PSs (X.suite a ((a, oe) :: pn)) [st] (ts a cls d)) (r : AsOk X n hds l) :
      AsOk X n (.ExceptHandler (some (.Name x np)) (some n) [st] hp :: hds) ((c, ts) :: l)
section
variable {X : Cx} {n : Str} {i : Nat} {body : List Stmt} {hd0 : ExceptHandler} {hds : List ExceptHandler} {l : Clz} {pos : Pos} {tb : WX → TS}
theorem ps_try_asM (hs : X.stack = X.env :: X.outer) (hf : X.env.frame = some X.env.locals) (hN : X.N.Nodup) (hi : X.N[i]? = some n) (hln : X.env.kindOf n = some .local)
    (hb : ∀ (W : WX) (pn : List (Addr × Obj)) (xe : Value → Shared → Prop), Takes (X.tr pn xe) W → PassesOwn (model X.prog X.w) X.A X.env xe → PSs (X.tr pn xe) body (tb W))
    (hh : AsOk X n (hd0 :: hds) l) : PS X (.Try body (hd0 :: hds) [] [] pos) (fun D σ H => tb (wAsM X.K i D l) D σ H) := by
  refine ⟨fun pins s σ H D I h => wpAny_Try_except (wpAny_mono ((hb (wAsM X.K i D l) (X.pn ++ pins) (fun e s1 => wpAny (model X.prog X.w) X.A (noteFrame e X.env) (fun _ s2 => wpAny (model X.prog X.w) X.A (setFlight e none) (fun _ s3 =>
    wpAny (model X.prog X.w) X.A (handleBy e X.env (hd0 :: hds)) (SP X pins D) X.xe s3) X.xe s2) X.xe s1) (fun u s' xx => ?_) PassesOwn.looking).run [] s σ H D (I.toTry _) h) (fun f s1 hsp => ?_) (fun e s1 he => he))⟩
  · have ok := I.ok
    have hfr : X.A.frames = some (X.env :: X.outer) := by rw [ok.frames, hs]
    have hloc : Loc X.env.scope n := .inl hln
    obtain ⟨a, B, sI, pins', σ', H', cls, d, rfl, J', nb, up, sky, na, os, ag, w⟩ := xx
    have J : Inv X pins σ' H' sI := J'.ofTry ok
    have sky2 : Sky B (X.env :: X.outer) a (Zc cls d) X.env.locals s'.heap := hs ▸ sky
    show wpAny _ _ (noteFrame (.ref a) X.env) _ _ _
    refine Sky.land Zc.steady hfr hf sky2 fun h3 fl3 up3 => ?_
    have J3 : Inv X pins σ' H' { s' with heap := h3 } := J.landed nb fl3.1 (up.trans up3) os ag
    obtain ⟨oe3, vs3, he3, hz3, hd3⟩ := fl3.there
    have nfr : a ∉ frs (X.env :: X.outer) := fun hm => by
      obtain ⟨_, o', e', hnf⟩ := fl3.2.2.1.mem hm
      rw [he3] at e'
      cases e'
      exact hnf _ hd3
    have nL : a ≠ X.env.locals := fun z => nfr (List.mem_filterMap.mpr ⟨X.env, List.mem_cons_self, hf.trans (congrArg some z.symm)⟩)
    have nF : a ∉ X.fs := fun hm => by
      obtain ⟨e, he, q⟩ := List.mem_filterMap.mp hm
      exact nfr (List.mem_filterMap.mpr ⟨e, List.mem_cons_of_mem _ he, q⟩)
    have S3 := J3.suite he3 hd3 na nL nF
    have go : ∀ {hs2 : List ExceptHandler} {l2 : Clz}, AsOk X n hs2 l2 → wAsM X.K i D l2 cls d σ' H' → wpAny (model X.prog X.w) X.A (handleBy (.ref a) X.env hs2) (SP X pins D) X.xe { s' with heap := h3 } := by
      intro hs2 l2 hk
      induction hk with
      | nil => exact fun w => w.elim
      | @cons x c ts st np hp hds2 l3 hc hsu r ih =>
        rintro ⟨b, hb1, hyes, hno⟩
        refine wpAny_handleBy_cons (codeAny_handlers_test ?_) (by intro q; cases q)
        have LT : PySem.W.Looks (model X.prog X.w) h3 (typeOf (.ref a)) cls := fun A Q E s k q => wpAny_typeOf_ref (k _ _ he3) (by rw [hz3.1]; exact q)
        have LM := PySem.W.exm_one (M := model X.prog X.w) (J3.kIn) LT hb1
        have asks : ∀ {Q : Value → Shared → Prop} {E : Value → Shared → Prop}, Q c { s' with heap := h3 } → wpAny (model X.prog X.w) (X.A.mark (some (.ref a))) (eval (.Name x np) X.env) Q E { s' with heap := h3 } := fun {Q E} q => by
          rcases hc with ⟨hg, hdbg, hm | ⟨hm, hv, hnn⟩⟩
          · exact ld_glob (X := X.suite a ((a, oe3) :: (X.pn ++ pins))) S3 hg hm q hdbg
          · exact ld_blt (X := X.suite a ((a, oe3) :: (X.pn ++ pins))) S3 hg hm hv q hnn hdbg
        refine asks (LM.here ?_)
        cases b with
        | true =>
          refine codeAny_handlers_suite_as (HandSPX.lands_againZ fl3 fun h4 fl4 up4 => ?_)
          obtain ⟨oe4, vs4, he4, hz4, hd4⟩ := fl4.there
          have J4 : Inv X pins σ' H' { s' with heap := h4 } := J.landed nb fl4.1 ((up.trans up3).trans up4) os ag
          have S4 := J4.suite he4 hd4 na nL nF
          refine store_ok (X := X.suite a ((a, oe4) :: (X.pn ++ pins))) (v := .ref a) S4 hN hi hloc rfl (fun s5 S5 => ?_) (.inr hln)
          refine wpAny_mono ((hsu a oe4 cls d (X.pn ++ pins) hz4 ⟨_, hd4⟩).run [] s5 _ H' _ S5 (hyes rfl a _ na (List.getElem?_set_self (by rw [J.len]; exact (List.getElem?_eq_some_iff.mp hi).1)))) (fun f s6 hsp => ?_) (fun _ _ z => z.elim)
          cases f with
          | next =>
            obtain ⟨_, _, _, q6⟩ := hsp
            exact q6.elim
          | brk =>
            obtain ⟨_, _, _, q6⟩ := hsp
            exact q6.elim
          | cont =>
            obtain ⟨_, _, _, q6⟩ := hsp
            exact q6.elim
          | ret u =>
            obtain ⟨v6, σ6, H6, S6, r6, q6⟩ := hsp
            exact gone_ok (S6.unsuite ok) hN hi hln fun s7 J7 => ⟨v6, _, H6, J7, r6, q6⟩
        | false =>
          show wpAny _ X.A (handleBy (.ref a) X.env hds2) _ _ _
          exact ih (hno rfl)
    exact go hh w
  · cases f with
    | next =>
      obtain ⟨σ2, H2, J2, q⟩ := hsp
      exact wpAny_execs_nil ⟨σ2, H2, J2.ofTry I.ok, q⟩
    | brk =>
      obtain ⟨σ2, H2, J2, q⟩ := hsp
      exact ⟨σ2, H2, J2.ofTry I.ok, q⟩
    | cont =>
      obtain ⟨σ2, H2, J2, q⟩ := hsp
      exact ⟨σ2, H2, J2.ofTry I.ok, q⟩
    | ret u =>
      obtain ⟨v, σ2, H2, J2, r, q⟩ := hsp
      exact ⟨v, σ2, H2, J2.ofTry I.ok, r, q⟩

/-! ### e.place in a clause, whatever class the error is of -/
def tXfD (K : PySem.W.Frag) (a : Addr) (cls : Value) (d : Option Addr) (n : Str) (te : TE) : TE := fun σ H Q => ∃ C, XfC K C ∧ PySem.W.findIn K (.ref C) n = some none ∧ tXf a cls d C n te σ H Q
theorem pe_xfD {a : Addr} {oe : Obj} {cls : Value} {d : Option Addr} {pn : List (Addr × Obj)} {e : Expr} {te : TE} {p : Pos} {f : Str} (hz : Zc cls d oe) (hf : ∃ vs, oe.data = .fields vs) (he : PE (X.suite a ((a, oe) :: pn)) e te) (hb : attributeBase e f X.env (eval e X.env) = eval e X.env) :
    PE (X.suite a ((a, oe) :: pn)) (.Attribute e f p) (tXfD X.K a cls d f te) := ⟨fun pins s σ H Q I ⟨C, T, hno, h⟩ => (pe_xf T hno hz hf he hb).run pins s σ H Q I h⟩
/-- return (tag, e.place) -/
def tAskRet (K : PySem.W.Frag) (i : Nat) (tag : Str) (a : Addr) (cls : Value) (d : Option Addr) : TS := tRet (tTupD (tCons (tC (.str tag)) (tCons (tXfD K a cls d "place" (tVar i)) tNil)))
def askL (K : PySem.W.Frag) (i : Nat) (l : List (Addr × Str)) : Clz := l.map fun p => (.ref p.1, tAskRet K i p.2)
theorem asOk_cons {x tag : Str} {C : Addr} {np hp p1 p2 p3 p4 p5 : Pos} {j k : Nat} {hds : List ExceptHandler} {l : List (Addr × Str)} (hg : Gl X x) (hdbg : (x == ("__debug__" : Str)) = false) (hm : X.mg x = some (.ref C)) (hN : X.N[i]? = some n) (hln : X.env.scope.names.lookup n = some .local) (hnd : (n == ("__debug__" : Str)) = false) (hncd : (n == ("__classdict__" : Str)) = false)
    (r : AsOk X n hds (askL X.K i l)) : AsOk X n (.ExceptHandler (some (.Name x np)) (some n) [.Return (some (.Tuple [.Constant (.str tag) j p1, .Attribute (.Name n p2) "place" p3] k p4)) p5] hp :: hds) (askL X.K i ((C, tag) :: l)) := by
  refine .cons ⟨hg, hdbg, .inl hm⟩ (fun a oe cls d pn hz hf => pss_one (ps_ret (pe_tupD (pa_cons pe_str (pa_cons (pe_xfD hz hf ?_ rfl) pa_nil))))) r
  exact pe_var hN (.inl hln) hnd hncd

/-- what the clauses make of an error -/
def askW (K : PySem.W.Frag) (Q : VK) : List (Addr × Str) → XK
  | [] => fun _ _ _ => False
  | (C, tag) :: r => fun cls d H => ∃ b, PySem.W.exmOne K cls (.ref C) = some b ∧ (b = true → ∃ C' dd fs v, XfC K C' ∧ PySem.W.findIn K (.ref C') "place" = some none ∧ cls = .ref C' ∧ d = some dd ∧ H dd = some (.xd fs) ∧ fs.lookup ("place" : Str) = some v ∧ TQ H [.str tag, v] Q) ∧ (b = false → askW K Q r cls d H)
def TTask (K : PySem.W.Frag) (l : List (Addr × Str)) : (XK → Hp → VK → Prop) → Hp → VK → Prop := fun tl H Q => tl (fun cls d H' => askW K Q l cls d H') H (fun y H2 => ([V.str "told", y] : List V).length ≤ sizeLine ∧ TQ H2 [V.str "told", y] Q)
theorem two_ok : 2 ≤ sizeLine := by
  rw [sizeLine_eq]
  exact (by decide : 2 ≤ 16777216)
theorem askW_as {K : PySem.W.Frag} {i : Nat} {D : Ends} : ∀ {l : List (Addr × Str)} {cls : Value} {d : Option Addr} {H : Hp} {σ : LSt}, askW K D.rt l cls d H → wAsM K i D (askL K i l) cls d σ H
  | [], _, _, _, _, h => h
  | (C, tag) :: r, cls, d, H, σ, ⟨b, h1, h2, h3⟩ => ⟨b, h1, fun hb a σ2 _ hσ => by
      obtain ⟨C', dd, fs, v, q1, q2, q3, q4, q5, q6, q7⟩ := h2 hb
      exact ⟨C', q1, q2, .ref a, hσ, rfl, q3, dd, fs, v, q4, q5, q6, two_ok, q7⟩, fun hb => askW_as (h3 hb)⟩
theorem ask_gives {Ng : List Str} {x a e q : Str} {sg : Scope} {g : Addr} {cdg : Value} {i : Nat} {l : List (Addr × Str)} {hd0 : ExceptHandler} {hds : List ExceptHandler} {j k : Nat} {p1 p2 p3 p4 p5 p6 : Pos} (h0 : ∀ f : Addr, (L2.start Ng [V.ref f])[0]? = some (some (V.ref f))) (hN : Ng.Nodup) (hi : Ng[i]? = some e) (hln : sg.names.lookup e = some .local)
    (hh : ∀ Y : Cx, Y.K = X.K → Y.mg = X.mg → Y.N = Ng → Y.env.scope = sg → AsOk Y e (hd0 :: hds) (askL X.K i l)) :
    GivesTo X Ng x sg g cdg [.Try [.Return (some (.Tuple [.Constant (.str "told") j p1, .Call (.Name a p2) [] [] p3] k p4)) p5] (hd0 :: hds) [] [] p6] a q (TTask X.K l) := by
  intro f c' s H Q tl act hc h
  refine ⟨_, pss_one (ps_try_asM (X := (cxOf C8.CX0 X.prog X.w X.K X.mg X.base Ng x sg g cdg X.A X.stack s H C8.E0).nox) (i := i) (n := e)
      (tb := fun W D σ H => ∃ Ech : XK, (∀ cls d σ' H', Ech cls d H' → W cls d σ' H') ∧ σ[0]? = some (some (.ref f)) ∧ H c' = some (CodeO c' q) ∧ tl Ech H (fun y H2 => ([V.str "told", y] : List V).length ≤ sizeLine ∧ TQ H2 [V.str "told", y] D.rt))
      rfl rfl hN hi hln (fun W pn xe tk _ => ?_) (hh _ rfl rfl rfl rfl)), ?_⟩
  · refine ⟨fun pins s' σ H' D I h' => ?_⟩
    obtain ⟨Ech, hW, h1, h2, h3⟩ := h'
    have hp := act W pn xe Ech p2 p3 tk hW
    exact (pss_one (ps_ret (pos := p5) (pe_tupD (pa_cons pe_str (pa_cons hp pa_nil))))).run pins s' σ H' D I ⟨h1, h2, h3⟩
  · exact ⟨fun cls d H' => askW X.K Q l cls d H', fun cls d σ' H' w => askW_as w, h0 f, hc, h⟩

/-- the clause at which an error of the class at C stops -/
def askHit (K : PySem.W.Frag) (C : Addr) (tag : Str) : List (Addr × Str) → Prop
  | [] => False
  | (C0, t) :: r => (PySem.W.exmOne K (.ref C) (.ref C0) = some true ∧ t = tag) ∨ (PySem.W.exmOne K (.ref C) (.ref C0) = some false ∧ askHit K C tag r)
theorem askW_hit {K : PySem.W.Frag} {Q : VK} {C dx : Addr} {tag : Str} {fs : List (Str × V)} {v : V} {H : Hp} (T : XfC K C) (hno : PySem.W.findIn K (.ref C) "place" = some none) (hd : H dx = some (.xd fs)) (hl : fs.lookup ("place" : Str) = some v) (q : TQ H [.str tag, v] Q) :
    ∀ {l : List (Addr × Str)}, askHit K C tag l → askW K Q l (.ref C) (some dx) H
  | [], h => h
  | (C0, t) :: r, h => by
    rcases h with ⟨h1, rfl⟩ | ⟨h1, h2⟩
    · exact ⟨true, h1, fun _ => ⟨C, dx, fs, v, T, hno, rfl, rfl, hd, hl, q⟩, fun z => nomatch z⟩
    · exact ⟨false, h1, fun z => (nomatch z), fun _ => askW_hit T hno hd hl q h2⟩
/-- x(a): what x makes of what a gives or raises -/
def AskDef (K : PySem.W.Frag) (mg : Str → Option Value) (x a : Str) (cl : List (Addr × Str)) : Prop :=
  ∃ (g : Addr) (pg : Arguments) (bg : List Stmt) (sg : Scope) (dV kV doc pm cdv ct oc : Value) (an od : Option Addr) (osl : Array (Option Value)) (Ng : List Str), mg x = some (.ref g) ∧ PySem.W.keepIn K (.ref g) = true ∧ K.lookup g = some ⟨oc, od, .func (PySem.W.fnOf x x pg bg sg dV kV doc pm an cdv ct), osl⟩ ∧ PySem.W.codeIn K cdv x = true ∧
    L2.Binds K (PySem.W.fnOf x x pg bg sg dV kV doc pm an cdv ct) [a] [] ∧ FnScope Ng [a] sg ∧ Ng[0]? = some a ∧ Vis sg a ∧ ∀ X : Cx, X.K = K → X.mg = mg → ∀ q : Str, GivesTo X Ng x sg g cdv bg a q (TTask K cl)
def eAsk (pick : Str → Option Str) (f : Den) : Den := fun ρ S => match f ρ S with
  | .ok (.d d) S' => .ok (.d (.tuple [.str "told", d])) S'
  | .exc c p S' => (match pick c with
    | some tag => .ok (.d (.tuple [.str tag, p])) S'
    | none => .no)
  | _ => .no
theorem SRel.extN {g : G} {P F H H' : Hp} {A : List Addr} {S : Sto} (r : SRel g P F A S H) (e : ExtN H H') (t : Tabs g.T H') : SRel g P F A S H' := by
  have np : ∀ {o : HO}, Plain o → ∀ ps, o ≠ .tbl ps := fun {o} h ps z => by
    subst z
    exact h
  exact ⟨fun a o q => e a o (r.sub a o q) (np (r.pl a o q)), r.pl, r.len, r.nd, fun j a c h1 h2 => let ⟨f, o, h3, h4⟩ := r.cell j a c h1 h2; ⟨f, o, e a o h3 (np h4.plain), h4⟩, t, fun a o q => let ⟨h1, h2, h3, h4⟩ := r.pin a o q; ⟨e a o h1 (np h4), h2, h3, h4⟩⟩
theorem de_asked {T : List (Addr × Str)} {W : WX} {x a : Str} {cl : List (Addr × Str)} {c P : Addr} {k : Nat} {params : Arguments} {lb : Expr} {scope : Scope} {f : Den} {pick : Str → Option Str} {p lpos pos : Pos} (AD : AskDef X.K X.mg x a cl) (hg : Gl X x)
    (hpk : ∀ c tag C, pick c = some tag → X.mg c = some (.ref C) → askHit X.K C tag cl ∧ XfC X.K C ∧ PySem.W.findIn X.K (.ref C) "place" = some none) (TB : TabB X.base X.mg c P) (hcode : X.env.code = .ref c) (hmT : (P, X.env.qual ++ "<lambda>") ∈ T) (hu : ∀ p ∈ T, p.1 = P → p.2 = X.env.qual ++ "<lambda>")
    (hr : Room (k + 2) X.A) (L : LamS X.env.scope scope) (hdef : defaultsOf params X.env = ([], [])) (hbind : ∀ (q : Str) (cl : List (Str × Addr)) (pm cv ctv : Value), bindArgs (PySem.W.kla_fn "<lambda>" q params lb scope cl pm cv ctv) ⟨[], []⟩ = pure [])
    (hbody : ∀ (A : Around) (outer : List PySem.Env) (s : Shared) (H : Hp) (E : XK) (f' c' : Addr), Room k (A.deeper (lamEnv X scope s.heap.objs.size f' c')) → Takes (lamCx X A outer s H E scope f' c') (fun cls d _ H => E cls d H) → PE (lamCx X A outer s H E scope f' c') lb (tD (gX X T) (fun cls d _ H => E cls d H) f))
    (hdb : (x == ("__debug__" : Str)) = false := by decide) (hd : (a == ("__debug__" : Str)) = false := by decide) (hcd : (a == ("__classdict__" : Str)) = false := by decide) : PE X (.Call (.Name x p) [.Lambda params lb scope lpos] [] pos) (tD (gX X T) W (eAsk pick f)) := by
  obtain ⟨g, pg, bg, sg, dV, kV, doc, pm, cdv, ct, oc, an, od, osl, Ng, hm, hk, lk, hcg, hb, Sg, hNg, hva, hG⟩ := AD
  refine (pe_lamcall hg hm hk lk hcg hb Sg hNg hva (hG X rfl rfl _) TB hcode hmT hu hr L hdef hbind (fun A outer s H E f' c' hr' => hbody A outer s H E f' c' hr' (takes_of rfl rfl rfl rfl)) hdb hd hcd).le fun σ H Q ⟨P0, F, A, ρ, S, sr, er, h⟩ => ⟨sr.tabs, fun H1 eN T1 => ?_⟩
  refine ⟨P0, F, A, ρ, S, sr.extN eN T1, er, ?_⟩
  unfold eAsk at h
  cases hf : f ρ S with
  | no =>
    rw [hf] at h
    exact h.elim
  | ok r S1 =>
    rw [hf] at h
    cases r with
    | m j => exact h.elim
    | s ns => exact h.elim
    | d d =>
      intro F1 A1 H2 v e1 p1 r1 rv
      exact ⟨two_ok, finT r1 (fun F' H' v e' r' d' => h F' A1 H' v (e1.trans e') p1 r' d') (.cons (.str "told") (.cons rv .nil))⟩
  | exc c q S1 =>
    rw [hf] at h
    intro F1 A1 H2 C dx fs pv e1 p1 r1 hmc hx hl hd
    simp only at h
    cases hp : pick c with
    | none =>
      rw [hp] at h
      exact h.elim
    | some tag =>
      rw [hp] at h
      obtain ⟨q1, q2, q3⟩ := hpk c tag C hp hmc
      exact askW_hit q2 q3 hx hl (finT r1 (fun F' H' v e' r' d' => h F' A1 H' v (e1.trans e') p1 r' d') (.cons (.str tag) (.cons hd .nil))) q1
end
end DL

end
section
set_option Elab.async false
set_option linter.all false
set_option maxRecDepth 100000
set_option maxHeartbeats 1000000
namespace DL
open PySem PySem.Spec PyProof.Rows L2 LamX

section
variable {X : Cx} {T : List (Addr × Str)} {W : WX}
/-- tuple(reversed(x)) -/
def dTupRev : D → Option D
  | .list ds => some (.tuple ds.reverse)
  | .tuple ds => some (.tuple ds.reverse)
  | _ => none
theorem de_tupRev {e : Expr} {f : Den} {p p2 pos pos2 : Pos} (hc : X.calm = true) (hg : Gl X "tuple") (hm : X.mg "tuple" = none) (hg2 : Gl X "reversed") (hm2 : X.mg "reversed" = none) (he : PE X e (tD (gX X T) W f)) (hs : starEach [e] X.env = (false, eval e X.env) :: starEach [] X.env := by rfl)
    (hs2 : starEach [.Call (.Name "reversed" p2) [e] [] pos2] X.env = (false, eval (.Call (.Name "reversed" p2) [e] [] pos2) X.env) :: starEach [] X.env := by rfl) : PE X (.Call (.Name "tuple" p) [.Call (.Name "reversed" p2) [e] [] pos2] [] pos) (tD (gX X T) W (eUn dTupRev f)) :=
  (pe_tupRevD hc hg hm hg2 hm2 he hs hs2).le fun σ H Q ⟨P, F, A, ρ, S, sr, er, h⟩ => by
    refine tD_bD sr er h fun x S1 F1 A1 H1 v e1 p1 sr1 er1 rx h1 => ?_
    obtain ⟨a, c, ha, hc, h3⟩ := eUn_ok (P := fun o => DOk _ W P F1 A1 σ o Q) (fun z => z) h1
    have hr := sr1.read rx ha
    have k : ∀ F' H' v, Ext F1 F' → SRel (gX X T) P F' A1 S1 H' → DR X.K F' v c → Q v H' := fun F' H' v e' r' d' => h3 F' A1 H' v e' (List.prefix_refl _) r' d'
    unfold dTupRev at hc
    split at hc
    · cases hc
      obtain ⟨p, vs, rfl, h4, h5⟩ := rd_lst hr
      exact ⟨p, vs, rfl, .inl (SqL.of h4), finT sr1 k h5.reverse⟩
    · cases hc
      obtain ⟨p, vs, rfl, h4, h5⟩ := rd_tup sr1.sub hr
      exact ⟨p, vs, rfl, .inr h4, finT sr1 k h5.reverse⟩
    · cases hc

/-! ### a, b, .. = x, y, ..: by a tuple that is made, its parts of any kind -/
def setsV : List Nat → List RV → Env → Env
  | j :: js, r :: rs, ρ => setsV js rs (ρ.set j (some r))
  | _, _, ρ => ρ
def sParT (js : List Nat) (fs : DenA) : SDen := fun b ρ S => match fs ρ S with
  | .ok rs S' => if rs.length = js.length then .nx (setsV js rs ρ) S' else .no
  | .exc c p S' => .exc c p ρ S'
  | .no => .no
theorem setsV_ok {g : G} {F : Hp} {A : List Addr} {H : Hp} {R : LSt → Hp → Prop} : ∀ {js : List Nat} {rs : List RV} {vs : List V} {ρ : Env} {σ : LSt}, RRs g.K F A rs vs → rs.length = js.length → ERel g F A ρ σ → (∀ σ', ERel g F A (setsV js rs ρ) σ' → R σ' H) → gPs g.K (js.map .nm) vs σ H R
  | [], [], [], ρ, σ, _, _, e, k => by
    unfold gPs
    exact ⟨rfl, k σ e⟩
  | j :: js, r :: rs, v :: vs, ρ, σ, h, hl, e, k => by
    show gPs g.K (.nm j :: js.map .nm) (v :: vs) σ H R
    unfold gPs gP
    exact ⟨v, vs, rfl, setsV_ok h.2 (Nat.succ.inj hl) (e.set h.1) k⟩
  | [], r :: rs, _, _, _, _, hl, _, _ => by cases hl
  | j :: js, [], _, _, _, _, hl, _, _ => by cases hl
  | _, [], _ :: _, _, _, h, _, _, _ => h.elim
  | _, _ :: _, [], _, _, h, _, _, _ => h.elim
theorem ds_parT {es ts : List Expr} {fs : DenA} {js : List Nat} {k k2 : Nat} {tpos vpos pos : Pos} (hc : X.calm = true) (ha : PA X es (tA (gX X T) W fs)) (h : PGs X ts (gPs X.K (js.map .nm))) (hl : js.length = (assignEach ts X.env).length := by rfl) (hst : (assignEach ts X.env).findIdx? (·.1) = none := by rfl)
    (hs : swapsWithSole [.Tuple ts k tpos] (.Tuple es k2 vpos) pos.line X.env = pure false := by rfl) (hw : swappedStores [.Tuple ts k tpos] (.Tuple es k2 vpos) X.env = pure none := by rfl) (h1 : (assignEach [.Tuple ts k tpos] X.env).map (·.2) = [assign (.Tuple ts k tpos) X.env] := by rfl)
    (hz : js.length ≤ sizeLine) : PS X (.Assign [.Tuple ts k tpos] (.Tuple es k2 vpos) pos) (tS (gX X T) W (sParT js fs)) :=
  (ps_asg (pe_tupD ha) (pg_tup hc h rfl hst) hs hw h1).le fun D σ H ⟨b, P, F, A, ρ, S, r, e, hb, h⟩ => by
    unfold sParT at h
    refine tA_bS r e hb (fun c p S' he => by rw [he] at h; exact h) (fun he => by rw [he] at h; exact h) fun xs S1 he F1 A1 H1 vs e1 p1 r1 er1 rr => ?_
    rw [he] at h
    simp only at h
    by_cases hq : xs.length = js.length
    · rw [if_pos hq] at h
      refine ⟨by rw [rr.length, hq]; exact hz, fun p o hp ho => ⟨p, vs, rfl, .inl (.inr ⟨o, upd_same⟩), by rw [rr.length, hq, hl], ?_⟩⟩
      refine setsV_ok (g := gX X T) rr hq er1 fun σ' er' => h F1 A1 σ' _ e1 (Kp.of hb p1) (r1.grow (Ext.new hp)) er'
    · rw [if_neg hq] at h
      exact h.elim
end

/-! ### a def whose lambdas ask for its code -/
section
variable {P : Program} {w : World} {K : PySem.W.Frag} {mg : Str → Option Value} {base : Heap} {T : List (Addr × Str)}
theorem fn_mkC {x qual : Str} {st : Stmt} {f : Addr} {N ps : List Str} {k n : Nat} {body : SDen} {oc : Value} {od an : Option Addr} {osl : Array (Option Value)} {kV doc pm cdv ct : Value} (lk : K.lookup f = some ⟨oc, od, .func (PySem.W.fnOf x qual (defArgs st) (defBody st) (defScope st) .none kV doc pm an cdv ct), osl⟩)
    (hcd : PySem.W.codeIn K cdv qual = true) (S : FnScope N ps (defScope st)) (hn : N.length = n)
    (hbody : ∀ (A : Around) (outer : List PySem.Env) (s : Shared) (H : Hp) (E : XK), Room k (A.deeper (envOfC qual (defScope st) s.heap.objs.size f cdv)) →
      PSs (cxOf (L2.CX P w) P w K mg base N qual (defScope st) f cdv A outer s H E) (defBody st) (tS ⟨K, mg, T⟩ (fun cls d _ H => E cls d H) body)) : FnOk P w K mg base (L2.CX P w) (k + 1) f (PySem.W.fnOf x qual (defArgs st) (defBody st) (defScope st) .none kV doc pm an cdv ct) ps (spM ⟨K, mg, T⟩ ps.length (mk ps.length n body)) := by
  refine fn_of lk hcd S (fun vs H Q E h => ?_) (fun A outer s H vs Q E hr h => ⟨_, hbody A outer s H E hr, ?_⟩)
  · obtain ⟨_, _, _, _, rs, _, hr, hl, _⟩ := h
    rw [hr.length, hl]
  · exact mk_reads hn h

/-! ### the law's end -/
end
theorem law_sp {g : G} {m : Mir} {a : Addr} {ns : List Int} {H : Hp} (hT : ∀ p ∈ g.T, H p.1 = some (.tbl #[])) (hS : SqL g.K H a (ns.map V.int)) (hm : ∃ S', m [.s ns] [] = .rt (.bool true) S') : spM g 1 m [.ref a] H (fun v _ => v = .bl true) (fun _ _ _ => False) := by
  have key : ∃ F : Hp, Ext F H ∧ (∀ b o, F b = some o → Plain o) ∧ SqL g.K F a (ns.map V.int) := by
    rcases hS with (hS | ⟨o, hS⟩) | hS
    · refine ⟨fun b => if b = a then H a else none, fun b o e => ?_, fun b o e => ?_, .inl (.inl ?_)⟩
      · have e : (if b = a then H a else none) = some o := e
        by_cases hb : b = a
        · rw [if_pos hb] at e
          rw [hb]
          exact e
        · rw [if_neg hb] at e
          cases e
      · have e : (if b = a then H a else none) = some o := e
        by_cases hb : b = a
        · rw [if_pos hb, hS] at e
          cases e
          exact trivial
        · rw [if_neg hb] at e
          cases e
      · exact (if_pos rfl).trans hS
    · refine ⟨fun b => if b = a then H a else none, fun b o e => ?_, fun b o e => ?_, .inl (.inr ⟨o, (if_pos rfl).trans hS⟩)⟩
      · have e : (if b = a then H a else none) = some o := e
        by_cases hb : b = a
        · rw [if_pos hb] at e
          rw [hb]
          exact e
        · rw [if_neg hb] at e
          cases e
      · have e : (if b = a then H a else none) = some o := e
        by_cases hb : b = a
        · rw [if_pos hb, hS] at e
          cases e
          exact trivial
        · rw [if_neg hb] at e
          cases e
    · exact ⟨fun _ => none, (fun _ _ e => nomatch e), (fun _ _ e => nomatch e), .inr hS⟩
  obtain ⟨F, f1, f2, f3⟩ := key
  obtain ⟨S', hm⟩ := hm
  refine ⟨fun _ => none, F, [], [], [.s ns], ⟨f1, f2, rfl, .nil, fun j a c e _ => by simp at e, fun p hp => TabS.nil (hT p hp), fun b o e => nomatch e⟩, ⟨⟨a, rfl, f3⟩, trivial⟩, rfl, ?_⟩
  rw [hm]
  intro F' H' v _ _ hd
  cases hd
  rfl
theorem lawAt {l : PySem.W.OpenLaw} {w : World} {K : PySem.W.Frag} {k : Nat} {mg : Str → Option Value} {fa : Addr} {h : Heap} {m : Mir} {fd : FuncData} {cs : List (Addr × Addr)} {T : List (Addr × Str)} (hT : ∀ p ∈ cs, h.get? p.2 = some { cls := .none, data := .fields #[] }) (hK : ∀ p ∈ cs, K.lookup p.2 = none) (hC : ∀ p ∈ cs, PySem.W.CodeHd h p.1 p.2)
    (hb : ∀ (s : Shared) (u : Value), BindsTo s fd ⟨[u], []⟩ [("script", u)]) (hTc : ∀ p ∈ T, ∃ q ∈ cs, q.2 = p.1) (F : ∀ base : Heap, K.In base → base.Ns mainGlobals mg → (∀ p ∈ cs, TabB base mg p.1 p.2) → FnOk l.prog w K mg base (L2.CX l.prog w) k fa fd ["script"] (spM ⟨K, mg, T⟩ 1 m))
    (hm : ∀ ns : List Int, ns.length ≤ 63 → ∃ S', m [.s ns] [] = .rt (.bool true) S') : LawAtS l w K (L2.CX l.prog w) k 63 "script" mg fa h :=
  ⟨fd, cs, _, hT, hK, hC, hb, fun H a ns hl _ ht hS => law_sp (g := ⟨K, mg, T⟩) (fun p hp => by
    obtain ⟨q, hq, e⟩ := hTc p hp
    rw [← e]
    exact ht q hq) hS (hm ns hl), F⟩
theorem law_walk {l : PySem.W.OpenLaw} {k : Nat} {q : Program} {loose : List Str} {XP : (Str → Option Value) → Heap → Prop} {YP : World → Heap → Prop} {d : DefRec} {K : Params → PySem.W.Frag} (hn : l.most = some 63) (hdf : d.params.defaults = []) (hr : Room k callerA) (hY : ∀ (w : World) (h : Heap), YP w h → (K w.params).In h)
    (F : ∀ (w : World) (mg : Str → Option Value) (fa : Addr) (h : Heap), YP w h → (K w.params).In h → h.Ns mainGlobals mg → mg d.name = some (.ref fa) → LawAtS l w (K w.params) (L2.CX l.prog w) k 63 "script" mg fa h) :
    PySem.W.WalkO q loose XP YP l.row.toRowW d [] (fun f vs => PySem.call f vs) :=
  LamX.walk_ofTs (CX := fun w => L2.CX l.prog w) hn (by decide) hdf hr hY F fun w H s e s' ⟨_, _, _, _, _, _, _, _, _, _, _, _, z⟩ => z
end DL

end
section
set_option Elab.async false
set_option linter.all false
set_option maxRecDepth 100000
set_option maxHeartbeats 1000000
namespace DL
open PySem PySem.Spec PyProof.Rows L2 LamX
theorem units4 {k : Nat} {A : Around} (h : Room k A) : A.units + 64 < cLine := by
  have := h.un
  omega
theorem units5 {k : Nat} {A : Around} (h : Room k A) : A.units + 65 < cLine := by
  have := h.un
  omega
theorem de_globE {X : Cx} {T : List (Addr × Str)} {W : WX} {x : Str} {i : Int} {pos : Pos} (hg : Gl X x) (hm : ∃ t, X.mg x = some (.int i t)) (hd : (x == ("__debug__" : Str)) = false := by decide) : PE X (.Name x pos) (tD (gX X T) W (eC (.int i))) := by
  obtain ⟨t, hm⟩ := hm
  exact de_globI hg hm hd
end DL

end
section
set_option Elab.async false
set_option linter.all false
set_option maxRecDepth 100000
set_option maxHeartbeats 1000000
namespace DL
open PySem PySem.Spec PyProof.Rows L2 LamX
def rRgL : R2 := fun x y H Q => ∃ i j, x = .int i ∧ y = .int j ∧ RgOk i j ∧ ∀ q, H q = none → Q (.ref q) (upd H q (.lst (rgV i j)))
theorem opF_rgL {g : G} : OpF g rRgL (dRg2 false) := by
  intro P F A S H x y a b c Q sr ha hb hc k
  unfold dRg2 at hc
  split at hc
  · split at hc
    · rename_i i j hl
      cases hc
      rw [rd_int ha, rd_int hb]
      refine ⟨i, j, rfl, rfl, rgOk_of hl, fun q hq => ?_⟩
      exact k _ (upd H q (.lst (rgV i j))) q _ rfl (sr.grow (Ext.new hq)) upd_same (DRs.range i j) (sr.fresh hq).1 (sr.fresh hq).2.1 (sr.fresh hq).2.2
    · cases hc
  · cases hc
section
variable {X : Cx} {T : List (Addr × Str)} {W : WX}
theorem df_listRg2 {e e' : Expr} {f f' : Den} {p pos p' pos' : Pos} (hc : X.calm = true) (hg : Gl X "list") (hm : X.mg "list" = none) (hg2 : Gl X "range") (hm2 : X.mg "range" = none) (ha : PE X e (tD (gX X T) W f)) (hb : PE X e' (tD (gX X T) W f')) (na : starEach [e, e'] X.env = (false, eval e X.env) :: starEach [e'] X.env := by rfl)
    (nb : starEach [e'] X.env = (false, eval e' X.env) :: starEach [] X.env := by rfl) (hp : (backTo pos' (starEach [e'] X.env)).any (·.1) = false := by rfl)
    (na2 : starEach [.Call (.Name "range" p') [e, e'] [] pos'] X.env = (false, eval (.Call (.Name "range" p') [e, e'] [] pos') X.env) :: starEach [] X.env := by rfl) : PE X (.Call (.Name "list" p) [.Call (.Name "range" p') [e, e'] [] pos'] [] pos) (tF (gX X T) W (eOp (dRg2 false) f f')) :=
  (pe_listRg hc hg hm (prg_2 hg2 hm2 ha hb na nb hp) na2).le fun σ H Q h => tOp_F opF_rgL σ H Q h
end
end DL

end
section
set_option Elab.async false
set_option linter.all false
set_option maxRecDepth 100000
set_option maxHeartbeats 1000000
/-! a new dict's keys: sorted({k: v for ..}), len({k: v for ..}) -/
namespace DL
open PySem PySem.Spec PyProof.Rows L2
inductive KOut where
  | ok (ks : List Key) (S : Sto)
  | exc (c : Str) (p : D) (S : Sto)
  | no
abbrev DenK := Env → Sto → KOut
def kOf : D → Option Key
  | .int i => some (.inl i)
  | .str x => some (.inr x)
  | _ => none
def insK (ks : List Key) (k : Key) : List Key := if (ks.any fun x => decide (x = k)) = true then ks else ks ++ [k]
def loopK (p : Pat) (t f fv : Den) (ρw : Env) : List Key → List D → Sto → KOut
  | ks, [], S => .ok ks S
  | ks, d :: ds, S => match setP p d ρw with
    | none => .no
    | some ρ1 => match t ρ1 S with
      | .ok (.d (.bool true)) S1 => (match f ρ1 S1 with
        | .ok (.d v) S2 => (match kOf v with
          | some k => (match fv ρ1 S2 with
            | .ok (.d _) S3 => if ks.length < sizeLine then loopK p t f fv ρw (insK ks k) ds S3 else .no
            | _ => .no)
          | none => .no)
        | _ => .no)
      | .ok (.d (.bool false)) S1 => loopK p t f fv ρw ks ds S1
      | _ => .no
noncomputable def kComp (it : ItDen) (p : Pat) (t f fv : Den) (vs : List Nat) : DenK := fun ρ S => match it ρ S with
  | .ok src ds S' => (match loopK p (gd src ds t) f fv (wipeE ρ vs) [] ds S' with
    | .ok ks S2 => if srcKept src ds S2 then .ok ks S2 else .no
    | .exc _ _ _ => .no
    | .no => .no)
  | .exc c q S' => .exc c q S'
  | .no => .no
def KOk (g : G) (W : WX) (P F : Hp) (A : List Addr) (σ : LSt) : KOut → VK → Prop
  | .ok ks S', Q => ∀ F' A' H' p kvs, Ext F F' → A <+: A' → SRel g P F' A' S' H' → H' p = some (.dK kvs) → kvs.map (·.1) = ks → F' p = none → p ∉ A' → P p = none → Q (.ref p) H'
  | .exc c p S', _ => XcOk g W P F A σ c p S'
  | .no, _ => False
def tK (g : G) (W : WX) (f : DenK) : TE := fun σ H Q => ∃ P F A ρ S, SRel g P F A S H ∧ ERel g F A ρ σ ∧ KOk g W P F A σ (f ρ S) Q
theorem KOk.mono {g : G} {W : WX} {P F F' : Hp} {A A' : List Addr} {σ : LSt} {Q : VK} (e : Ext F F') (q : A <+: A') : ∀ {o : KOut}, KOk g W P F A σ o Q → KOk g W P F' A' σ o Q
  | .ok _ _, h => fun F2 A2 H2 p vs e2 p2 => h F2 A2 H2 p vs (e.trans e2) (q.trans p2)
  | .exc _ _ _, h => XcOk.mono e q h
  | .no, h => h
theorem putK_keys (kvs : List (Key × V)) (k : Key) (z : V) : (putK kvs k z).map (·.1) = insK (kvs.map (·.1)) k := by
  unfold putK insK
  have e : (kvs.map (·.1)).any (fun x => decide (x = k)) = kvs.any fun kv => decide (kv.1 = k) := by
    rw [List.any_map]
    rfl
  rw [e]
  by_cases hb : (kvs.any fun kv => decide (kv.1 = k)) = true
  · rw [if_pos hb, if_pos hb, List.map_map]
    refine List.map_congr_left fun p _ => ?_
    simp only [Function.comp_apply]
    split <;> rfl
  · rw [if_neg hb, if_neg hb, List.map_append]
    rfl
theorem kOf_kV {K : PySem.W.Frag} {F : Hp} {v : V} {d : D} {k : Key} (h : DR K F v d) (e : kOf d = some k) : v = kV k := by
  unfold kOf at e
  split at e
  · cases h
    cases e
    rfl
  · cases h
    cases e
    rfl
  · cases e
theorem tDc_K {g : G} {W : WX} {it : ItDen} {p : Pat} {t f fv : Den} {vs : List Nat} (hv : ∀ j ∈ slotsP p, j ∈ vs) (σ : LSt) (H : Hp) (Q : VK) (h : tK g W (kComp it p t f fv vs) σ H Q) : tDc (tI g W it) (gP g.K p) (tB' g W0 t) (tD g W0 f) (tD g W0 fv) vs σ H Q := by
  obtain ⟨P, F, A, ρ, S, r, e, h⟩ := h
  refine ⟨P, F, A, ρ, S, r, e, ?_⟩
  unfold kComp at h
  cases hit : it ρ S with
  | exc c q S' =>
    rw [hit] at h
    exact h
  | no =>
    rw [hit] at h
    exact h.elim
  | ok src ds S' =>
    rw [hit] at h
    intro F1 A1 H1 J e1 p1 r1 so wk Dl hD
    · simp only at h
      obtain ⟨fD, aD, pD⟩ := r1.fresh hD
      have h := KOk.mono e1 p1 h
      refine ⟨fun i m H => m = ds.length - i ∧ i ≤ ds.length ∧ ∃ F2 A2 S2 ks kvs, Ext F1 F2 ∧ A1 <+: A2 ∧ SRel g (upd P Dl (.dK kvs)) F2 A2 S2 H ∧ kvs.map (·.1) = ks ∧
          KOk g W P F2 A2 σ (match loopK p (gd src ds t) f fv (wipeE ρ vs) ks (ds.drop i) S2 with
            | .ok ks S2 => if srcKept src ds S2 then .ok ks S2 else .no
            | .exc _ _ _ => .no
            | .no => .no) Q, ⟨ds.length, by simp, Nat.zero_le _, F1, A1, S', [], [], Ext.refl _, List.prefix_refl _, ?_, rfl, by rw [List.drop_zero]; exact h⟩, fun i m H hw => ?_⟩
      · exact (r1.grow (Ext.new hD)).pinned upd_same fD aD pD trivial
      obtain ⟨rfl, hi, F2, A2, S2, ks, kvs, e2, p2, r2, hks, h2⟩ := hw
      have hkept : srcKept src ds S2 = true := by
        refine Classical.byContradiction fun hk => ?_
        by_cases hlt : i < ds.length
        · rw [List.drop_eq_getElem_cons hlt] at h2
          unfold loopK at h2
          cases hset : setP p ds[i] (wipeE ρ vs) with
          | none =>
            rw [hset] at h2
            exact h2.elim
          | some ρ3 =>
            rw [hset] at h2
            simp only [gd_no hk] at h2
            exact h2.elim
        · rw [List.drop_of_length_le (by omega)] at h2
          unfold loopK at h2
          simp only [if_neg hk] at h2
          exact h2.elim
      obtain ⟨wgo, wstop⟩ := wk i _ F2 A2 S2 H e2 r2 (srcOk_of p2 so r1.len hkept)
      obtain ⟨hDl, fDl, aDl, _⟩ := r2.pin Dl _ upd_same
      by_cases hlt : i < ds.length
      · refine .inr ?_
        obtain ⟨go, yl⟩ := wgo ds[i] (List.getElem?_eq_getElem hlt)
        rw [List.drop_eq_getElem_cons hlt] at h2
        unfold loopK at h2
        refine ⟨go, fun H => ∃ F3 A3 S3 ks kvs, Ext F1 F3 ∧ A1 <+: A3 ∧ SRel g (upd P Dl (.dK kvs)) F3 A3 S3 H ∧ kvs.map (·.1) = ks ∧
          KOk g W P F3 A3 σ (match loopK p (gd src ds t) f fv (wipeE ρ vs) ks (ds.drop (i + 1)) S3 with
            | .ok ks S2 => if srcKept src ds S2 then .ok ks S2 else .no
            | .exc _ _ _ => .no
            | .no => .no) Q, fun H' hn => ⟨ds.length - (i + 1), by omega, rfl, hlt, hn⟩, fun x H' y => ?_⟩
        obtain ⟨F3, e3, r3, hd⟩ := yl x H' y
        have erw : ERel g F3 A2 (wipeE ρ vs) (wipe σ vs) := (e.mono ((e1.trans e2).trans e3) (p1.trans p2)).wipe vs
        cases hset : setP p ds[i] (wipeE ρ vs) with
        | none =>
          rw [hset] at h2
          exact h2.elim
        | some ρ3 =>
          rw [hset] at h2
          obtain ⟨σ3, er3, k3, w3⟩ := setP_ok (g := g) (A := A2) r3.sub hd erw hset
          refine k3 _ ⟨?_, ?_⟩
          · rw [w3 vs hv]
            have key : ∀ us : List Nat, (∀ j ∈ us, j ∈ vs) → wipe (wipe σ vs) us = wipe σ vs := fun us hu => by
              induction us with
              | nil => rfl
              | cons u us ih =>
                show (wipe (wipe σ vs) us).set u none = wipe σ vs
                rw [ih fun j hj => hu j (List.mem_cons_of_mem _ hj)]
                have hm := hu u List.mem_cons_self
                have key2 : ∀ ws : List Nat, u ∈ ws → (wipe σ ws).set u none = wipe σ ws := fun ws hw => by
                  induction ws with
                  | nil => cases hw
                  | cons w ws ih2 =>
                    show ((wipe σ ws).set w none).set u none = (wipe σ ws).set w none
                    by_cases ew : w = u
                    · subst ew
                      rw [List.set_set]
                    · have hw' : u ∈ ws := by
                        rcases List.mem_cons.mp hw with q | q
                        · exact absurd q.symm ew
                        · exact q
                      rw [List.set_comm _ _ ew, ih2 hw']
                exact key2 vs hm
            exact key vs fun j hj => hj
          · have h3 := KOk.mono e3 (List.prefix_refl _) h2
            simp only [gd_yes hkept] at h3
            refine ⟨_, F3, A2, ρ3, S2, r3, er3, ?_⟩
            cases ht : t ρ3 S2 with
            | exc c q S4 =>
              simp only [ht] at h3
              exact h3.elim
            | no =>
              simp only [ht] at h3
              exact h3.elim
            | ok tr S4 =>
              simp only [ht] at h3
              cases tr with
              | m j => exact h3.elim
              | s ns => exact h3.elim
              | d td =>
                cases td with
                | bool tb =>
                  intro F5 A5 H5 e5 p5 r5
                  cases tb with
                  | false =>
                    exact ⟨F5, A5, S4, ks, kvs, (e2.trans e3).trans e5, p2.trans p5, r5, hks, h3.mono e5 p5⟩
                  | true =>
                    refine ⟨_, F5, A5, ρ3, S4, r5, er3.mono e5 p5, ?_⟩
                    simp only at h3
                    cases hf : f ρ3 S4 with
                    | exc c q S6 =>
                      simp only [hf] at h3
                      exact h3.elim
                    | no =>
                      simp only [hf] at h3
                      exact h3.elim
                    | ok fr S6 =>
                      simp only [hf] at h3
                      cases fr with
                      | m j => exact h3.elim
                      | s ns => exact h3.elim
                      | d kv =>
                        simp only at h3
                        cases hk : kOf kv with
                        | none =>
                          simp only [hk] at h3
                          exact h3.elim
                        | some k =>
                          simp only [hk] at h3
                          intro F7 A7 H7 v e7 p7 r7 rv
                          have ev : v = kV k := kOf_kV rv hk
                          have er7 := (er3.mono e5 p5).mono e7 p7
                          refine ⟨_, F7, A7, ρ3, S6, r7, er7, ?_⟩
                          cases hfv : fv ρ3 S6 with
                          | exc c q S8 =>
                            simp only [hfv] at h3
                            exact h3.elim
                          | no =>
                            simp only [hfv] at h3
                            exact h3.elim
                          | ok vr S8 =>
                            simp only [hfv] at h3
                            cases vr with
                            | m j => exact h3.elim
                            | s ns => exact h3.elim
                            | d dv =>
                              simp only at h3
                              intro F9 A9 H9 z e9 p9 r9 rz
                              by_cases hz : ks.length < sizeLine
                              · rw [if_pos hz] at h3
                                obtain ⟨hDl9, _, _, _⟩ := r9.pin Dl _ upd_same
                                exact ⟨kvs, k, ev, hDl9, by rw [← hks, List.length_map] at hz; exact hz, F9, A9, S8, insK ks k, putK kvs k z, (((e2.trans e3).trans e5).trans e7).trans e9, ((p2.trans p5).trans p7).trans p9, r9.repin pD trivial, by rw [putK_keys, hks], ((h3.mono e5 p5).mono e7 p7).mono e9 p9⟩
                              · rw [if_neg hz] at h3
                                exact h3.elim
                | _ => exact h3.elim
      · have ei : i = ds.length := by omega
        subst ei
        rw [List.drop_length] at h2
        unfold loopK at h2
        simp only [if_pos hkept] at h2
        exact .inl ⟨wstop (Nat.le_refl _), h2 F2 A2 H Dl kvs (Ext.refl _) (List.prefix_refl _) (r2.unpin pD) hDl hks fDl aDl pD⟩
def intK : List Key → Option (List Int)
  | [] => some []
  | .inl i :: ks => (intK ks).map fun l => i :: l
  | .inr _ :: _ => none
theorem intK_map : ∀ {ks : List Key} {ns : List Int}, intK ks = some ns → ks = ns.map Sum.inl
  | [], ns, h => by
    cases h
    rfl
  | .inl i :: ks, ns, h => by
    unfold intK at h
    cases q : intK ks with
    | none => rw [q] at h; cases h
    | some l =>
      rw [q] at h
      cases h
      rw [intK_map q]
      rfl
  | .inr _ :: _, _, h => by cases h
/-- sorted({..}), ints, fewer than 64 -/
def eSrtK (f : DenK) : Den := fun ρ S => match f ρ S with
  | .ok ks S' => (match intK ks with
    | some ns => if ns.length < 64 then .ok (.d (.list ((sortI ns).map .int))) S' else .no
    | none => .no)
  | .exc c p S' => .exc c p S'
  | .no => .no
def eLenK (f : DenK) : Den := fun ρ S => match f ρ S with
  | .ok ks S' => .ok (.d (.int ks.length)) S'
  | .exc c p S' => .exc c p S'
  | .no => .no
section
variable {X : Cx} {T : List (Addr × Str)} {W : WX}
theorem dk_comp {kx vx tg iter : Expr} {ifs : List Expr} {scope : Scope} {own : List (Str × Nat)} {pos : Pos} {it : ItDen} {p : Pat} {t f fv : Den} (hc : X.calm = true) (hN : X.N.Nodup) (hi : PI X tg iter (tI (gX X T) W it)) (ok : BlkOk X.N X.env.scope scope own) (hv : ∀ j ∈ slotsP p, j ∈ own.map (·.2))
    (hg : ∀ (s : Shared) (H : Hp) (C : Addr) (cl : List (Str × Addr)) (fp : List Addr), PG (X.blk s H scope (compEnvC scope cl C X.env) fp) tg (gP X.K p)) (ht : ∀ (s : Shared) (H : Hp) (C : Addr) (cl : List (Str × Addr)) (fp : List Addr), PTs (X.blk s H scope (compEnvC scope cl C X.env) fp) ifs (tB' (gX X T) W0 t))
    (hk : ∀ (s : Shared) (H : Hp) (C : Addr) (cl : List (Str × Addr)) (fp : List Addr), PE (X.blk s H scope (compEnvC scope cl C X.env) fp) kx (tD (gX X T) W0 f))
    (he : ∀ (s : Shared) (H : Hp) (C : Addr) (cl : List (Str × Addr)) (fp : List Addr), PE (X.blk s H scope (compEnvC scope cl C X.env) fp) vx (tD (gX X T) W0 fv)) (hs : ∀ x, foldedSetIterable iter X.env x = pure x := by intro _; rfl) :
    PE X (.DictComp kx vx [⟨tg, iter, ifs, 0⟩] scope pos) (tK (gX X T) W (kComp it p t f fv (own.map (·.2)))) := (pe_dc hc hN hi ok hg ht hk he hs).le (tDc_K hv)
theorem df_sortK {x : Str} {e : Expr} {f : DenK} {p pos : Pos} (hcalm : X.calm = true) (hg : Gl X x) (hm : X.mg x = none) (hv : bootBuiltins x = some (.builtin "sorted")) (ha : PE X e (tK (gX X T) W f)) (hn : x ≠ "__name__" := by decide) (hdb : (x == ("__debug__" : Str)) = false := by decide)
    (he : starEach [e] X.env = (false, eval e X.env) :: starEach [] X.env := by rfl) (hpl : (backTo pos (starEach [] X.env)).any (·.1) = false := by rfl) : PE X (.Call (.Name x p) [e] [] pos) (tF (gX X T) W (eSrtK f)) :=
  (pe_callB (call_sortedDI hcalm) hg hm hv (pa_cons ha pa_nil he) hn hdb he hpl).le fun σ H Q h => by
    obtain ⟨P, F, A, ρ, S, r, er, h⟩ := h
    refine ⟨P, F, A, ρ, S, r, er, ?_⟩
    unfold eSrtK at h
    cases hf : f ρ S with
    | no =>
      rw [hf] at h
      exact h.elim
    | exc c q S' =>
      rw [hf] at h
      exact h
    | ok ks S' =>
      rw [hf] at h
      simp only at h
      cases hk : intK ks with
      | none =>
        rw [hk] at h
        exact h.elim
      | some ns =>
        rw [hk] at h
        simp only at h
        by_cases hz : ns.length < 64
        · rw [if_pos hz] at h
          intro F1 A1 H1 p kvs e1 p1 r1 hp hks fp ap pp
          refine ⟨p, kvs, ns, rfl, Rd.of hp, by rw [hks, intK_map hk], hz, fun ys q hperm hsrt hq => ?_⟩
          rw [sorted_one (hperm.trans (sortI_perm ns).symm) hsrt (sortI_sorted ns)]
          obtain ⟨f1, a1, p2⟩ := r1.fresh hq
          exact h F1 A1 (upd H1 q (.lst ((sortI ns).map V.int))) q _ e1 p1 (r1.grow (Ext.new hq)) upd_same (DRs.ints _) f1 a1 p2
        · rw [if_neg hz] at h
          exact h.elim
theorem de_lenK {x : Str} {e : Expr} {f : DenK} {p pos : Pos} (hg : Gl X x) (hm : X.mg x = none) (hv : bootBuiltins x = some (.builtin "len")) (ha : PE X e (tK (gX X T) W f)) (hn : x ≠ "__name__" := by decide) (hdb : (x == ("__debug__" : Str)) = false := by decide)
    (he : starEach [e] X.env = (false, eval e X.env) :: starEach [] X.env := by rfl) (hpl : (backTo pos (starEach [] X.env)).any (·.1) = false := by rfl) : PE X (.Call (.Name x p) [e] [] pos) (tD (gX X T) W (eLenK f)) :=
  (pe_callB call_lenD hg hm hv (pa_cons ha pa_nil he) hn hdb he hpl).le fun σ H Q h => by
    obtain ⟨P, F, A, ρ, S, r, er, h⟩ := h
    refine ⟨P, F, A, ρ, S, r, er, ?_⟩
    unfold eLenK at h
    cases hf : f ρ S with
    | no =>
      rw [hf] at h
      exact h.elim
    | exc c q S' =>
      rw [hf] at h
      exact h
    | ok ks S' =>
      rw [hf] at h
      intro F1 A1 H1 p kvs e1 p1 r1 hp hks fp ap pp
      refine ⟨p, kvs, rfl, hp, ?_⟩
      refine h F1 A1 H1 _ e1 p1 r1 ?_
      rw [← hks, List.length_map]
      exact DR.int _
end
end DL

end
section
set_option Elab.async false
set_option linter.all false
set_option maxRecDepth 100000
set_option maxHeartbeats 1000000
/-! how the mirrors are evaluated -/
namespace DL
open PySem PySem.Spec PyProof.Rows L2

/-! ### comprehensions and loops over data -/
theorem loopC_pure {j : Nat} {t f : Den} {ρw : Env} {src : Option Nat} {S : Sto} (tb : D → Bool) (fd : D → D) : ∀ {ds acc : List D}, (∀ d ∈ ds, t (ρw.set j (some (.d d))) S = .ok (.d (.bool (tb d))) S ∧ (tb d = true → f (ρw.set j (some (.d d))) S = .ok (.d (fd d)) S)) → acc.length + ds.length ≤ sizeLine →
    loopC (.nm j) t f ρw src acc ds S = .ok (acc ++ (ds.filter tb).map fd) S
  | [], acc, _, _ => by
    unfold loopC
    simp
  | d :: ds, acc, h, hl => by
    obtain ⟨h1, h2⟩ := h d List.mem_cons_self
    rw [List.length_cons] at hl
    unfold loopC
    simp only [setP, h1]
    cases ht : tb d with
    | false =>
      simp only
      rw [loopC_pure tb fd (fun e he => h e (List.mem_cons_of_mem _ he)) (by omega), List.filter_cons, if_neg (by rw [ht]; exact Bool.false_ne_true)]
    | true =>
      simp only [h2 ht]
      rw [if_pos (by omega), loopC_pure tb fd (fun e he => h e (List.mem_cons_of_mem _ he)) (by rw [List.length_append, List.length_singleton]; omega), List.filter_cons, if_pos ht]
      simp
theorem loopC_map {j : Nat} {f : Den} {ρw : Env} {src : Option Nat} {S : Sto} (fd : D → D) {ds : List D} (h : ∀ d ∈ ds, f (ρw.set j (some (.d d))) S = .ok (.d (fd d)) S) (hl : ds.length ≤ sizeLine) :
    loopC (.nm j) tYesD f ρw src [] ds S = .ok (ds.map fd) S := by
  have z := loopC_pure (j := j) (t := tYesD) (f := f) (ρw := ρw) (src := src) (S := S) (fun _ => true) fd (ds := ds) (acc := []) (fun d hd => ⟨rfl, fun _ => h d hd⟩) (by simpa using hl)
  rw [z]
  simp [List.filter_eq_self.mpr]
/-- for: I holds behind each turn -/
theorem loopF_inv {j b : Nat} {s : SDen} {src : Option Nat} {all : List D} (I : Nat → Env → Sto → Prop) : ∀ {ds : List D} {i : Nat} {ρ : Env} {S : Sto}, I i ρ S → (∀ k d ρ S, ds[k]? = some d → I (i + k) ρ S → ∃ ρ' S', s b (ρ.set j (some (.d d))) S = .nx ρ' S' ∧ srcKept src all S' = true ∧ I (i + k + 1) ρ' S') →
    ∃ ρ' S', loopF (.nm j) s b src all ds ρ S = .nx ρ' S' ∧ I (i + ds.length) ρ' S'
  | [], i, ρ, S, h0, _ => ⟨ρ, S, rfl, h0⟩
  | d :: ds, i, ρ, S, h0, hs => by
    obtain ⟨ρ1, S1, e1, k1, h1⟩ := hs 0 d ρ S rfl h0
    obtain ⟨ρ2, S2, e2, h2⟩ := loopF_inv (ds := ds) (i := i + 1) I h1 (fun k d' ρ' S' hd hI => by
      have z := hs (k + 1) d' ρ' S' (by simpa using hd) (by rw [← Nat.add_assoc, Nat.add_right_comm]; exact hI)
      rw [← Nat.add_assoc, Nat.add_right_comm i k 1] at z
      exact z)
    refine ⟨ρ2, S2, ?_, ?_⟩
    · unfold loopF
      simp only [setP, e1, k1, if_true]
      exact e2
    · rw [List.length_cons, ← Nat.add_assoc, Nat.add_right_comm]
      exact h2
/-- while: a measure falls -/
theorem loopW_inv {t : Den} {s : SDen} {b : Nat} (I : Nat → Env → Sto → Prop) (R : Env → Sto → Prop) (step : ∀ m ρ S, I m ρ S → (∃ S1, t ρ S = .ok (.d (.bool false)) S1 ∧ R ρ S1) ∨ ∃ S1 ρ' S' m', t ρ S = .ok (.d (.bool true)) S1 ∧ s b ρ S1 = .nx ρ' S' ∧ m' < m ∧ I m' ρ' S') :
    ∀ (n m : Nat) (ρ : Env) (S : Sto), m < n → I m ρ S → ∃ ρ' S', loopW t s n b ρ S = .nx ρ' S' ∧ R ρ' S'
  | 0, _, _, _, h, _ => absurd h (Nat.not_lt_zero _)
  | n + 1, m, ρ, S, hn, hI => by
    rcases step m ρ S hI with ⟨S1, e, hR⟩ | ⟨S1, ρ', S', m', e1, e2, hm, hI'⟩
    · refine ⟨ρ, S1, ?_, hR⟩
      unfold loopW sB
      rw [e]
    · obtain ⟨ρ2, S2, e3, hR⟩ := loopW_inv I R step n m' ρ' S' (by omega) hI'
      refine ⟨ρ2, S2, ?_, hR⟩
      unfold loopW sB
      rw [e1]
      simp only [e2]
      exact e3
end DL

end
section
set_option Elab.async false
set_option linter.all false
set_option maxRecDepth 100000
set_option maxHeartbeats 1000000
namespace DL
open PySem PySem.Spec PyProof.Rows L2
theorem isi_none_int : dIsi "int" .none = some (.bool false) := by
  show Option.map PyData.bool (kitB (tyOf (PyData.none)) "int") = _
  rw [show kitB (tyOf (PyData.none)) "int" = some false from by unfold tyOf; kernel_rfl]
  rfl
theorem isi_none_bool : dIsi "bool" .none = some (.bool false) := by
  show Option.map PyData.bool (kitB (tyOf (PyData.none)) "bool") = _
  rw [show kitB (tyOf (PyData.none)) "bool" = some false from by unfold tyOf; kernel_rfl]
  rfl
theorem isi_none_str : dIsi "str" .none = some (.bool false) := by
  show Option.map PyData.bool (kitB (tyOf (PyData.none)) "str") = _
  rw [show kitB (tyOf (PyData.none)) "str" = some false from by unfold tyOf; kernel_rfl]
  rfl
theorem isi_none_list : dIsi "list" .none = some (.bool false) := by
  show Option.map PyData.bool (kitB (tyOf (PyData.none)) "list") = _
  rw [show kitB (tyOf (PyData.none)) "list" = some false from by unfold tyOf; kernel_rfl]
  rfl
theorem isi_none_tuple : dIsi "tuple" .none = some (.bool false) := by
  show Option.map PyData.bool (kitB (tyOf (PyData.none)) "tuple") = _
  rw [show kitB (tyOf (PyData.none)) "tuple" = some false from by unfold tyOf; kernel_rfl]
  rfl
theorem isi_bool_int (b : Bool) : dIsi "int" (.bool b) = some (.bool true) := by
  show Option.map PyData.bool (kitB (tyOf (PyData.bool b)) "int") = _
  rw [show kitB (tyOf (PyData.bool b)) "int" = some true from by unfold tyOf; kernel_rfl]
  rfl
theorem isi_bool_bool (b : Bool) : dIsi "bool" (.bool b) = some (.bool true) := by
  show Option.map PyData.bool (kitB (tyOf (PyData.bool b)) "bool") = _
  rw [show kitB (tyOf (PyData.bool b)) "bool" = some true from by unfold tyOf; kernel_rfl]
  rfl
theorem isi_bool_str (b : Bool) : dIsi "str" (.bool b) = some (.bool false) := by
  show Option.map PyData.bool (kitB (tyOf (PyData.bool b)) "str") = _
  rw [show kitB (tyOf (PyData.bool b)) "str" = some false from by unfold tyOf; kernel_rfl]
  rfl
theorem isi_bool_list (b : Bool) : dIsi "list" (.bool b) = some (.bool false) := by
  show Option.map PyData.bool (kitB (tyOf (PyData.bool b)) "list") = _
  rw [show kitB (tyOf (PyData.bool b)) "list" = some false from by unfold tyOf; kernel_rfl]
  rfl
theorem isi_bool_tuple (b : Bool) : dIsi "tuple" (.bool b) = some (.bool false) := by
  show Option.map PyData.bool (kitB (tyOf (PyData.bool b)) "tuple") = _
  rw [show kitB (tyOf (PyData.bool b)) "tuple" = some false from by unfold tyOf; kernel_rfl]
  rfl
theorem isi_int_int (i : Int) : dIsi "int" (.int i) = some (.bool true) := by
  show Option.map PyData.bool (kitB (tyOf (PyData.int i)) "int") = _
  rw [show kitB (tyOf (PyData.int i)) "int" = some true from by unfold tyOf; kernel_rfl]
  rfl
theorem isi_int_bool (i : Int) : dIsi "bool" (.int i) = some (.bool false) := by
  show Option.map PyData.bool (kitB (tyOf (PyData.int i)) "bool") = _
  rw [show kitB (tyOf (PyData.int i)) "bool" = some false from by unfold tyOf; kernel_rfl]
  rfl
theorem isi_int_str (i : Int) : dIsi "str" (.int i) = some (.bool false) := by
  show Option.map PyData.bool (kitB (tyOf (PyData.int i)) "str") = _
  rw [show kitB (tyOf (PyData.int i)) "str" = some false from by unfold tyOf; kernel_rfl]
  rfl
theorem isi_int_list (i : Int) : dIsi "list" (.int i) = some (.bool false) := by
  show Option.map PyData.bool (kitB (tyOf (PyData.int i)) "list") = _
  rw [show kitB (tyOf (PyData.int i)) "list" = some false from by unfold tyOf; kernel_rfl]
  rfl
theorem isi_int_tuple (i : Int) : dIsi "tuple" (.int i) = some (.bool false) := by
  show Option.map PyData.bool (kitB (tyOf (PyData.int i)) "tuple") = _
  rw [show kitB (tyOf (PyData.int i)) "tuple" = some false from by unfold tyOf; kernel_rfl]
  rfl
theorem isi_str_int (x : Str) : dIsi "int" (.str x) = some (.bool false) := by
  show Option.map PyData.bool (kitB (tyOf (PyData.str x)) "int") = _
  rw [show kitB (tyOf (PyData.str x)) "int" = some false from by unfold tyOf; kernel_rfl]
  rfl
theorem isi_str_bool (x : Str) : dIsi "bool" (.str x) = some (.bool false) := by
  show Option.map PyData.bool (kitB (tyOf (PyData.str x)) "bool") = _
  rw [show kitB (tyOf (PyData.str x)) "bool" = some false from by unfold tyOf; kernel_rfl]
  rfl
theorem isi_str_str (x : Str) : dIsi "str" (.str x) = some (.bool true) := by
  show Option.map PyData.bool (kitB (tyOf (PyData.str x)) "str") = _
  rw [show kitB (tyOf (PyData.str x)) "str" = some true from by unfold tyOf; kernel_rfl]
  rfl
theorem isi_str_list (x : Str) : dIsi "list" (.str x) = some (.bool false) := by
  show Option.map PyData.bool (kitB (tyOf (PyData.str x)) "list") = _
  rw [show kitB (tyOf (PyData.str x)) "list" = some false from by unfold tyOf; kernel_rfl]
  rfl
theorem isi_str_tuple (x : Str) : dIsi "tuple" (.str x) = some (.bool false) := by
  show Option.map PyData.bool (kitB (tyOf (PyData.str x)) "tuple") = _
  rw [show kitB (tyOf (PyData.str x)) "tuple" = some false from by unfold tyOf; kernel_rfl]
  rfl
theorem isi_list_int (ds : List D) : dIsi "int" (.list ds) = some (.bool false) := by
  show Option.map PyData.bool (kitB (tyOf (PyData.list ds)) "int") = _
  rw [show kitB (tyOf (PyData.list ds)) "int" = some false from by unfold tyOf; kernel_rfl]
  rfl
theorem isi_list_bool (ds : List D) : dIsi "bool" (.list ds) = some (.bool false) := by
  show Option.map PyData.bool (kitB (tyOf (PyData.list ds)) "bool") = _
  rw [show kitB (tyOf (PyData.list ds)) "bool" = some false from by unfold tyOf; kernel_rfl]
  rfl
theorem isi_list_str (ds : List D) : dIsi "str" (.list ds) = some (.bool false) := by
  show Option.map PyData.bool (kitB (tyOf (PyData.list ds)) "str") = _
  rw [show kitB (tyOf (PyData.list ds)) "str" = some false from by unfold tyOf; kernel_rfl]
  rfl
theorem isi_list_list (ds : List D) : dIsi "list" (.list ds) = some (.bool true) := by
  show Option.map PyData.bool (kitB (tyOf (PyData.list ds)) "list") = _
  rw [show kitB (tyOf (PyData.list ds)) "list" = some true from by unfold tyOf; kernel_rfl]
  rfl
theorem isi_list_tuple (ds : List D) : dIsi "tuple" (.list ds) = some (.bool false) := by
  show Option.map PyData.bool (kitB (tyOf (PyData.list ds)) "tuple") = _
  rw [show kitB (tyOf (PyData.list ds)) "tuple" = some false from by unfold tyOf; kernel_rfl]
  rfl
theorem isi_tuple_int (ds : List D) : dIsi "int" (.tuple ds) = some (.bool false) := by
  show Option.map PyData.bool (kitB (tyOf (PyData.tuple ds)) "int") = _
  rw [show kitB (tyOf (PyData.tuple ds)) "int" = some false from by unfold tyOf; kernel_rfl]
  rfl
theorem isi_tuple_bool (ds : List D) : dIsi "bool" (.tuple ds) = some (.bool false) := by
  show Option.map PyData.bool (kitB (tyOf (PyData.tuple ds)) "bool") = _
  rw [show kitB (tyOf (PyData.tuple ds)) "bool" = some false from by unfold tyOf; kernel_rfl]
  rfl
theorem isi_tuple_str (ds : List D) : dIsi "str" (.tuple ds) = some (.bool false) := by
  show Option.map PyData.bool (kitB (tyOf (PyData.tuple ds)) "str") = _
  rw [show kitB (tyOf (PyData.tuple ds)) "str" = some false from by unfold tyOf; kernel_rfl]
  rfl
theorem isi_tuple_list (ds : List D) : dIsi "list" (.tuple ds) = some (.bool false) := by
  show Option.map PyData.bool (kitB (tyOf (PyData.tuple ds)) "list") = _
  rw [show kitB (tyOf (PyData.tuple ds)) "list" = some false from by unfold tyOf; kernel_rfl]
  rfl
theorem isi_tuple_tuple (ds : List D) : dIsi "tuple" (.tuple ds) = some (.bool true) := by
  show Option.map PyData.bool (kitB (tyOf (PyData.tuple ds)) "tuple") = _
  rw [show kitB (tyOf (PyData.tuple ds)) "tuple" = some true from by unfold tyOf; kernel_rfl]
  rfl
/-! ### data of small depth, without dicts -/
def nice : Nat → D → Bool
  | _, .none => true
  | _, .bool _ => true
  | _, .int _ => true
  | _, .str x => PyData.strOk x
  | k + 1, .list ds => ds.all (nice k)
  | k + 1, .tuple ds => ds.all (nice k)
  | _, _ => false
theorem nice_lay : ∀ (k : Nat) (d : D), nice k d = true → d.canLay0 = true ∧ d.depth ≤ k
  | k, .none, _ => by simp [PyData.canLay0, PyData.depth]
  | k, .bool _, _ => by simp [PyData.canLay0, PyData.depth]
  | k, .int _, _ => by simp [PyData.canLay0, PyData.depth]
  | k, .str x, h => by
    have h' : PyData.strOk x = true := by cases k <;> exact h
    simp [PyData.canLay0, PyData.depth, h']
  | 0, .list _, h => by cases h
  | 0, .tuple _, h => by cases h
  | k + 1, .list ds, h => by
    have z := key k ds h
    simp [PyData.canLay0, PyData.depth, z.1, z.2]
  | k + 1, .tuple ds, h => by
    have z := key k ds h
    simp [PyData.canLay0, PyData.depth, z.1, z.2]
  | 0, .dict _, h => by cases h
  | _ + 1, .dict _, h => by cases h
where
  key (k : Nat) : ∀ ds : List D, ds.all (nice k) = true → PyData.canLayAll0 ds = true ∧ PyData.depthAll ds ≤ k
  | [], _ => by simp [PyData.canLayAll0, PyData.depthAll]
  | d :: ds, h => by
    rw [List.all_cons, Bool.and_eq_true] at h
    have a := nice_lay k d h.1
    have b := key k ds h.2
    simp only [PyData.canLayAll0, PyData.depthAll, a.1, b.1, Bool.and_true, true_and]
    omega
theorem nice_shaped {k : Nat} {d : D} (h : nice k d = true) (hk : k ≤ 64) : SeqAt.shaped d = true := by
  obtain ⟨h1, h2⟩ := nice_lay k d h
  unfold SeqAt.shaped
  rw [h1, Bool.true_and, decide_eq_true_eq]
  omega
theorem nice_eqv : ∀ (k : Nat) (d : D), nice k d = true → PyData.eqv d d = true
  | k, .none, _ => by simp [PyData.eqv]
  | k, .bool _, _ => by simp [PyData.eqv]
  | k, .int _, _ => by simp [PyData.eqv]
  | k, .str x, h => by simp [PyData.eqv]
  | 0, .list _, h => by cases h
  | 0, .tuple _, h => by cases h
  | k + 1, .list ds, h => by
    simp only [PyData.eqv]
    exact key k ds h
  | k + 1, .tuple ds, h => by
    simp only [PyData.eqv]
    exact key k ds h
  | 0, .dict _, h => by cases h
  | _ + 1, .dict _, h => by cases h
where
  key (k : Nat) : ∀ ds : List D, ds.all (nice k) = true → PyData.eqvAll ds ds = true
  | [], _ => by simp [PyData.eqvAll]
  | d :: ds, h => by
    rw [List.all_cons, Bool.and_eq_true] at h
    simp [PyData.eqvAll, nice_eqv k d h.1, key k ds h.2]
theorem nice_up : ∀ {k m : Nat} {d : D}, nice k d = true → k ≤ m → nice m d = true := by
  intro k
  induction k with
  | zero =>
    intro m d h _
    cases d <;> first
      | (cases m <;> rfl)
      | (cases m <;> exact h)
      | cases h
  | succ k ih =>
    intro m d h hm
    cases m with
    | zero => omega
    | succ m =>
      cases d <;> first
        | rfl
        | exact h
        | (exact List.all_eq_true.mpr fun x hx => ih (List.all_eq_true.mp h x hx) (by omega))
        | cases h
theorem nice_no_dict {k : Nat} {l : List (D × D)} (h : nice k (.dict l) = true) : False := by
  cases k <;> cases h

/-! ### rows of numbers -/
def nd (l : List Nat) : List D := l.map fun (i : Nat) => PyData.int (i : Int)
def zd (l : List Int) : List D := l.map PyData.int
theorem nd_len (l : List Nat) : (nd l).length = l.length := by simp [nd]
theorem zd_len (l : List Int) : (zd l).length = l.length := by simp [zd]
theorem nd_zd (l : List Nat) : nd l = zd (l.map fun (i : Nat) => (i : Int)) := by simp [nd, zd]
theorem zd_nice (k : Nat) (l : List Int) : nice (k + 1) (.list (zd l)) = true ∧ nice (k + 1) (.tuple (zd l)) = true := by
  have h : (zd l).all (nice k) = true := by
    unfold zd
    rw [List.all_map]
    exact List.all_eq_true.mpr fun x _ => by cases k <;> rfl
  exact ⟨h, h⟩
theorem intsD_zd (l : List Int) : intsD (zd l) = some l := intsD_map l
theorem rangeD_nd (n : Nat) : rangeD 0 (n : Int) = nd (List.range n) := by
  unfold rangeD nd
  simp
theorem nd_get {l : List Nat} {i : Nat} (h : i < l.length) : (nd l)[i]? = some (.int (l[i] : Int)) := by
  unfold nd
  rw [List.getElem?_map, List.getElem?_eq_getElem h]
  rfl
theorem dIx_nat {ds : List D} {i : Nat} {d : D} (h : ds[i]? = some d) : dIx (.tuple ds) (.int (i : Int)) = some d ∧ dIx (.list ds) (.int (i : Int)) = some d := by
  have z := atI_nat h
  exact ⟨z, z⟩
theorem eqv_int (i j : Int) : PyData.eqv (.int i) (.int j) = (i == j) := by simp [PyData.eqv]
theorem eqvAll_zd : ∀ (l m : List Int), PyData.eqvAll (zd l) (zd m) = decide (l = m)
  | [], [] => by simp [zd, PyData.eqvAll]
  | [], _ :: _ => by simp [zd, PyData.eqvAll]
  | _ :: _, [] => by simp [zd, PyData.eqvAll]
  | a :: l, b :: m => by
    have ih := eqvAll_zd l m
    unfold zd at ih ⊢
    rw [List.map_cons, List.map_cons]
    simp only [PyData.eqvAll, eqv_int, ih]
    by_cases h : a = b
    · subst h
      simp
    · simp [h]
/-- == of two rows of numbers -/
theorem dEq_zd (l m : List Int) : dEq (.list (zd l)) (.list (zd m)) = some (.bool (decide (l = m))) ∧ dEq (.tuple (zd l)) (.tuple (zd m)) = some (.bool (decide (l = m))) := by
  have a := nice_shaped (zd_nice 0 l).1 (by decide)
  have b := nice_shaped (zd_nice 0 m).1 (by decide)
  have c := nice_shaped (zd_nice 0 l).2 (by decide)
  have d := nice_shaped (zd_nice 0 m).2 (by decide)
  constructor
  · unfold dEq
    rw [a, b]
    simp only [Bool.and_self, if_true, PyData.eqv, eqvAll_zd]
  · unfold dEq
    rw [c, d]
    simp only [Bool.and_self, if_true, PyData.eqv, eqvAll_zd]
theorem dNe_zd (l m : List Int) : dNe (.list (zd l)) (.list (zd m)) = some (.bool (!decide (l = m))) ∧ dNe (.tuple (zd l)) (.tuple (zd m)) = some (.bool (!decide (l = m))) := by
  have a := nice_shaped (zd_nice 0 l).1 (by decide)
  have b := nice_shaped (zd_nice 0 m).1 (by decide)
  have c := nice_shaped (zd_nice 0 l).2 (by decide)
  have d := nice_shaped (zd_nice 0 m).2 (by decide)
  constructor
  · unfold dNe
    rw [a, b]
    simp only [Bool.and_self, if_true, PyData.eqv, eqvAll_zd]
  · unfold dNe
    rw [c, d]
    simp only [Bool.and_self, if_true, PyData.eqv, eqvAll_zd]
theorem dEq_int (i j : Int) : dEq (.int i) (.int j) = some (.bool (i == j)) := by
  unfold dEq
  rw [show SeqAt.shaped (.int i) = true from by simp [SeqAt.shaped, PyData.canLay0, PyData.depth], show SeqAt.shaped (.int j) = true from by simp [SeqAt.shaped, PyData.canLay0, PyData.depth]]
  simp [eqv_int]
theorem dNe_int (i j : Int) : dNe (.int i) (.int j) = some (.bool (i != j)) := by
  unfold dNe
  rw [show SeqAt.shaped (.int i) = true from by simp [SeqAt.shaped, PyData.canLay0, PyData.depth], show SeqAt.shaped (.int j) = true from by simp [SeqAt.shaped, PyData.canLay0, PyData.depth]]
  simp [eqv_int, bne]
end DL

end
section
set_option Elab.async false
set_option linter.all false
set_option maxRecDepth 100000
set_option maxHeartbeats 1000000
namespace DL
open PySem PySem.Spec PyProof.Rows L2
/-! ### how dens are evaluated -/
theorem val_m {S : Sto} {j : Nat} {ds : List D} (h : S[j]? = some (.lst ds)) : val S (.m j) = some (.list ds) := by
  show (match S[j]? with
    | some (.lst ds) => some (PyData.list ds)
    | none => none) = _
  rw [h]
@[simp] theorem ev_c (d : D) (ρ : Env) (S : Sto) : eC d ρ S = .ok (.d d) S := rfl
theorem ev_var {i : Nat} {r : RV} {ρ : Env} {S : Sto} (h : ρ[i]? = some (some r)) : eVar i ρ S = .ok r S := by
  unfold eVar
  rw [h]
theorem ev_b {f : Den} {k : RV → Den} {ρ : Env} {S S' : Sto} {r : RV} (h : f ρ S = .ok r S') : eB f k ρ S = k r ρ S' := by
  unfold eB
  rw [h]
theorem ev_op {op : D → D → Option D} {f g : Den} {ρ : Env} {S : Sto} {x y : RV} {a b c : D} (h1 : f ρ S = .ok x S) (h2 : g ρ S = .ok y S) (h3 : val S x = some a) (h4 : val S y = some b) (h5 : op a b = some c) : eOp op f g ρ S = .ok (.d c) S := by
  unfold eOp eB
  simp only [h1, h2, h3, h4, h5]
theorem ev_un {op : D → Option D} {f : Den} {ρ : Env} {S : Sto} {x : RV} {a c : D} (h1 : f ρ S = .ok x S) (h3 : val S x = some a) (h5 : op a = some c) : eUn op f ρ S = .ok (.d c) S := by
  unfold eUn eB
  simp only [h1, h3, h5]
theorem ev_fz {f : Den} {ρ : Env} {S S' : Sto} {ds : List D} (h : f ρ S = .ok (.d (.list ds)) S') : eFz f ρ S = .ok (.d (.list ds)) S' := by
  unfold eFz eB
  simp only [h]
theorem ev_new {f : Den} {ρ : Env} {S S' : Sto} {ds : List D} (h : f ρ S = .ok (.d (.list ds)) S') : eNew f ρ S = .ok (.m S'.length) (S' ++ [.lst ds]) := by
  unfold eNew eB
  simp only [h]
theorem ev_not {f : Den} {ρ : Env} {S S' : Sto} {b : Bool} (h : f ρ S = .ok (.d (.bool b)) S') : eNot f ρ S = .ok (.d (.bool (!b))) S' := by
  unfold eNot eB
  simp only [h]
theorem ev_andT {f g : Den} {ρ : Env} {S S' : Sto} (h : f ρ S = .ok (.d (.bool true)) S') : eAnd f g ρ S = g ρ S' := by
  unfold eAnd eB
  simp only [h]
theorem ev_andF {f g : Den} {ρ : Env} {S S' : Sto} (h : f ρ S = .ok (.d (.bool false)) S') : eAnd f g ρ S = .ok (.d (.bool false)) S' := by
  unfold eAnd eB
  simp only [h]
theorem ev_and {f g : Den} {ρ : Env} {S S' : Sto} {a b : Bool} (h : f ρ S = .ok (.d (.bool a)) S') (hg : g ρ S' = .ok (.d (.bool b)) S') : eAnd f g ρ S = .ok (.d (.bool (a && b))) S' := by
  cases a with
  | false => exact ev_andF h
  | true => rw [ev_andT h, hg]; rfl
theorem ev_orF {f g : Den} {ρ : Env} {S S' : Sto} (h : f ρ S = .ok (.d (.bool false)) S') : eOr f g ρ S = g ρ S' := by
  unfold eOr eB
  simp only [h]
theorem ev_orT {f g : Den} {ρ : Env} {S S' : Sto} (h : f ρ S = .ok (.d (.bool true)) S') : eOr f g ρ S = .ok (.d (.bool true)) S' := by
  unfold eOr eB
  simp only [h]
theorem ev_a1 {f : Den} {ρ : Env} {S S' : Sto} {r : RV} (h : f ρ S = .ok r S') : aCons f aNil ρ S = .ok [r] S' := by
  unfold aCons aNil
  simp only [h]
theorem ev_ac {f : Den} {fs : DenA} {ρ : Env} {S S' S2 : Sto} {r : RV} {rs : List RV} (h : f ρ S = .ok r S') (h2 : fs ρ S' = .ok rs S2) : aCons f fs ρ S = .ok (r :: rs) S2 := by
  unfold aCons
  simp only [h, h2]
theorem ev_cv {op : Sto → List RV → Option D} {fs : DenA} {ρ : Env} {S S' : Sto} {rs : List RV} {c : D} (h : fs ρ S = .ok rs S') (h2 : op S' rs = some c) : eCallV op fs ρ S = .ok (.d c) S' := by
  unfold eCallV aB
  simp only [h, h2]
theorem ev_call {m : Mir} {fs : DenA} {ρ : Env} {S S' S2 : Sto} {rs : List RV} {c : D} (h : fs ρ S = .ok rs S') (h2 : m rs S' = .rt c S2) : eCall m fs ρ S = .ok (.d c) S2 := by
  unfold eCall aB
  simp only [h, h2]
theorem ev_callX {m : Mir} {fs : DenA} {ρ : Env} {S S' S2 : Sto} {rs : List RV} {c : Str} {p : D} (h : fs ρ S = .ok rs S') (h2 : m rs S' = .exc c p S2) : eCall m fs ρ S = .exc c p S2 := by
  unfold eCall aB
  simp only [h, h2]
theorem ev_tup {fs : DenA} {ρ : Env} {S S' : Sto} {rs : List RV} {ds : List D} (h : fs ρ S = .ok rs S') (h2 : datas rs = some ds) (h3 : ds.length ≤ sizeLine) : eTup fs ρ S = .ok (.d (.tuple ds)) S' := by
  unfold eTup aB
  simp only [h, h2, if_pos h3]
theorem ev_lst {fs : DenA} {ρ : Env} {S S' : Sto} {rs : List RV} {ds : List D} (h : fs ρ S = .ok rs S') (h2 : datas rs = some ds) (h3 : ds.length ≤ sizeLine) : eLst fs ρ S = .ok (.d (.list ds)) S' := by
  unfold eLst aB
  simp only [h, h2, if_pos h3]
theorem ev_compM {it : ItDen} {j : Nat} {f : Den} {vs : List Nat} {ρ : Env} {S S' : Sto} {ds : List D} (fd : D → D) (hi : it ρ S = .ok none ds S') (h : ∀ d ∈ ds, f ((wipeE ρ vs).set j (some (.d d))) S' = .ok (.d (fd d)) S') (hl : ds.length ≤ sizeLine) :
    eComp it (.nm j) tYesD f vs ρ S = .ok (.d (.list (ds.map fd))) S' := by
  unfold eComp
  rw [hi]
  simp only [show gd none ds tYesD = tYesD from rfl, loopC_map fd h hl]
  rfl
theorem ev_comp {it : ItDen} {j : Nat} {t f : Den} {vs : List Nat} {ρ : Env} {S S' : Sto} {ds : List D} (tb : D → Bool) (fd : D → D) (hi : it ρ S = .ok none ds S')
    (h : ∀ d ∈ ds, t ((wipeE ρ vs).set j (some (.d d))) S' = .ok (.d (.bool (tb d))) S' ∧ (tb d = true → f ((wipeE ρ vs).set j (some (.d d))) S' = .ok (.d (fd d)) S')) (hl : ds.length ≤ sizeLine) :
    eComp it (.nm j) t f vs ρ S = .ok (.d (.list ((ds.filter tb).map fd))) S' := by
  unfold eComp
  rw [hi]
  simp only [show gd none ds t = t from rfl, loopC_pure (acc := []) tb fd h (by simpa using hl)]
  rfl
theorem ev_compR {it : ItDen} {j j0 : Nat} {f : Den} {vs : List Nat} {ρ : Env} {S S' : Sto} {ds : List D} (fd : D → D) (hi : it ρ S = .ok (some j0) ds S') (hk : S'[j0]? = some (.lst ds)) (h : ∀ d ∈ ds, f ((wipeE ρ vs).set j (some (.d d))) S' = .ok (.d (fd d)) S') (hl : ds.length ≤ sizeLine) :
    eComp it (.nm j) tYesD f vs ρ S = .ok (.d (.list (ds.map fd))) S' := by
  have hs : srcKept (some j0) ds S' = true := by
    unfold srcKept
    simpa using hk
  have z := loopC_pure (j := j) (t := gd (some j0) ds tYesD) (f := f) (ρw := wipeE ρ vs) (src := some j0) (S := S') (fun _ => true) fd (ds := ds) (acc := []) (fun d hd => ⟨gd_yes hs, fun _ => h d hd⟩) (by simpa using hl)
  unfold eComp
  rw [hi]
  simp only [z, if_pos hs]
  simp [List.filter_eq_self.mpr]
theorem ev_seqM {f : Den} {ρ : Env} {S S' : Sto} {j : Nat} {ds : List D} (h : f ρ S = .ok (.m j) S') (hj : S'[j]? = some (.lst ds)) : iSeq f ρ S = .ok (some j) ds S' := by
  unfold iSeq
  rw [h]
  simp only [hj]
theorem ev_seqT {f : Den} {ρ : Env} {S S' : Sto} {ds : List D} (h : f ρ S = .ok (.d (.tuple ds)) S') : iSeq f ρ S = .ok none ds S' := by
  unfold iSeq
  rw [h]
theorem ev_seqL {f : Den} {ρ : Env} {S S' : Sto} {ds : List D} (h : f ρ S = .ok (.d (.list ds)) S') : iSeq f ρ S = .ok none ds S' := by
  unfold iSeq
  rw [h]
theorem rgOk2_nat {a n : Nat} (ha : a ≤ 2 ^ 20) (hn : n ≤ 2 ^ 20) : rgOk2 (a : Int) (n : Int) = true := by
  unfold rgOk2
  simp only [Bool.and_eq_true, decide_eq_true_eq]
  refine ⟨⟨⟨?_, ?_⟩, ?_⟩, ?_⟩ <;> omega
theorem ev_rg1 {fs : DenA} {ρ : Env} {S S' : Sto} {n : Nat} (h : fs ρ S = .ok [.d (.int (n : Int))] S') (hn : n ≤ 2 ^ 20) : iRange1 fs ρ S = .ok none (nd (List.range n)) S' := by
  unfold iRange1
  rw [h]
  simp only
  rw [if_pos (show rgOk2 0 (n : Int) = true from rgOk2_nat (a := 0) (by omega) hn), rangeD_nd]
theorem rangeD_nd1 (n : Nat) : rangeD 1 (n : Int) = nd (List.range' 1 (n - 1)) := by
  unfold rangeD nd
  rw [List.range'_eq_map_range, List.map_map, show ((n : Int) - 1).toNat = n - 1 from by omega]
  exact List.map_congr_left fun i _ => by simp
theorem ev_rg2 {fs : DenA} {ρ : Env} {S S' : Sto} {n : Nat} (h : fs ρ S = .ok [.d (.int 1), .d (.int (n : Int))] S') (hn : n ≤ 2 ^ 20) : iRange2 fs ρ S = .ok none (nd (List.range' 1 (n - 1))) S' := by
  unfold iRange2
  rw [h]
  simp only
  rw [if_pos (show rgOk2 1 (n : Int) = true from rgOk2_nat (a := 1) (by omega) hn), rangeD_nd1]
/-! statements -/
theorem ev_mk {np n : Nat} {body : SDen} {rs : List RV} {S S' : Sto} {d : D} (hl : rs.length = np) (h : body S.length (envOf n rs) S = .rt d S') (hS : S'.take S.length = S) : mk np n body rs S = .rt d S := by
  unfold mk
  rw [if_pos hl, h]
  simp only [hS]
theorem ev_mkN {np n : Nat} {body : SDen} {rs : List RV} {S S' : Sto} {ρ : Env} (hl : rs.length = np) (h : body S.length (envOf n rs) S = .nx ρ S') (hS : S'.take S.length = S) : mk np n body rs S = .rt .none S := by
  unfold mk
  rw [if_pos hl, h]
  simp only [hS]
theorem ev_mkX {np n : Nat} {body : SDen} {rs : List RV} {S S' : Sto} {ρ : Env} {c : Str} {p : D} (hl : rs.length = np) (h : body S.length (envOf n rs) S = .exc c p ρ S') (hS : S'.take S.length = S) : mk np n body rs S = .exc c p S := by
  unfold mk
  rw [if_pos hl, h]
  simp only [hS]
theorem es_seq {s t : SDen} {b : Nat} {ρ ρ' : Env} {S S' : Sto} (h : s b ρ S = .nx ρ' S') : sSeq s t b ρ S = t b ρ' S' := by
  unfold sSeq
  rw [h]
theorem es_seqX {s t : SDen} {b : Nat} {ρ ρ' : Env} {S S' : Sto} {c : Str} {p : D} (h : s b ρ S = .exc c p ρ' S') : sSeq s t b ρ S = .exc c p ρ' S' := by
  unfold sSeq
  rw [h]
theorem es_seqR {s t : SDen} {b : Nat} {ρ : Env} {S S' : Sto} {d : D} (h : s b ρ S = .rt d S') : sSeq s t b ρ S = .rt d S' := by
  unfold sSeq
  rw [h]
theorem es_b {f : Den} {k : RV → SDen} {b : Nat} {ρ : Env} {S S' : Sto} {r : RV} (h : f ρ S = .ok r S') : sB f k b ρ S = k r b ρ S' := by
  unfold sB
  rw [h]
theorem es_bX {f : Den} {k : RV → SDen} {b : Nat} {ρ : Env} {S S' : Sto} {c : Str} {p : D} (h : f ρ S = .exc c p S') : sB f k b ρ S = .exc c p ρ S' := by
  unfold sB
  rw [h]
theorem es_ifT {t : Den} {s u : SDen} {b : Nat} {ρ : Env} {S S' : Sto} (h : t ρ S = .ok (.d (.bool true)) S') : sIf t s u b ρ S = s b ρ S' := by
  unfold sIf sB
  simp only [h]
theorem es_ifF {t : Den} {s u : SDen} {b : Nat} {ρ : Env} {S S' : Sto} (h : t ρ S = .ok (.d (.bool false)) S') : sIf t s u b ρ S = u b ρ S' := by
  unfold sIf sB
  simp only [h]
theorem es_asg {i : Nat} {f : Den} {b : Nat} {ρ : Env} {S S' : Sto} {r : RV} (h : f ρ S = .ok r S') : sAsg i f b ρ S = .nx (ρ.set i (some r)) S' := by
  unfold sAsg sB
  rw [h]
theorem es_expr {f : Den} {b : Nat} {ρ : Env} {S S' : Sto} {r : RV} (h : f ρ S = .ok r S') : sExpr f b ρ S = .nx ρ S' := by
  unfold sExpr sB
  rw [h]
theorem es_exprX {f : Den} {b : Nat} {ρ : Env} {S S' : Sto} {c : Str} {p : D} (h : f ρ S = .exc c p S') : sExpr f b ρ S = .exc c p ρ S' := by
  unfold sExpr sB
  rw [h]
theorem es_ret {f : Den} {b : Nat} {ρ : Env} {S S' : Sto} {d : D} (h : f ρ S = .ok (.d d) S') : sRet f b ρ S = .rt d (S'.take b) := by
  unfold sRet sB
  rw [h]
  rfl
theorem es_nil (b : Nat) (ρ : Env) (S : Sto) : sNil b ρ S = .nx ρ S := rfl
theorem es_raise {c : Str} {f : Den} {b : Nat} {ρ : Env} {S S' : Sto} {d : D} (h : f ρ S = .ok (.d d) S') : sRaise c f b ρ S = .exc c d ρ S' := by
  unfold sRaise
  rw [h]
theorem es_for {j : Nat} {it : ItDen} {s : SDen} {b : Nat} {ρ : Env} {S S' : Sto} {ds : List D} (h : it ρ S = .ok none ds S') : sFor (.nm j) it s b ρ S = loopF (.nm j) s b none ds ds ρ S' := by
  unfold sFor
  rw [h]
  rfl
end DL

end
section
set_option Elab.async false
set_option linter.all false
set_option maxRecDepth 100000
set_option maxHeartbeats 4000000
namespace DL
open PySem PySem.Spec PyProof.Rows L2
theorem big_line {n : Nat} (h : n ≤ 100000) : n ≤ sizeLine := Nat.le_trans h (by unfold sizeLine; omega)
def isIntD : D → Bool
  | .int _ => true
  | _ => false
def flatI : D → Bool
  | .int _ => true
  | .bool _ => true
  | .str _ => true
  | _ => false
theorem boolsD_mapD (f : D → Bool) (ds : List D) : boolsD (ds.map fun d => .bool (f d)) = some (ds.map f) := by
  induction ds with
  | nil => rfl
  | cons d ds ih => simp [boolsD, ih]
theorem le_line {n : Nat} (h : n ≤ 100) : n ≤ sizeLine := Nat.le_trans h (by decide)
theorem chain2 (n : Nat) {f g : Den} {k : Int} {ρ : Env} {S : Sto} (hf : f ρ S = .ok (.d (.int (n : Int))) S) : eChain (eC (.int 1)) [(dLe, f), (dLe, eC (.int k))] ρ S = .ok (.d (.bool (decide (1 ≤ n) && decide ((n : Int) ≤ k)))) S := by
  unfold eChain
  rw [ev_b (ev_c _ _ _)]
  unfold chainD
  rw [ev_b hf]
  by_cases h : 1 ≤ n
  · have h' : (1 : Int) ≤ n := by omega
    simp [dLe, h, h', chainD, eB, eC, val_d]
  · have h' : ¬ (1 : Int) ≤ n := by omega
    simp [dLe, h, h', chainD, eB, eC, val_d]
theorem sorted_range (n : Nat) : ((List.range n).map fun (i : Nat) => (i : Int)).Pairwise (· ≤ ·) := by
  rw [List.pairwise_map]
  exact List.Pairwise.imp (fun h => by omega) (List.pairwise_lt_range (n := n))
theorem isIntD_zd (l : List Int) : (zd l).all isIntD = true := by
  unfold zd
  rw [List.all_map]
  exact List.all_eq_true.mpr fun x _ => rfl
theorem flatI_zd (l : List Int) : ∀ d ∈ zd l, flatI d = true := by
  intro d hd
  obtain ⟨i, _, rfl⟩ := List.mem_map.mp hd
  rfl
def tN (p : List Nat) : D := .tuple (nd p)
def at0 (p : List Nat) (i : Nat) : Nat := p.getD i 0
theorem at0_eq {p : List Nat} {i : Nat} (h : i < p.length) : at0 p i = p[i] := by simp [at0, h]
theorem tN_len (p : List Nat) : dLen (tN p) = some (.int (p.length : Int)) := by simp [tN, dLen, nd_len]
theorem ix_tN {p : List Nat} {i : Nat} (h : i < p.length) : dIx (tN p) (.int (i : Int)) = some (.int (at0 p i : Int)) := by
  rw [at0_eq h]
  exact (dIx_nat (nd_get h)).1
theorem ix_lN {p : List Nat} {i : Nat} (h : i < p.length) : dIx (.list (nd p)) (.int (i : Int)) = some (.int (at0 p i : Int)) := by
  rw [at0_eq h]
  exact (dIx_nat (nd_get h)).2
theorem mem_nd {l : List Nat} {d : D} (h : d ∈ nd l) : ∃ i ∈ l, d = .int (i : Int) := by
  obtain ⟨i, hi, rfl⟩ := List.mem_map.mp h
  exact ⟨i, hi, rfl⟩
def nOf : D → Nat
  | .int i => i.toNat
  | _ => 0
theorem nOf_int (i : Nat) : nOf (.int (i : Int)) = i := by simp [nOf]
theorem nd_map_nOf (f : Nat → Nat) (l : List Nat) : ((nd l).map fun d => .int (f (nOf d) : Int)) = nd (l.map f) := by
  simp [nd, List.map_map, Function.comp_def, nOf]
theorem nd_filter_nOf (t : Nat → Bool) (l : List Nat) : ((nd l).filter fun d => t (nOf d)) = nd (l.filter t) := by
  simp [nd, List.filter_map, Function.comp_def, nOf]
theorem line2 {n : Nat} (h : n ≤ 60) : n ≤ sizeLine := le_line (by omega)
theorem findIdx_nd (v : Nat) : ∀ (l : List Nat), v ∈ l → (nd l).findIdx? (fun z => PyData.eqv z (.int (v : Int))) = some (l.idxOf v)
  | [], h => by cases h
  | a :: l, h => by
    by_cases e : a = v
    · subst e
      simp [nd, List.findIdx?_cons, eqv_int]
    · have hm : v ∈ l := by
        rcases List.mem_cons.mp h with h | h
        · exact absurd h.symm e
        · exact h
      have e' : ¬ ((a : Int) = (v : Int)) := by omega
      have ih := findIdx_nd v l hm
      unfold nd at ih ⊢
      rw [List.map_cons, List.findIdx?_cons, ih, eqv_int]
      have e2 : (a == v) = false := by simp [e]
      simp [e', List.idxOf_cons, e2]
theorem flatD_nd (l : List Nat) : (nd l).all flatD = true := by
  unfold nd
  rw [List.all_map]
  exact List.all_eq_true.mpr fun x _ => rfl
theorem index_tN {p : List Nat} {v : Nat} (h : v ∈ p) : dIndex (tN p) (.int (v : Int)) = some (.int (p.idxOf v : Int)) := by
  unfold tN dIndex
  simp only
  rw [if_pos (by rw [flatD_nd]; rfl), findIdx_nd v p h]
  rfl
theorem ev_index {f g : Den} {ρ : Env} {S : Sto} {y : RV} {p : List Nat} {v : Nat} (h1 : f ρ S = .ok (.d (tN p)) S) (h2 : g ρ S = .ok y S) (h4 : val S y = some (.int (v : Int))) (h : v ∈ p) : eIndex f g ρ S = .ok (.d (.int (p.idxOf v : Int))) S := by
  unfold eIndex
  rw [ev_b h1, if_pos (show isSeqRV (.d (tN p)) = true from rfl), ev_b h2]
  simp only [h4, val_d, index_tN h]
theorem es_sub1 {fo fi f : Den} {b : Nat} {ρ : Env} {S : Sto} {j i : Nat} {d : D} {ds : List D} (hf : f ρ S = .ok (.d d) S) (ho : fo ρ S = .ok (.m j) S) (hi : fi ρ S = .ok (.d (.int (i : Int))) S) (hj : S[j]? = some (.lst ds)) (hl : i < ds.length) :
    sSub1 fo fi f b ρ S = .nx ρ (S.set j (.lst (ds.set i d))) := by
  unfold sSub1
  rw [es_b hf]
  simp only
  unfold wr1
  rw [es_b ho, es_b hi]
  simp only [hj]
  have e : ixN ds.length (i : Int) = some i := by
    unfold ixN
    simp [hl]
  rw [e]
  rfl
theorem nd_set (f : List Nat) (i v : Nat) : (nd f).set i (.int (v : Int)) = nd (f.set i v) := by simp [nd, List.map_set]
theorem store_last (S : Sto) (c c' : Cell) : (S ++ [c]).set S.length c' = S ++ [c'] := by simp
theorem store_at (S : Sto) (c : Cell) : (S ++ [c])[S.length]? = some c := by simp
theorem store_take (S : Sto) (c : Cell) : (S ++ [c]).take S.length = S := by simp
theorem rep0 {n : Nat} (h : n ≤ 60) : dRep (.list [.int 0]) (.int (n : Int)) = some (.list (nd (List.replicate n 0))) := by
  unfold dRep
  simp only
  rw [if_pos]
  · have : ∀ m : Nat, (List.replicate m [PyData.int 0]).flatten = nd (List.replicate m 0) := by
      intro m
      induction m with
      | zero => rfl
      | succ m ih => simp [List.replicate_succ, ih, nd]
    rw [this]
    rfl
  · have := line2 h
    refine ⟨by omega, by omega, ?_⟩
    simpa using this
theorem loopC2_pure {j j1 : Nat} {it1 : ItDen} {t1 f : Den} {vs1 : List Nat} {ρw : Env} {S : Sto} (g : D → List D) (tb : D → D → Bool) (fd : D → D) {B : Nat} : ∀ {ds acc : List D}, (∀ d ∈ ds, it1 (ρw.set j (some (.d d))) S = .ok none (g d) S ∧ (g d).length ≤ B ∧ ∀ e ∈ g d, t1 ((wipeE (ρw.set j (some (.d d))) vs1).set j1 (some (.d e))) S = .ok (.d (.bool (tb d e))) S ∧ (tb d e = true → f ((wipeE (ρw.set j (some (.d d))) vs1).set j1 (some (.d e))) S = .ok (.d (fd e)) S)) → acc.length + ds.length * B ≤ sizeLine →
    loopC2 (.nm j) tYesD it1 (.nm j1) t1 f vs1 ρw acc ds S = .ok (acc ++ ds.flatMap fun d => ((g d).filter (tb d)).map fd) S
  | [], acc, _, _ => by
    unfold loopC2
    simp
  | d :: ds, acc, h, hl => by
    obtain ⟨h1, hB, h2⟩ := h d List.mem_cons_self
    rw [List.length_cons, Nat.succ_mul] at hl
    have c : (((g d).filter (tb d)).map fd).length ≤ B := by
      rw [List.length_map]
      exact Nat.le_trans (List.length_filter_le _ _) hB
    unfold loopC2
    simp only [setP, tYesD, h1]
    rw [loopC_pure (tb d) fd h2 (by omega)]
    simp only
    rw [loopC2_pure g tb fd (fun e he => h e (List.mem_cons_of_mem _ he)) (by rw [List.length_append]; omega)]
    simp
theorem line3600 {n : Nat} (h : n ≤ 3600) : n ≤ sizeLine := Nat.le_trans h (by unfold sizeLine; omega)
theorem vLen_list (S : Sto) (ds : List D) : vLen S [.d (.list ds)] = some (.int (ds.length : Int)) := rfl
theorem ev_comp2 {it it1 : ItDen} {p p1 : Pat} {t1 f : Den} {vs vs1 : List Nat} {ρ : Env} {S S' S2 : Sto} {ds out : List D} (h : it ρ S = .ok none ds S') (z : loopC2 p tYesD it1 p1 t1 f vs1 (wipeE ρ vs) [] ds S' = .ok out S2) : eComp2 it p tYesD it1 p1 t1 f vs vs1 ρ S = .ok (.d (.list out)) S2 := by
  unfold eComp2
  rw [h]
  simp only [z]
def TapeOk (c : Cell) : Prop := ∃ (ns : List Int) (pos rest h : Nat), c = .lst [.list (zd ns), .int (pos : Int), .int (rest : Int), .int (h : Int)]
theorem ev_mk2 {np n : Nat} {body : SDen} {rs : List RV} {S S' S2 : Sto} {d : D} (hl : rs.length = np) (h : body S.length (envOf n rs) S = .rt d S') (hS : S'.take S.length = S2) : mk np n body rs S = .rt d S2 := by
  unfold mk
  rw [if_pos hl, h]
  simp only [hS]
theorem dMod_nat {a b : Nat} (h : b ≠ 0) : dMod (.int (a : Int)) (.int (b : Int)) = some (.int ((a % b : Nat) : Int)) := by
  simp only [dMod]
  rw [if_pos (by omega), Int.fmod_eq_emod_of_nonneg _ (by omega)]
  rfl
theorem dFdiv_nat {a b : Nat} (h : b ≠ 0) (hb : b < 1073741824) : dFdiv (.int (a : Int)) (.int (b : Int)) = some (.int ((a / b : Nat) : Int)) := by
  simp only [dFdiv]
  rw [if_pos ⟨by omega, by omega⟩, Int.fdiv_eq_ediv_of_nonneg _ (by omega)]
  rfl
theorem dAdd_nat (a b : Nat) : dAdd (.int (a : Int)) (.int (b : Int)) = some (.int ((a + b : Nat) : Int)) := by
  simp [dAdd]
theorem dMul_nat (a : Nat) {b : Nat} (h : b < 2 ^ 64) : dMul (.int (a : Int)) (.int (b : Int)) = some (.int ((a * b : Nat) : Int)) := by
  have : small64b (b : Int) = true := by
    unfold small64b
    simp only [Bool.and_eq_true, decide_eq_true_eq]
    omega
  simp [dMul, this]
theorem len_set {S : Sto} (j : Nat) (c : Cell) : (S.set j c).take S.length = S.set j c := by
  rw [show S.length = (S.set j c).length from by simp, List.take_length]
theorem ix_tape {S : Sto} {j : Nat} {ds : List D} {d : D} {i : Nat} {ρ : Env} (hr : ρ[0]? = some (some (.m j))) (hj : S[j]? = some (.lst ds)) (hd : ds[i]? = some d) : eOp dIx (eVar 0) (eC (.int (i : Int))) ρ S = .ok (.d d) S :=
  ev_op (ev_var hr) (ev_c _ _ _) (val_m hj) rfl (dIx_nat hd).2
theorem next_tail {S : Sto} {j : Nat} {ns : List Int} {pos r0 h : Nat} {many rest : Nat} (hm : 1 ≤ many) (hm2 : many ≤ 100) (hj : S[j]? = some (.lst [.list (zd ns), .int (pos : Int), .int (r0 : Int), .int (h : Int)])) (b : Nat) (o : Option RV) :
    (sSeq (sSub1 (eVar 0) (eC (.int 2)) (eOp dFdiv (eVar 2) (eVar 1))) (sRet (eOp dMod (eCallV (v1 dInt) (aCons (eVar 2) aNil)) (eVar 1)))) b [some (.m j), some (.d (.int (many : Int))), some (.d (.int (rest : Int))), o] S
      = .rt (.int ((rest % many : Nat) : Int)) ((S.set j (.lst [.list (zd ns), .int (pos : Int), .int ((rest / many : Nat) : Int), .int (h : Int)])).take b) := by
  refine (es_seq (es_sub1 (i := 2) (ev_op (ev_var rfl) (ev_var rfl) rfl rfl (dFdiv_nat (a := rest) (b := many) (by omega) (by omega))) (ev_var rfl) (ev_c _ _ _) hj (show 2 < 4 from by decide))).trans ?_
  exact es_ret (ev_op (ev_cv (ev_a1 (ev_var rfl)) rfl) (ev_var rfl) rfl rfl (dMod_nat (by omega)))
theorem pow18 (ρ : Env) (S : Sto) : eOp dPow (eC (.int 10)) (eC (.int 18)) ρ S = .ok (.d (.int 1000000000000000000)) S := by
  refine ev_op (ev_c _ _ _) (ev_c _ _ _) rfl rfl ?_
  simp only [dPow]
  rw [if_pos (by decide)]
  rfl
theorem abs_nat (i : Int) : dAbs (.int i) = some (.int (i.natAbs : Int)) := by
  simp only [dAbs]
  congr 2
  split <;> omega
theorem dLt_int (i j : Int) : dLt (.int i) (.int j) = some (.bool (decide (i < j))) := rfl
theorem es_seq_congr {s s' t : SDen} {b : Nat} {ρ ρ' : Env} {S S' : Sto} (h : s b ρ S = s' b ρ' S') : sSeq s t b ρ S = sSeq s' t b ρ' S' := by
  unfold sSeq
  rw [h]
theorem es_par {i j : Nat} {fs : DenA} {b : Nat} {ρ : Env} {S S' : Sto} {u v : RV} (h : fs ρ S = .ok [u, v] S') : sPar i j fs b ρ S = .nx ((ρ.set i (some u)).set j (some v)) S' := by
  unfold sPar
  rw [h]
theorem ev_meth {op : List D → List D → Option (D × List D)} {f : Den} {fs : DenA} {ρ : Env} {S S' S2 : Sto} {j : Nat} {rs : List RV} {as ds ds' : List D} {r : D} (h1 : f ρ S = .ok (.m j) S') (h2 : fs ρ S' = .ok rs S2) (h3 : datas rs = some as) (h4 : S2[j]? = some (.lst ds)) (h5 : op ds as = some (r, ds')) : eMeth op f fs ρ S = .ok (.d r) (S2.set j (.lst ds')) := by
  unfold eMeth
  rw [ev_b h1]
  simp only
  unfold aB
  simp only [h2, h3, h4, h5]
theorem two_len (S : Sto) (a b : Cell) : S ++ [a, b] = (S ++ [a]) ++ [b] := by simp
theorem two_set0 (S : Sto) (a b c : Cell) : (S ++ [a, b]).set S.length c = S ++ [c, b] := by simp [List.set_append_right]
theorem two_set1 (S : Sto) (a b c : Cell) : (S ++ [a, b]).set (S.length + 1) c = S ++ [a, c] := by simp [List.set_append_right]
theorem two_at0 (S : Sto) (a b : Cell) : (S ++ [a, b])[S.length]? = some a := by simp
theorem two_at1 (S : Sto) (a b : Cell) : (S ++ [a, b])[S.length + 1]? = some b := by simp
theorem two_take (S : Sto) (a b : Cell) : (S ++ [a, b]).take S.length = S := by simp
theorem pop_nd {l : List Nat} {v : Nat} (h : v < l.length) (hl : l.length ≤ 60) : mPopAt (nd l) [.int (v : Int)] = some (.int (at0 l v : Int), nd (l.eraseIdx v)) := by
  simp only [mPopAt]
  rw [if_pos (by omega)]
  have e : seqIndex? (v : Int) (nd l).length = some v := by
    rw [nd_len]
    unfold seqIndex?
    have q : ¬ (v : Int) < 0 := by omega
    simp [q, h]
  rw [e]
  simp only [nd_get h, Option.map_some]
  rw [at0_eq h]
  congr 2
  unfold nd
  simp [List.eraseIdx_eq_take_drop_succ, List.map_take, List.map_drop]
theorem app_nd {l : List Nat} (x : Nat) (hl : l.length < 1000) : mAppend (nd l) [.int (x : Int)] = some (.none, nd (l ++ [x])) := by
  simp only [mAppend]
  rw [if_pos (by rw [nd_len]; exact Nat.lt_of_lt_of_le hl (Nat.le_trans (by decide) (line3600 (Nat.le_refl _))))]
  simp [nd]
theorem list_rg1 {n : Nat} (h : n ≤ 100) : dRg1 false (.int (n : Int)) = some (.list (nd (List.range n))) := by
  have r : rgOk 0 (n : Int) = true := by
    unfold rgOk
    simp only [Bool.and_eq_true, decide_eq_true_eq]
    omega
  simp [dRg1, r, rangeD_nd]
theorem tup_rg1 {n : Nat} (h : n ≤ 100) : dRg1 true (.int (n : Int)) = some (tN (List.range n)) := by
  have r : rgOk 0 (n : Int) = true := by
    unfold rgOk
    simp only [Bool.and_eq_true, decide_eq_true_eq]
    omega
  simp [dRg1, r, rangeD_nd, tN]
def okd : Nat → D → Bool
  | _, .none => true
  | _, .bool _ => true
  | _, .int _ => true
  | _, .str x => PyData.strOk x
  | k + 1, .list ds => decide (ds.length ≤ 100000) && ds.all (okd k)
  | k + 1, .tuple ds => decide (ds.length ≤ 100000) && ds.all (okd k)
  | _, _ => false
theorem flat_eq {d : D} (h : nice 0 d = true) : dEq d d = some (.bool true) := by
  unfold dEq
  rw [nice_shaped h (by decide), nice_eqv 0 d h]
  rfl
theorem okd_nd (k : Nat) {l : List Nat} (h : l.length ≤ 100000) : okd (k + 1) (tN l) = true ∧ okd (k + 1) (.list (nd l)) = true := by
  have a : (nd l).all (okd k) = true := List.all_eq_true.mpr fun x hx => by
    obtain ⟨i, _, rfl⟩ := mem_nd hx
    cases k <;> rfl
  have b : (nd l).length ≤ 100000 := by rw [nd_len]; exact h
  constructor
  · show (decide ((nd l).length ≤ 100000) && (nd l).all (okd k)) = true
    rw [a, decide_eq_true b]
    rfl
  · show (decide ((nd l).length ≤ 100000) && (nd l).all (okd k)) = true
    rw [a, decide_eq_true b]
    rfl
theorem fuel_big : 5000 < fuel := by
  unfold fuel
  decide
theorem dSub1 {k : Nat} (h : 1 ≤ k) : dSub (.int (k : Int)) (.int 1) = some (.int ((k - 1 : Nat) : Int)) := by
  simp only [dSub]
  congr 2
  omega
theorem wr1_ev {fo fi : Den} {d : D} {kk : SDen} {b : Nat} {ρ : Env} {S : Sto} {j i : Nat} {ds : List D} (ho : fo ρ S = .ok (.m j) S) (hi : fi ρ S = .ok (.d (.int (i : Int))) S) (hj : S[j]? = some (.lst ds)) (hl : i < ds.length) : wr1 fo fi d kk b ρ S = kk b ρ (S.set j (.lst (ds.set i d))) := by
  unfold wr1
  rw [es_b ho, es_b hi]
  simp only [hj]
  have e : ixN ds.length (i : Int) = some i := by
    unfold ixN
    simp [hl]
  rw [e]
theorem ne_nil_nd (l : List Nat) : dNe (.list (nd l)) (.list []) = some (.bool (!decide (l = []))) := by
  rw [nd_zd]
  refine (dNe_zd _ []).1.trans ?_
  simp
theorem ev_slice {f : Den} {ρ : Env} {S : Sto} {x : RV} {lo hi : Option Den} {i j : Option Int} {a c : D} (h : f ρ S = .ok x S) (hlo : ∀ k : Option Int → Den, optB lo k ρ S = k i ρ S) (hhi : ∀ k : Option Int → Den, optB hi k ρ S = k j ρ S) (hv : val S x = some a) (hs : dSl a i j = some c) : eSlice f lo hi ρ S = .ok (.d c) S := by
  unfold eSlice
  rw [ev_b h, hlo, hhi]
  unfold slRest
  simp only [hv, hs]
theorem ev_op2 {op : D → D → Option D} {f g : Den} {ρ : Env} {S S' S2 : Sto} {x y : RV} {a b c : D} (h1 : f ρ S = .ok x S') (h2 : g ρ S' = .ok y S2) (h3 : val S2 x = some a) (h4 : val S2 y = some b) (h5 : op a b = some c) : eOp op f g ρ S = .ok (.d c) S2 := by
  unfold eOp eB
  simp only [h1, h2, h3, h4, h5]
theorem okd_up {l : List D} (h : okd 2 (.list l) = true) : okd 7 (.list l) = true := by
  have key : ∀ (k m : Nat) (d : D), okd k d = true → k ≤ m → okd m d = true := by
    intro k
    induction k with
    | zero =>
      intro m d h _
      cases d <;> first
        | (cases m <;> rfl)
        | (cases m <;> exact h)
        | cases h
    | succ k ih =>
      intro m d h hm
      cases m with
      | zero => omega
      | succ m =>
        cases d with
        | none => rfl
        | bool b => rfl
        | int b => rfl
        | str x => exact h
        | dict b => cases h
        | list ds =>
          have h' : (decide (ds.length ≤ 100000) && ds.all (okd k)) = true := h
          rw [Bool.and_eq_true] at h'
          show (decide (ds.length ≤ 100000) && ds.all (okd m)) = true
          rw [Bool.and_eq_true]
          exact ⟨h'.1, List.all_eq_true.mpr fun x hx => ih m x (List.all_eq_true.mp h'.2 x hx) (by omega)⟩
        | tuple ds =>
          have h' : (decide (ds.length ≤ 100000) && ds.all (okd k)) = true := h
          rw [Bool.and_eq_true] at h'
          show (decide (ds.length ≤ 100000) && ds.all (okd m)) = true
          rw [Bool.and_eq_true]
          exact ⟨h'.1, List.all_eq_true.mpr fun x hx => ih m x (List.all_eq_true.mp h'.2 x hx) (by omega)⟩
  exact key 2 7 _ h (by decide)
theorem opt_none (k : Option Int → Den) (ρ : Env) (S : Sto) : optB none k ρ S = k none ρ S := rfl
theorem opt_some {l : Den} {i : Int} {ρ : Env} {S : Sto} (h : l ρ S = .ok (.d (.int i)) S) (k : Option Int → Den) : optB (some l) k ρ S = k (some i) ρ S := by
  show eB l _ ρ S = _
  rw [ev_b h]
theorem add_tup {a b : List D} (h : a.length + b.length ≤ 100) : dAdd (.tuple a) (.tuple b) = some (.tuple (a ++ b)) := by
  simp only [dAdd]
  rw [if_pos (le_line h)]
theorem add_list {a b : List D} (h : a.length + b.length ≤ 100) : dAdd (.list a) (.list b) = some (.list (a ++ b)) := by
  simp only [dAdd]
  rw [if_pos (le_line h)]
theorem es_parT2 {i j : Nat} {f g : Den} {b : Nat} {ρ : Env} {S S' S2 : Sto} {u v : RV} (h : f ρ S = .ok u S') (h2 : g ρ S' = .ok v S2) : sParT [i, j] (aCons f (aCons g aNil)) b ρ S = .nx ((ρ.set i (some u)).set j (some v)) S2 := by
  unfold sParT
  rw [ev_ac h (ev_a1 h2)]
  simp [setsV]
theorem okd_row {ds : List D} (hl : ds.length ≤ 100000) (h : ∀ d ∈ ds, okd 6 d = true) : okd 7 (.list ds) = true := by
  show (decide (ds.length ≤ 100000) && ds.all (okd 6)) = true
  rw [decide_eq_true hl, List.all_eq_true.mpr h]
  rfl
theorem dSum_nd (l : List Nat) : dSum (.list (nd l)) = some (.int (l.sum : Int)) := by
  simp only [dSum]
  rw [nd_zd, intsD_zd]
  simp only [Option.map_some]
  congr 2
  induction l with
  | nil => rfl
  | cons a l ih => simp [ih]
theorem w_get {ρ : Env} {j i : Nat} {d : D} (h : j < ρ.length) (hi : i ≠ j) : ((wipeE ρ [j]).set j (some (.d d)))[i]? = ρ[i]? := by
  simp only [wipeE]
  rw [List.getElem?_set_ne (Ne.symm hi), List.getElem?_set_ne (Ne.symm hi)]
theorem w_self {ρ : Env} {j : Nat} {d : D} (h : j < ρ.length) : ((wipeE ρ [j]).set j (some (.d d)))[j]? = some (some (.d d)) := by
  simp only [wipeE]
  exact List.getElem?_set_self (by simpa using h)
theorem w_len {ρ : Env} {j : Nat} {d : D} : ((wipeE ρ [j]).set j (some (.d d))).length = ρ.length := by simp [wipeE]
theorem mul2 (x : Int) : dMul (.tuple [.int x]) (.int 2) = some (.tuple [.int x, .int x]) := by
  unfold dMul
  simp only
  rw [if_pos]
  · rfl
  · refine ⟨by simp, by decide, by decide, by simp⟩
end DL

end
section
set_option Elab.async false
set_option linter.all false
set_option maxRecDepth 100000
set_option maxHeartbeats 1000000
/-! free reduction of rows of signs: x and -x are opposite -/
namespace FG
/-- put a sign on a stack, top first -/
def psh (x : Int) : List Int → List Int
  | [] => [x]
  | y :: s => if y = -x then s else x :: y :: s
def act : List Int → List Int → List Int
  | [], s => s
  | x :: l, s => act l (psh x s)
def Red : List Int → Prop
  | [] => True
  | [_] => True
  | x :: y :: s => y ≠ -x ∧ Red (y :: s)
def fr (l : List Int) : List Int := (act l []).reverse
def inv (l : List Int) : List Int := l.reverse.map (fun x => -x)
theorem act_append : ∀ (a b s : List Int), act (a ++ b) s = act b (act a s)
  | [], _, _ => rfl
  | x :: a, b, s => act_append a b (psh x s)
theorem red_tail {x : Int} : ∀ {s : List Int}, Red (x :: s) → Red s
  | [], _ => trivial
  | _ :: _, h => h.2
theorem red_psh (x : Int) : ∀ {s : List Int}, Red s → Red (psh x s)
  | [], _ => trivial
  | y :: s, h => by
    show Red (if y = -x then s else x :: y :: s)
    by_cases hy : y = -x
    · rw [if_pos hy]
      exact red_tail h
    · rw [if_neg hy]
      exact ⟨hy, h⟩
theorem red_act : ∀ (l : List Int) {s : List Int}, Red s → Red (act l s)
  | [], _, h => h
  | x :: l, _, h => red_act l (red_psh x h)
theorem psh_psh (x : Int) : ∀ {s : List Int}, Red s → psh (-x) (psh x s) = s
  | [], _ => by simp [psh]
  | y :: s, h => by
    show psh (-x) (if y = -x then s else x :: y :: s) = y :: s
    by_cases hy : y = -x
    · rw [if_pos hy]
      cases s with
      | nil => simp [psh, hy]
      | cons z t =>
        have hz : z ≠ -y := h.1
        show (if z = - -x then t else -x :: z :: t) = y :: z :: t
        rw [if_neg (by omega), hy]
    · rw [if_neg hy]
      show (if x = - -x then y :: s else _) = _
      rw [if_pos (by omega)]
def Eqv (a b : List Int) : Prop := ∀ s, Red s → act a s = act b s
theorem Eqv.rfl {a : List Int} : Eqv a a := fun _ _ => Eq.refl _
theorem Eqv.symm {a b : List Int} (h : Eqv a b) : Eqv b a := fun s hs => (h s hs).symm
theorem Eqv.trans {a b c : List Int} (h : Eqv a b) (h2 : Eqv b c) : Eqv a c := fun s hs => (h s hs).trans (h2 s hs)
theorem Eqv.app {a b c d : List Int} (h : Eqv a b) (h2 : Eqv c d) : Eqv (a ++ c) (b ++ d) := fun s hs => by
  rw [act_append, act_append, h s hs, h2 _ (red_act b hs)]
theorem Eqv.of_eq {a b : List Int} (h : a = b) : Eqv a b := h ▸ Eqv.rfl
theorem eqv_pair (x : Int) : Eqv [x, -x] [] := fun s hs => psh_psh x hs
theorem eqv_pair' {x y : Int} (h : y = -x) : Eqv [x, y] [] := h ▸ eqv_pair x
theorem inv_nil : inv [] = [] := rfl
theorem inv_append (a b : List Int) : inv (a ++ b) = inv b ++ inv a := by
  unfold inv
  rw [List.reverse_append, List.map_append]
theorem inv_cons (x : Int) (l : List Int) : inv (x :: l) = inv l ++ [-x] := by
  unfold inv
  simp
theorem inv_inv (l : List Int) : inv (inv l) = l := by
  unfold inv
  rw [← List.map_reverse, List.reverse_reverse, List.map_map]
  have : ((fun x : Int => -x) ∘ fun x => -x) = id := funext fun x => by simp
  rw [this, List.map_id]
theorem inv_len (l : List Int) : (inv l).length = l.length := by simp [inv]
theorem mul_inv : ∀ l : List Int, Eqv (l ++ inv l) []
  | [] => Eqv.rfl
  | x :: l => by
    rw [inv_cons, List.cons_append, ← List.append_assoc]
    have h := mul_inv l
    have z : Eqv ([x] ++ ((l ++ inv l) ++ [-x])) ([x] ++ ([] ++ [-x])) := Eqv.rfl.app (h.app Eqv.rfl)
    exact z.trans (eqv_pair x)
theorem inv_mul (l : List Int) : Eqv (inv l ++ l) [] := by
  have z := mul_inv (inv l)
  rwa [inv_inv] at z
theorem Eqv.inv {a b : List Int} (h : Eqv a b) : Eqv (inv a) (inv b) := by
  have h1 : Eqv (FG.inv a ++ (b ++ FG.inv b)) (FG.inv a ++ []) := Eqv.rfl.app (mul_inv b)
  have h2 : Eqv ((FG.inv a ++ a) ++ FG.inv b) ([] ++ FG.inv b) := (inv_mul a).app Eqv.rfl
  have h3 : Eqv (FG.inv a ++ (a ++ FG.inv b)) (FG.inv a ++ (b ++ FG.inv b)) := Eqv.rfl.app (h.app Eqv.rfl)
  rw [List.append_nil] at h1
  rw [List.append_assoc] at h2
  exact (h1.symm.trans h3.symm).trans h2
theorem red_drop : ∀ (m : List Int) {s : List Int}, Red (m ++ s) → Red s
  | [], _, h => h
  | _ :: m, _, h => red_drop m (red_tail h)
theorem red_rev_act : ∀ (l s : List Int), Red (l.reverse ++ s) → act l s = l.reverse ++ s
  | [], _, _ => rfl
  | x :: l, s, h => by
    rw [List.reverse_cons, List.append_assoc] at h
    have hs : Red ([x] ++ s) := red_drop l.reverse h
    have hp : psh x s = x :: s := by
      cases s with
      | nil => rfl
      | cons y s => exact if_neg hs.1
    show act l (psh x s) = _
    rw [hp, red_rev_act l (x :: s) h, List.reverse_cons, List.append_assoc]
    rfl
theorem red_snoc : ∀ (l : List Int) (x y : Int), Red (l ++ [x]) → y ≠ -x → Red (l ++ [x, y])
  | [], x, y, _, h => ⟨h, trivial⟩
  | [z], x, y, h, hy => ⟨h.1, hy, trivial⟩
  | z :: w :: l, x, y, h, hy => ⟨h.1, red_snoc (w :: l) x y h.2 hy⟩
theorem red_reverse : ∀ {l : List Int}, Red l → Red l.reverse
  | [], _ => trivial
  | [_], _ => trivial
  | x :: y :: l, h => by
    have ih := red_reverse h.2
    rw [List.reverse_cons] at ih
    rw [List.reverse_cons, List.reverse_cons, List.append_assoc]
    exact red_snoc _ _ _ ih (by have := h.1; omega)
theorem fr_red (l : List Int) : Red (fr l) := red_reverse (red_act l (s := []) trivial)
theorem fr_of_red {l : List Int} (h : Red l) : fr l = l := by
  unfold fr
  rw [red_rev_act l [] (by rw [List.append_nil]; exact red_reverse h), List.append_nil, List.reverse_reverse]
theorem psh_rev (x : Int) : ∀ t : List Int, Eqv (psh x t).reverse (t.reverse ++ [x])
  | [] => Eqv.rfl
  | y :: t => by
    show Eqv (if y = -x then t else x :: y :: t).reverse _
    by_cases hy : y = -x
    · rw [if_pos hy, List.reverse_cons, List.append_assoc]
      have z : Eqv (t.reverse ++ [y, x]) (t.reverse ++ []) := Eqv.rfl.app (eqv_pair' (by omega))
      rw [List.append_nil] at z
      exact z.symm
    · rw [if_neg hy, List.reverse_cons]
      exact Eqv.rfl
theorem act_rev : ∀ (l t : List Int), Eqv (act l t).reverse (t.reverse ++ l)
  | [], t => by rw [List.append_nil]; exact Eqv.rfl
  | x :: l, t => by
    have z := (act_rev l (psh x t)).trans ((psh_rev x t).app Eqv.rfl)
    rw [List.append_assoc] at z
    exact z
theorem fr_eqv (l : List Int) : Eqv (fr l) l := by
  have z := act_rev l []
  exact z
theorem fr_eq {a b : List Int} (h : Eqv a b) : fr a = fr b := by
  unfold fr
  rw [h [] trivial]
theorem eqv_of_fr {a b : List Int} (h : fr a = fr b) : Eqv a b := (fr_eqv a).symm.trans ((Eqv.of_eq h).trans (fr_eqv b))
theorem fr_unique {a b : List Int} (h : Eqv a b) (hr : Red a) : a = fr b := by
  rw [← fr_of_red hr]
  exact fr_eq h
theorem psh_len (x : Int) : ∀ s : List Int, (psh x s).length ≤ s.length + 1
  | [] => Nat.le_refl _
  | y :: s => by
    show (if y = -x then s else x :: y :: s).length ≤ _
    split <;> simp
    omega
theorem act_len : ∀ (l s : List Int), (act l s).length ≤ s.length + l.length
  | [], _ => Nat.le_refl _
  | x :: l, s => by
    have a := act_len l (psh x s)
    have b := psh_len x s
    show (act l (psh x s)).length ≤ s.length + (l.length + 1)
    omega
theorem fr_len (l : List Int) : (fr l).length ≤ l.length := by
  have z := act_len l []
  simpa [fr] using z
/-! substitution -/
def sub (f : Int → List Int) (l : List Int) : List Int := l.flatMap f
def Odd (f : Int → List Int) : Prop := ∀ x, f (-x) = inv (f x)
theorem sub_nil (f : Int → List Int) : sub f [] = [] := rfl
theorem sub_cons (f : Int → List Int) (x : Int) (l : List Int) : sub f (x :: l) = f x ++ sub f l := by simp [sub]
theorem sub_append (f : Int → List Int) (a b : List Int) : sub f (a ++ b) = sub f a ++ sub f b := by simp [sub]
theorem sub_one (f : Int → List Int) (x : Int) : sub f [x] = f x := by simp [sub]
theorem sub_inv {f : Int → List Int} (h : Odd f) : ∀ l, sub f (inv l) = inv (sub f l)
  | [] => rfl
  | x :: l => by rw [inv_cons, sub_append, sub_inv h l, sub_one, h, sub_cons, inv_append]
theorem sub_psh {f : Int → List Int} (h : Odd f) (x : Int) : ∀ t : List Int, Eqv (sub f (psh x t).reverse) (sub f (t.reverse ++ [x]))
  | [] => Eqv.rfl
  | y :: t => by
    show Eqv (sub f (if y = -x then t else x :: y :: t).reverse) _
    by_cases hy : y = -x
    · rw [if_pos hy, List.reverse_cons, List.append_assoc, sub_append]
      have e : sub f ([y] ++ [x]) = inv (f x) ++ f x := by rw [sub_append, sub_one, sub_one, hy, h]
      rw [e]
      have z : Eqv (sub f t.reverse ++ (inv (f x) ++ f x)) (sub f t.reverse ++ []) := Eqv.rfl.app (inv_mul _)
      rw [List.append_nil] at z
      exact z.symm
    · rw [if_neg hy, List.reverse_cons]
      exact Eqv.rfl
theorem sub_act {f : Int → List Int} (h : Odd f) : ∀ (l t : List Int), Eqv (sub f (act l t).reverse) (sub f (t.reverse ++ l))
  | [], t => by rw [List.append_nil]; exact Eqv.rfl
  | x :: l, t => by
    have z := sub_act h l (psh x t)
    rw [sub_append] at z
    have z2 := z.trans ((sub_psh h x t).app (Eqv.rfl (a := sub f l)))
    rw [← sub_append, List.append_assoc] at z2
    exact z2
theorem sub_fr {f : Int → List Int} (h : Odd f) (l : List Int) : Eqv (sub f (fr l)) (sub f l) := sub_act h l []
theorem Eqv.sub {f : Int → List Int} (h : Odd f) {a b : List Int} (e : Eqv a b) : Eqv (sub f a) (sub f b) := by
  have z := fr_eq e
  exact (sub_fr h a).symm.trans ((Eqv.of_eq (by rw [z])).trans (sub_fr h b))
end FG

end
section
set_option Elab.async false
set_option linter.all false
set_option maxRecDepth 100000
set_option maxHeartbeats 4000000
/-! images of signs by letters -/
namespace FG
def imgP (l : Int) (s : Int) : List Int :=
  if 0 < l then (if s = l then [l, l + 1, -l] else if s = l + 1 then [l] else [s])
  else (if s = -l then [-l + 1] else if s = -l + 1 then [-(-l) - 1, -l, -l + 1] else [s])
def img (l : Int) (x : Int) : List Int := if 0 < x then imgP l x else inv (imgP l (-x))
theorem img_odd {l : Int} (hl : l ≠ 0) : Odd (img l) := by
  intro x
  unfold img
  by_cases h : 0 < x
  · rw [if_pos h, if_neg (by omega), show - -x = x from by omega]
  · rw [if_neg h]
    by_cases h0 : x = 0
    · subst h0
      have e : imgP l 0 = [0] := by
        unfold imgP
        by_cases hl' : 0 < l
        · rw [if_pos hl', if_neg (by omega), if_neg (by omega)]
        · rw [if_neg hl', if_neg (by omega), if_neg (by omega)]
      simp [e, inv]
    · rw [if_pos (by omega), inv_inv]
/-- all letters from the last one on -/
def phi : List Int → List Int → List Int
  | [], t => t
  | l :: w, t => sub (img l) (phi w t)
theorem phi_append : ∀ (a b t : List Int), phi (a ++ b) t = phi a (phi b t)
  | [], _, _ => rfl
  | l :: a, b, t => by
    show sub (img l) (phi (a ++ b) t) = sub (img l) (phi a (phi b t))
    rw [phi_append a b t]
theorem phi_cat : ∀ (w a b : List Int), phi w (a ++ b) = phi w a ++ phi w b
  | [], _, _ => rfl
  | l :: w, a, b => by
    show sub (img l) (phi w (a ++ b)) = _
    rw [phi_cat w a b, sub_append]
    rfl
theorem phi_nil : ∀ w : List Int, phi w [] = []
  | [] => rfl
  | l :: w => by
    show sub (img l) (phi w []) = _
    rw [phi_nil w]
    rfl
def NZ (w : List Int) : Prop := ∀ l ∈ w, l ≠ 0
theorem phi_inv : ∀ {w : List Int}, NZ w → ∀ t, phi w (inv t) = inv (phi w t)
  | [], _, _ => rfl
  | l :: w, h, t => by
    show sub (img l) (phi w (inv t)) = inv (sub (img l) (phi w t))
    rw [phi_inv (fun x hx => h x (List.mem_cons_of_mem _ hx)) t, sub_inv (img_odd (h l List.mem_cons_self))]
theorem phi_eqv : ∀ {w : List Int}, NZ w → ∀ {a b : List Int}, Eqv a b → Eqv (phi w a) (phi w b)
  | [], _, _, _, e => e
  | l :: w, h, _, _, e => Eqv.sub (img_odd (h l List.mem_cons_self)) (phi_eqv (fun x hx => h x (List.mem_cons_of_mem _ hx)) e)
/-! up to six strands -/
def S6 : List Int := [-6, -5, -4, -3, -2, -1, 1, 2, 3, 4, 5, 6]
def L5 : List Int := [-5, -4, -3, -2, -1, 1, 2, 3, 4, 5]
theorem img_S6 : ∀ l ∈ L5, ∀ s ∈ S6, ∀ x ∈ img l s, x ∈ S6 := by decide
theorem L5_nz : ∀ l ∈ L5, l ≠ 0 := by decide
theorem phi_S6 : ∀ {w : List Int}, (∀ l ∈ w, l ∈ L5) → ∀ {t : List Int}, (∀ s ∈ t, s ∈ S6) → ∀ x ∈ phi w t, x ∈ S6
  | [], _, _, ht => ht
  | l :: w, h, t, ht => by
    intro x hx
    obtain ⟨s, hs, hx⟩ := List.mem_flatMap.mp (show x ∈ (phi w t).flatMap (img l) from hx)
    exact img_S6 l (h l List.mem_cons_self) s (phi_S6 (fun x hx => h x (List.mem_cons_of_mem _ hx)) ht s hs) x hx
theorem phi_agree {a b : List Int} (h : ∀ s ∈ S6, fr (phi a [s]) = fr (phi b [s])) : ∀ {t : List Int}, (∀ s ∈ t, s ∈ S6) → Eqv (phi a t) (phi b t)
  | [], _ => by rw [phi_nil, phi_nil]; exact Eqv.rfl
  | s :: t, ht => by
    have e : s :: t = [s] ++ t := rfl
    rw [e, phi_cat, phi_cat]
    exact (eqv_of_fr (h s (ht s List.mem_cons_self))).app (phi_agree h fun x hx => ht x (List.mem_cons_of_mem _ hx))
/-- one word for another within a word -/
def One (a b : List Int) : Prop := ∀ t : List Int, (∀ s ∈ t, s ∈ S6) → Eqv (phi a t) (phi b t)
theorem One.refl (a : List Int) : One a a := fun _ _ => Eqv.rfl
theorem One.trans {a b c : List Int} (h : One a b) (h2 : One b c) : One a c := fun t ht => (h t ht).trans (h2 t ht)
theorem One.symm {a b : List Int} (h : One a b) : One b a := fun t ht => (h t ht).symm
theorem One.within {a b : List Int} (h : One a b) {u v : List Int} (hu : ∀ l ∈ u, l ∈ L5) (hv : ∀ l ∈ v, l ∈ L5) : One (u ++ a ++ v) (u ++ b ++ v) := by
  intro t ht
  rw [List.append_assoc, List.append_assoc, phi_append, phi_append, phi_append u, phi_append b]
  exact phi_eqv (fun l hl => L5_nz l (hu l hl)) (h _ (phi_S6 hv ht))
theorem one_of {a b : List Int} (h : ∀ s ∈ S6, fr (phi a [s]) = fr (phi b [s])) : One a b := fun _ ht => phi_agree h ht
theorem move0 : ∀ l ∈ L5, One [] [l, -l] := by
  intro l hl
  refine one_of ?_
  revert l
  decide
theorem move1 : ∀ a ∈ L5, ∀ b ∈ L5, (((a.natAbs : Int) - b.natAbs).natAbs : Nat) > 1 → One [a, b] [b, a] := by
  intro a ha b hb h
  refine one_of ?_
  revert h b a
  decide
def sg (x : Int) : Int := if 0 < x then 1 else -1
theorem move2 : ∀ a ∈ L5, ∀ b ∈ L5, (((a.natAbs : Int) - b.natAbs).natAbs : Nat) = 1 → One [a, b] [0 - sg a * b.natAbs, sg b * a.natAbs, sg a * b.natAbs, sg a * a.natAbs] ∧ ∀ l ∈ [0 - sg a * b.natAbs, sg b * a.natAbs, sg a * b.natAbs, sg a * a.natAbs], l ∈ L5 := by
  intro a ha b hb h
  refine ⟨one_of ?_, ?_⟩
  · revert h b a
    decide
  · revert h b a
    decide
/-! loops -/
def numI (n : Nat) : List Int := (List.range n).map fun (i : Nat) => ((i + 1 : Nat) : Int)
theorem prod_one : ∀ n ∈ [1, 2, 3, 4, 5, 6], ∀ l ∈ L5, l.natAbs < n → fr (phi [l] (numI n)) = fr (numI n) := by decide
theorem num_S6 : ∀ n ∈ [1, 2, 3, 4, 5, 6], ∀ x ∈ numI n, x ∈ S6 := by decide
theorem num_red : ∀ n ∈ [1, 2, 3, 4, 5, 6], fr (numI n) = numI n := by decide
theorem prod_all {n : Nat} (hn : n ∈ [1, 2, 3, 4, 5, 6]) : ∀ {w : List Int}, (∀ l ∈ w, l ∈ L5 ∧ l.natAbs < n) → Eqv (phi w (numI n)) (numI n)
  | [], _ => Eqv.rfl
  | l :: w, h => by
    have ih := prod_all hn (w := w) fun x hx => h x (List.mem_cons_of_mem _ hx)
    have hl := h l List.mem_cons_self
    refine (Eqv.sub (img_odd (L5_nz l hl.1)) ih).trans ?_
    exact eqv_of_fr (prod_one n hn l hl.1 hl.2)
def loopT (n : Nat) (w : List Int) : List (List Int) := (List.range n).map fun (p : Nat) => fr (phi w [((p + 1 : Nat) : Int)])
end FG

end
section
set_option Elab.async false
set_option linter.all false
set_option maxRecDepth 100000
set_option maxHeartbeats 4000000
/-! loops by letters from the first one on -/
namespace FG
def txt (T : List (List Int)) (i : Nat) : List Int := T.getD i []
def stepT (T : List (List Int)) (l : Int) : List (List Int) :=
  if 0 < l then (T.set (l.natAbs - 1) (fr (txt T (l.natAbs - 1) ++ txt T l.natAbs ++ inv (txt T (l.natAbs - 1))))).set l.natAbs (txt T (l.natAbs - 1))
  else (T.set (l.natAbs - 1) (txt T l.natAbs)).set l.natAbs (fr (inv (txt T l.natAbs) ++ txt T (l.natAbs - 1) ++ txt T l.natAbs))
def bigT (T : List (List Int)) (l : Int) : Bool := decide (20000 < max (txt T (l.natAbs - 1)).length (txt T l.natAbs).length)
def runT : List (List Int) → List Int → Option (List (List Int))
  | T, [] => some T
  | T, l :: w => if bigT (stepT T l) l then none else runT (stepT T l) w
theorem loop_len (n : Nat) (w : List Int) : (loopT n w).length = n := by simp [loopT]
theorem loop_at {n : Nat} (w : List Int) {i : Nat} (h : i < n) : (loopT n w)[i]? = some (fr (phi w [((i + 1 : Nat) : Int)])) := by
  simp [loopT, h]
theorem loop_txt {n : Nat} (w : List Int) {i : Nat} (h : i < n) : txt (loopT n w) i = fr (phi w [((i + 1 : Nat) : Int)]) := by
  unfold txt
  rw [List.getD_eq_getElem?_getD, loop_at w h]
  rfl
theorem step_len (T : List (List Int)) (l : Int) : (stepT T l).length = T.length := by
  unfold stepT
  split <;> simp
theorem fr_eqv' {a b : List Int} (h : Eqv a b) : Eqv (fr a) b := (fr_eqv a).trans h
theorem step_loop {n : Nat} {w : List Int} {l : Int} (hw : NZ w) (hl : l ≠ 0) (hn : l.natAbs < n) : stepT (loopT n w) l = loopT n (w ++ [l]) := by
  have h1 : 1 ≤ l.natAbs := by omega
  have ek : ∀ x : Int, phi (w ++ [l]) [x] = phi w (img l x) := by
    intro x
    rw [phi_append]
    show phi w (sub (img l) [x]) = _
    rw [sub_one]
  have ea := loop_txt w (n := n) (i := l.natAbs - 1) (by omega)
  have eb := loop_txt w (n := n) (i := l.natAbs) hn
  rw [show l.natAbs - 1 + 1 = l.natAbs from by omega] at ea
  have two : ∀ x y z : Int, phi w [x, y, z] = phi w [x] ++ phi w [y] ++ phi w [z] := by
    intro x y z
    rw [← phi_cat, ← phi_cat]
    rfl
  apply List.ext_getElem?
  intro i
  by_cases hi : i < n
  · rw [loop_at _ hi, ek]
    unfold stepT
    by_cases hp : 0 < l
    · rw [if_pos hp, ea, eb]
      have ll : ((l.natAbs : Nat) : Int) = l := by omega
      by_cases e1 : i = l.natAbs
      · subst e1
        rw [List.getElem?_set_self (by simp [loop_len, hn])]
        congr 2
        unfold img imgP
        rw [if_pos (by omega), if_pos hp, if_neg (by omega), if_pos (by omega), ll]
      · rw [List.getElem?_set_ne (Ne.symm e1)]
        by_cases e2 : i = l.natAbs - 1
        · subst e2
          rw [List.getElem?_set_self (by simp [loop_len]; omega)]
          congr 1
          apply fr_eq
          have e : img l ((l.natAbs - 1 + 1 : Nat) : Int) = [l, l + 1, -l] := by
            unfold img imgP
            rw [if_pos (by omega), if_pos hp, if_pos (by omega)]
          rw [e, two]
          refine Eqv.app (Eqv.app ?_ ?_) ?_
          · rw [ll]
            exact fr_eqv _
          · rw [show ((l.natAbs + 1 : Nat) : Int) = l + 1 from by omega]
            exact fr_eqv _
          · rw [ll]
            have := phi_inv hw [l]
            rw [show inv [l] = [-l] from rfl] at this
            rw [this]
            exact (fr_eqv _).inv
        · rw [List.getElem?_set_ne (Ne.symm e2), loop_at _ hi]
          congr 2
          unfold img imgP
          rw [if_pos (by omega), if_pos hp, if_neg (by omega), if_neg (by omega)]
    · rw [if_neg hp, ea, eb]
      have ll : ((l.natAbs : Nat) : Int) = -l := by omega
      by_cases e1 : i = l.natAbs
      · subst e1
        rw [List.getElem?_set_self (by simp [loop_len, hn])]
        congr 1
        apply fr_eq
        have e : img l ((l.natAbs + 1 : Nat) : Int) = [-(-l + 1), -l, -l + 1] := by
          unfold img imgP
          rw [if_pos (by omega), if_neg hp, if_neg (by omega), if_pos (by omega)]
          congr 1
          omega
        rw [e, two]
        refine Eqv.app (Eqv.app ?_ ?_) ?_
        · rw [show ((l.natAbs + 1 : Nat) : Int) = -l + 1 from by omega]
          have := phi_inv hw [-l + 1]
          rw [show inv [-l + 1] = [-(-l + 1)] from rfl] at this
          rw [this]
          exact (fr_eqv _).inv
        · rw [ll]
          exact fr_eqv _
        · rw [show ((l.natAbs + 1 : Nat) : Int) = -l + 1 from by omega]
          exact fr_eqv _
      · rw [List.getElem?_set_ne (Ne.symm e1)]
        by_cases e2 : i = l.natAbs - 1
        · subst e2
          rw [List.getElem?_set_self (by simp [loop_len]; omega)]
          congr 2
          unfold img imgP
          rw [if_pos (by omega), if_neg hp, if_pos (by omega), show ((l.natAbs + 1 : Nat) : Int) = -l + 1 from by omega]
        · rw [List.getElem?_set_ne (Ne.symm e2), loop_at _ hi]
          congr 2
          unfold img imgP
          rw [if_pos (by omega), if_neg hp, if_neg (by omega), if_neg (by omega)]
  · rw [List.getElem?_eq_none (by rw [step_len, loop_len]; omega), List.getElem?_eq_none (by rw [loop_len]; omega)]
theorem run_loop {n : Nat} : ∀ {v w : List Int} {T : List (List Int)}, NZ w → (∀ l ∈ v, l ≠ 0 ∧ l.natAbs < n) → runT (loopT n w) v = some T → T = loopT n (w ++ v)
  | [], w, T, _, _, h => by
    rw [List.append_nil]
    exact (Option.some.inj h).symm
  | l :: v, w, T, hw, hv, h => by
    have hl := hv l List.mem_cons_self
    unfold runT at h
    rw [step_loop hw hl.1 hl.2] at h
    split at h
    · cases h
    · have z := run_loop (v := v) (w := w ++ [l]) (by
        intro x hx
        rcases List.mem_append.mp hx with hx | hx
        · exact hw x hx
        · rw [List.mem_singleton.mp hx]; exact hl.1) (fun x hx => hv x (List.mem_cons_of_mem _ hx)) h
      rw [z, List.append_assoc]
      rfl
def initT (n : Nat) : List (List Int) := (List.range n).map fun (p : Nat) => [((p + 1 : Nat) : Int)]
theorem init_loop (n : Nat) : initT n = loopT n [] := by
  unfold initT loopT
  refine List.map_congr_left fun p _ => ?_
  rfl
def loops (n : Nat) (w : List Int) : Option (List (List Int)) := runT (initT n) w
theorem loops_ok {n : Nat} {w : List Int} {T : List (List Int)} (hw : ∀ l ∈ w, l ≠ 0 ∧ l.natAbs < n) (h : loops n w = some T) : T = loopT n w := by
  unfold loops at h
  rw [init_loop] at h
  exact run_loop (w := []) (fun x hx => by cases hx) hw h
/-- texts from the last letter on -/
def backT : List Int → List Int → List Int
  | [], t => t
  | l :: w, t => fr (sub (img l) (backT w t))
theorem back_ok' : ∀ {w : List Int}, NZ w → ∀ {t : List Int}, Red t → backT w t = fr (phi w t)
  | [], _, t, ht => (fr_of_red ht).symm
  | l :: w, h, t, ht => by
    have hw : NZ w := fun x hx => h x (List.mem_cons_of_mem _ hx)
    show fr (sub (img l) (backT w t)) = fr (sub (img l) (phi w t))
    rw [back_ok' hw ht]
    exact fr_eq (sub_fr (img_odd (h l List.mem_cons_self)) _)
theorem loop_one {n : Nat} (hn : n ≤ 6) {a b : List Int} (h : One a b) : loopT n a = loopT n b := by
  unfold loopT
  refine List.map_congr_left fun p hp => ?_
  rw [List.mem_range] at hp
  refine fr_eq (h _ ?_)
  intro s hs
  rw [List.mem_singleton.mp hs]
  have : p = 0 ∨ p = 1 ∨ p = 2 ∨ p = 3 ∨ p = 4 ∨ p = 5 := by omega
  rcases this with rfl | rfl | rfl | rfl | rfl | rfl <;> decide
theorem join_loop {n : Nat} (hn : n ∈ [1, 2, 3, 4, 5, 6]) {w : List Int} (hw : ∀ l ∈ w, l ∈ L5 ∧ l.natAbs < n) : fr ((loopT n w).flatten) = numI n := by
  have key : ∀ l : List Int, Eqv ((l.map fun x => fr (phi w [x])).flatten) (phi w l) := by
    intro l
    induction l with
    | nil => rw [phi_nil]; exact Eqv.rfl
    | cons x l ih =>
      rw [show x :: l = [x] ++ l from rfl, phi_cat, List.map_append, List.flatten_append]
      refine Eqv.app ?_ ih
      simp
      exact fr_eqv _
  have e : (loopT n w) = (numI n).map fun x => fr (phi w [x]) := by
    unfold loopT numI
    rw [List.map_map]
    rfl
  rw [e, fr_eq (key _), fr_eq (prod_all hn hw), num_red n hn]
end FG

end
section
set_option Elab.async false
set_option linter.all false
set_option maxRecDepth 100000
set_option maxHeartbeats 4000000
namespace DL
open PySem PySem.Spec PyProof.Rows L2 FG
theorem mill_line {n : Nat} (h : n ≤ 1000000) : n ≤ sizeLine := Nat.le_trans h (by unfold sizeLine; omega)
theorem last_ix (l : List Int) (y : Int) : dIx (.list (zd (l ++ [y]))) (.int (-1)) = some (.int y) := by
  show atI (zd (l ++ [y])) (-1) = _
  unfold atI ixN
  have e : (zd (l ++ [y])).length = l.length + 1 := by simp [zd]
  rw [e]
  rw [if_neg (by omega), if_pos (by omega)]
  have e2 : (-1 + ((l.length : Int) + 1)).toNat = l.length := by omega
  simp [zd, e2]
theorem pop_zd (l : List Int) (y : Int) : mPop (zd (l ++ [y])) [] = some (.int y, zd l) := by
  unfold mPop
  simp [zd]
theorem app_zd (l : List Int) (y : Int) (h : l.length < 1000000) : mAppend (zd l) [.int y] = some (.none, zd (l ++ [y])) := by
  have := mill_line (n := l.length + 1) (by omega)
  show (if (zd l).length < sizeLine then some (PyData.none, zd l ++ [PyData.int y]) else none) = _
  rw [if_pos (by rw [zd_len]; omega)]
  simp [zd]
theorem nil_lst (ρ : Env) (S : Sto) : eFz (eLst aNil) ρ S = .ok (.d (.list (zd []))) S := ev_fz (ev_lst (show aNil _ _ = _ from rfl) rfl (Nat.zero_le _))
theorem free_step {fneg : Den} {a : Option RV} {x : Int} {j b : Nat} {s : List Int} {S : Sto} (hneg : ∀ S, fneg [a, some (.m j), some (.d (.int x))] S = .ok (.d (.int (-x))) S) (hj : S[j]? = some (.lst (zd s.reverse))) (hl : s.length < 1000000) :
    (sIf (eAnd (eOp dNe (eVar 1) (eFz (eLst aNil))) (eOp dEq (eOp dIx (eVar 1) (eUn dNeg (eC (.int 1)))) fneg)) (sExpr (eMeth mPop (eVar 1) aNil)) (sExpr (eMeth mAppend (eVar 1) (aCons (eVar 2) aNil)))) b [a, some (.m j), some (.d (.int x))] S
      = .nx [a, some (.m j), some (.d (.int x))] (S.set j (.lst (zd (psh x s).reverse))) := by
  have happ : sExpr (eMeth mAppend (eVar 1) (aCons (eVar 2) aNil)) b [a, some (.m j), some (.d (.int x))] S = .nx [a, some (.m j), some (.d (.int x))] (S.set j (.lst (zd (s.reverse ++ [x])))) :=
    es_expr (ev_meth (ev_var rfl) (ev_a1 (ev_var rfl)) rfl hj (app_zd _ _ (by simpa using hl)))
  cases s with
  | nil =>
    refine (es_ifF (ev_andF (ev_op (ev_var rfl) (nil_lst _ _) (val_m hj) rfl ((dNe_zd _ _).1.trans (by simp))))).trans ?_
    exact happ
  | cons y s =>
    rw [List.reverse_cons] at hj
    have c1 : eOp dNe (eVar 1) (eFz (eLst aNil)) [a, some (.m j), some (.d (.int x))] S = .ok (.d (.bool true)) S := ev_op (ev_var rfl) (nil_lst _ _) (val_m hj) rfl ((dNe_zd _ _).1.trans (by simp))
    have c2 : eOp dEq (eOp dIx (eVar 1) (eUn dNeg (eC (.int 1)))) fneg [a, some (.m j), some (.d (.int x))] S = .ok (.d (.bool (y == -x))) S := ev_op (ev_op (ev_var rfl) (ev_un (ev_c _ _ _) rfl rfl) (val_m hj) rfl (last_ix _ _)) (hneg S) rfl rfl (dEq_int _ _)
    by_cases h : y = -x
    · refine (es_ifT (S' := S) ((ev_andT c1).trans (c2.trans (by simp [h])))).trans ?_
      refine (es_expr (ev_meth (ev_var rfl) (show aNil _ _ = .ok [] _ from rfl) rfl hj (pop_zd _ _))).trans ?_
      show _ = SOut.nx _ (S.set j (.lst (zd (if y = -x then s else x :: y :: s).reverse)))
      rw [if_pos h]
    · refine (es_ifF (S' := S) ((ev_andT c1).trans (c2.trans (by simp [h])))).trans ?_
      refine happ.trans ?_
      show _ = SOut.nx _ (S.set j (.lst (zd (if y = -x then s else x :: y :: s).reverse)))
      rw [if_neg h, List.reverse_cons (a := x)]
theorem zd_get {l : List Int} {i : Nat} {d : D} (h : (zd l)[i]? = some d) : ∃ hi : i < l.length, d = .int l[i] := by
  unfold zd at h
  rw [List.getElem?_map] at h
  by_cases hi : i < l.length
  · rw [List.getElem?_eq_getElem hi] at h
    exact ⟨hi, (Option.some.inj h).symm⟩
  · rw [List.getElem?_eq_none (by omega)] at h
    cases h
theorem act_take {l : List Int} {i : Nat} (h : i < l.length) : act (l.take (i + 1)) [] = psh l[i] (act (l.take i) []) := by
  rw [List.take_succ_eq_append_getElem h, act_append]
  rfl
theorem free_loop {fneg : Den} {b : Nat} {l : List Int} (hneg : ∀ a j x S, fneg [a, some (.m j), some (.d (.int x))] S = .ok (.d (.int (-x))) S) (hl : l.length ≤ 1000000) (a r0 : Option RV) (S0 : Sto) :
    ∃ r, loopF (.nm 2) (sIf (eAnd (eOp dNe (eVar 1) (eFz (eLst aNil))) (eOp dEq (eOp dIx (eVar 1) (eUn dNeg (eC (.int 1)))) fneg)) (sExpr (eMeth mPop (eVar 1) aNil)) (sExpr (eMeth mAppend (eVar 1) (aCons (eVar 2) aNil)))) b none (zd l) (zd l) [a, some (.m S0.length), r0] (S0 ++ [.lst []])
      = .nx [a, some (.m S0.length), r] (S0 ++ [.lst (zd (fr l))]) := by
  obtain ⟨ρ', S', e, ⟨r, rfl⟩, rfl⟩ := loopF_inv (j := 2) (b := b) (s := sIf (eAnd (eOp dNe (eVar 1) (eFz (eLst aNil))) (eOp dEq (eOp dIx (eVar 1) (eUn dNeg (eC (.int 1)))) fneg)) (sExpr (eMeth mPop (eVar 1) aNil)) (sExpr (eMeth mAppend (eVar 1) (aCons (eVar 2) aNil)))) (src := none) (all := zd l) (ds := zd l) (i := 0)
    (ρ := [a, some (.m S0.length), r0]) (S := S0 ++ [.lst []])
    (fun i ρ S => (∃ r, ρ = [a, some (.m S0.length), r]) ∧ S = S0 ++ [.lst (zd (act (l.take i) []).reverse)]) ⟨⟨r0, rfl⟩, rfl⟩ (by
      rintro k d ρ S hd ⟨⟨r, rfl⟩, rfl⟩
      obtain ⟨hk, rfl⟩ := zd_get hd
      rw [Nat.zero_add]
      refine ⟨_, _, free_step (s := act (l.take k) []) (x := l[k]) (fun S => hneg _ _ _ _) (store_at _ _) ?_, rfl, ⟨_, rfl⟩, ?_⟩
      · have := act_len (l.take k) []
        rw [List.length_take] at this
        simp at this
        omega
      · rw [store_last, act_take hk])
  refine ⟨r, ?_⟩
  rw [e, zd_len, Nat.zero_add, List.take_length]
  rfl
theorem es_ret_m {f : Den} {b : Nat} {ρ : Env} {S S' : Sto} {j : Nat} {ds : List D} (h : f ρ S = .ok (.m j) S') (hj : S'[j]? = some (.lst ds)) (hb : b ≤ j) : sRet f b ρ S = .rt (.list ds) (S'.take b) := by
  unfold sRet sB
  rw [h]
  show (if b ≤ j then (match S'[j]? with
    | some (.lst ds) => SOut.rt (.list ds) (S'.take b)
    | none => .no) else .no) = _
  rw [if_pos hb, hj]
theorem map_zd (f : Int → Int) (l : List Int) (g : D → D) (h : ∀ i, g (.int i) = .int (f i)) : (zd l).map g = zd (l.map f) := by
  unfold zd
  rw [List.map_map, List.map_map]
  exact List.map_congr_left fun i _ => h i
theorem mem_zd {l : List Int} {d : D} (h : d ∈ zd l) : ∃ i ∈ l, d = .int i := by
  obtain ⟨i, hi, rfl⟩ := List.mem_map.mp h
  exact ⟨i, hi, rfl⟩
def iOf : D → Int
  | .int i => i
  | _ => 0
theorem zd_rev (l : List Int) : (zd l).reverse = zd l.reverse := by simp [zd]
theorem neg_rev {g : Den} {j : Nat} {ρ : Env} {S : Sto} {l : List Int} (h : g ρ S = .ok (.d (.list (zd l))) S) (hj : j < ρ.length) (hl : l.length ≤ 1000000) : eFz (eComp (iSeq (eUn dRev g)) (.nm j) tYesD (eOp dSub (eC (.int 0)) (eVar j)) [j]) ρ S = .ok (.d (.list (zd (inv l)))) S := by
  refine ev_fz ?_
  rw [ev_compM (fun d => .int (0 - iOf d)) (ds := zd l.reverse) (ev_seqL (ev_un h rfl (by show some (PyData.list (zd l).reverse) = _; rw [zd_rev]))) (fun d hd => ?_) (by rw [zd_len, List.length_reverse]; exact mill_line hl), map_zd (fun i => 0 - i) _ _ (fun i => rfl)]
  · congr 4
    unfold inv
    exact List.map_congr_left fun i _ => by omega
  · obtain ⟨i, _, rfl⟩ := mem_zd hd
    exact ev_op (ev_c _ _ _) (ev_var (w_self hj)) rfl rfl rfl
def Let (n : Nat) (x : Int) : Prop := 1 ≤ x.natAbs ∧ x.natAbs < n
instance (n : Nat) (x : Int) : Decidable (Let n x) := inferInstanceAs (Decidable (_ ∧ _))
theorem chain_let (n : Nat) (x : Int) {f g : Den} {ρ : Env} {S : Sto} (hf : f ρ S = .ok (.d (.int (x.natAbs : Int))) S) (hg : g ρ S = .ok (.d (.int (n : Int))) S) : eChain (eC (.int 1)) [(dLe, f), (dLt, g)] ρ S = .ok (.d (.bool (decide (Let n x)))) S := by
  unfold eChain
  rw [ev_b (ev_c _ _ _)]
  unfold chainD
  rw [ev_b hf]
  unfold Let
  by_cases h : 1 ≤ x.natAbs
  · have h' : (1 : Int) ≤ x.natAbs := by omega
    by_cases h2 : x.natAbs < n
    · have h2' : ((x.natAbs : Nat) : Int) < n := by omega
      simp only [h, h2, and_self, decide_true]
      simp [dLe, h', chainD, eB, hg, val_d, dLt, h2']
    · have h2' : ¬ ((x.natAbs : Nat) : Int) < n := by omega
      simp only [h2, and_false, decide_false]
      simp [dLe, h', chainD, eB, hg, val_d, dLt, h2']
  · have h' : ¬ (1 : Int) ≤ x.natAbs := by omega
    simp only [h, false_and, decide_false]
    simp [dLe, h', chainD, eB, eC, val_d]
theorem zd_ix {l : List Int} {i : Nat} (h : i < l.length) : (zd l)[i]? = some (.int l[i]) := by
  unfold zd
  rw [List.getElem?_map, List.getElem?_eq_getElem h]
  rfl
def cc : Bool → List D → D
  | true => .tuple
  | false => .list
def rw2 (c : Bool) (T : List (List Int)) : List D := T.map fun t => cc c (zd t)
theorem rw2_len (c : Bool) (T : List (List Int)) : (rw2 c T).length = T.length := by simp [rw2]
theorem rw2_set (c : Bool) (T : List (List Int)) (i : Nat) (t : List Int) : (rw2 c T).set i (cc c (zd t)) = rw2 c (T.set i t) := by simp [rw2, List.map_set]
theorem rw2_get (c : Bool) {T : List (List Int)} {i : Nat} (h : i < T.length) : (rw2 c T)[i]? = some (cc c (zd (txt T i))) := by
  unfold rw2 txt
  rw [List.getElem?_map, List.getElem?_eq_getElem h, List.getD_eq_getElem?_getD, List.getElem?_eq_getElem h]
  rfl
theorem cc_len (c : Bool) (t : List Int) (S : Sto) : vLen S [.d (cc c (zd t))] = some (.int (t.length : Int)) := by
  cases c
  · show some (PyData.int ((zd t).length : Int)) = _
    rw [zd_len]
  · show some (PyData.int ((zd t).length : Int)) = _
    rw [zd_len]
theorem es_subs2 {a c b : Nat} {ρ : Env} {S : Sto} {j k : Nat} {xs : List D} {u v : D} {f : Den} (ha : ρ[a]? = some (some (.m j))) (hc : ρ[c]? = some (some (.d (.int (k : Int))))) (hj : S[j]? = some (.lst xs)) (h1 : 1 ≤ k) (h2 : k < xs.length) (hf : f ρ S = .ok (.d (.tuple [u, v])) S) :
    sSubs [((eVar a), (eOp dSub (eVar c) (eC (.int 1)))), ((eVar a), (eVar c))] f b ρ S = .nx ρ (S.set j (.lst ((xs.set (k - 1) u).set k v))) := by
  have hjl : j < S.length := (List.getElem?_eq_some_iff.mp hj).1
  have km : ∀ T, eOp dSub (eVar c) (eC (.int 1)) ρ T = .ok (.d (.int ((k - 1 : Nat) : Int))) T := fun T => ev_op (ev_var hc) (ev_c _ _ _) rfl rfl (dSub1 h1)
  unfold sSubs
  rw [es_b hf]
  simp only [List.length_cons, List.length_nil, if_true]
  unfold storeD
  rw [wr1_ev (ev_var ha) (km S) hj (by omega)]
  unfold storeD
  rw [wr1_ev (ev_var ha) (ev_var hc) (List.getElem?_set_self hjl) (by rw [List.length_set]; exact h2)]
  unfold storeD
  rw [List.set_set]
theorem zd_app (a b : List Int) : zd a ++ zd b = zd (a ++ b) := by simp [zd]
theorem add_c (c : Bool) {a b : List Int} (h : a.length + b.length ≤ 1000000) : dAdd (cc c (zd a)) (cc c (zd b)) = some (cc c (zd (a ++ b))) := by
  have := mill_line h
  cases c
  · show dAdd (.list (zd a)) (.list (zd b)) = _
    simp only [dAdd]
    rw [if_pos (by rw [zd_len, zd_len]; exact this), zd_app]
    rfl
  · show dAdd (.tuple (zd a)) (.tuple (zd b)) = _
    simp only [dAdd]
    rw [if_pos (by rw [zd_len, zd_len]; exact this), zd_app]
    rfl
theorem row_ix {c : Bool} {T : List (List Int)} {a : Nat} {f : Den} {i : Nat} {ρ : Env} {S : Sto} {j : Nat} (ha : ρ[a]? = some (some (.m j))) (hj : S[j]? = some (.lst (rw2 c T))) (hf : f ρ S = .ok (.d (.int (i : Int))) S) (hi : i < T.length) : eOp dIx (eVar a) f ρ S = .ok (.d (cc c (zd (txt T i)))) S :=
  ev_op (ev_var ha) hf (val_m hj) rfl (dIx_nat (rw2_get c hi)).2
theorem loopC_st {j : Nat} {f : Den} {ρw : Env} (I : List D → Sto → Prop) : ∀ {ds acc : List D} {S : Sto}, I acc S → (∀ d ∈ ds, ∀ acc S, I acc S → ∃ v S', f (ρw.set j (some (.d d))) S = .ok (.d v) S' ∧ I (acc ++ [v]) S') → acc.length + ds.length ≤ sizeLine →
    ∃ out S', loopC (.nm j) tYesD f ρw none acc ds S = .ok out S' ∧ I out S' ∧ out.length = acc.length + ds.length
  | [], acc, S, h0, _, _ => ⟨acc, S, rfl, h0, rfl⟩
  | d :: ds, acc, S, h0, h, hl => by
    rw [List.length_cons] at hl
    obtain ⟨v, S1, e, h1⟩ := h d List.mem_cons_self acc S h0
    obtain ⟨out, S2, e2, h2, hl2⟩ := loopC_st I (ds := ds) h1 (fun d hd => h d (List.mem_cons_of_mem _ hd)) (by rw [List.length_append, List.length_singleton]; omega)
    refine ⟨out, S2, ?_, h2, ?_⟩
    · unfold loopC
      simp only [setP, tYesD, e]
      rw [if_pos (by omega)]
      exact e2
    · rw [hl2, List.length_append, List.length_singleton, List.length_cons]
      omega
theorem ev_compS {it : ItDen} {j : Nat} {f : Den} {vs : List Nat} {ρ : Env} {S S' S2 : Sto} {ds out : List D} (hi : it ρ S = .ok none ds S') (z : loopC (.nm j) tYesD f (wipeE ρ vs) none [] ds S' = .ok out S2) : eComp it (.nm j) tYesD f vs ρ S = .ok (.d (.list out)) S2 := by
  unfold eComp
  rw [hi]
  simp only [show gd none ds tYesD = tYesD from rfl, z]
  rfl
theorem s64 {i : Int} (h1 : -1000 ≤ i) (h2 : i ≤ 1000) : small64b i = true := by
  unfold small64b
  simp only [Bool.and_eq_true, decide_eq_true_eq]
  omega
theorem dMul_s {i j : Int} (h1 : -1000 ≤ i) (h2 : i ≤ 1000) : dMul (.int i) (.int j) = some (.int (i * j)) := by
  simp [dMul, s64 h1 h2]
theorem set_set_at {S : Sto} {j : Nat} {c c' : Cell} (h : j < S.length) : (S.set j c)[j]? = some c := List.getElem?_set_self h
theorem zd_snoc (l : List Int) (x : Int) : zd l ++ [.int x] = zd (l ++ [x]) := by simp [zd]
theorem eif_b {t f f' : Den} {ρ : Env} {S : Sto} {b : Bool} (h : t ρ S = .ok (.d (.bool b)) S) : eIf t f f' ρ S = if b then f ρ S else f' ρ S := by
  unfold eIf
  rw [ev_b h]
  cases b <;> rfl
theorem eqI {f g : Den} {ρ : Env} {S : Sto} {i j : Int} (h1 : f ρ S = .ok (.d (.int i)) S) (h2 : g ρ S = .ok (.d (.int j)) S) : eOp dEq f g ρ S = .ok (.d (.bool (decide (i = j)))) S :=
  ev_op h1 h2 rfl rfl ((dEq_int i j).trans (by by_cases h : i = j <;> simp [h]))
theorem gtI {f : Den} {ρ : Env} {S : Sto} {i : Int} (h1 : f ρ S = .ok (.d (.int i)) S) : eOp dGt f (eC (.int 0)) ρ S = .ok (.d (.bool (decide (0 < i)))) S :=
  ev_op h1 (ev_c _ _ _) rfl rfl rfl
theorem lst1 {f : Den} {ρ : Env} {S : Sto} {i : Int} (h1 : f ρ S = .ok (.d (.int i)) S) : eFz (eLst (aCons f aNil)) ρ S = .ok (.d (.list (zd [i]))) S :=
  ev_fz (ev_lst (ev_a1 h1) rfl (le_line (show 1 ≤ 100 from by decide)))
theorem lst3 {f g h : Den} {ρ : Env} {S : Sto} {i j k : Int} (h1 : f ρ S = .ok (.d (.int i)) S) (h2 : g ρ S = .ok (.d (.int j)) S) (h3 : h ρ S = .ok (.d (.int k)) S) : eFz (eLst (aCons f (aCons g (aCons h aNil)))) ρ S = .ok (.d (.list (zd [i, j, k]))) S :=
  ev_fz (ev_lst (ev_ac h1 (ev_ac h2 (ev_a1 h3))) rfl (le_line (show 3 ≤ 100 from by decide)))
theorem cut_lo (l : List Int) (k : Nat) : dSl (.list (zd l)) none (some (k : Int)) = some (.list (zd (l.take k))) := by
  show some (PyData.list (dCut (zd l) none (some (k : Int)))) = _
  unfold dCut
  rw [HT.sIx_none, HT.sIx_nat, List.drop_zero, Nat.sub_zero, zd_len]
  congr 2
  unfold zd
  rw [← List.map_take]
  congr 1
  by_cases h : k ≤ l.length
  · rw [Nat.min_eq_left h]
  · rw [Nat.min_eq_right (by omega), List.take_of_length_le (Nat.le_refl _), List.take_of_length_le (by omega)]
theorem cut_hi (l : List Int) (k : Nat) : dSl (.list (zd l)) (some (k : Int)) none = some (.list (zd (l.drop k))) := by
  show some (PyData.list (dCut (zd l) (some (k : Int)) none)) = _
  unfold dCut
  rw [HT.sIx_none, HT.sIx_nat, zd_len]
  congr 2
  unfold zd
  rw [← List.map_drop, ← List.map_take]
  congr 1
  by_cases h : k ≤ l.length
  · rw [Nat.min_eq_left h, List.take_of_length_le (by rw [List.length_drop]; omega)]
  · rw [Nat.min_eq_right (by omega), Nat.sub_self, List.take_zero, List.drop_eq_nil_of_le (by omega)]
theorem sl_lo {f g : Den} {ρ : Env} {S : Sto} {l : List Int} {k : Nat} (h : f ρ S = .ok (.d (.list (zd l))) S) (hg : g ρ S = .ok (.d (.int (k : Int))) S) : eSlice f none (some g) ρ S = .ok (.d (.list (zd (l.take k)))) S :=
  ev_slice h (fun k => opt_none k _ _) (opt_some hg) rfl (cut_lo l k)
theorem sl_hi {f g : Den} {ρ : Env} {S : Sto} {l : List Int} {k : Nat} (h : f ρ S = .ok (.d (.list (zd l))) S) (hg : g ρ S = .ok (.d (.int (k : Int))) S) : eSlice f (some g) none ρ S = .ok (.d (.list (zd (l.drop k)))) S :=
  ev_slice h (opt_some hg) (fun k => opt_none k _ _) rfl (cut_hi l k)
theorem add_z {a b : List Int} (h : a.length + b.length ≤ 1000000) : dAdd (.list (zd a)) (.list (zd b)) = some (.list (zd (a ++ b))) := add_c false h
theorem split2 {l : List Int} {i : Nat} (h : i + 1 < l.length) : l = l.take i ++ [l[i], l[i + 1]] ++ l.drop (i + 2) := by
  conv => lhs; rw [← List.take_append_drop i l]
  rw [List.append_assoc]
  congr 1
  rw [List.drop_eq_getElem_cons (by omega), List.drop_eq_getElem_cons (by omega)]
  rfl
theorem ltI {f g : Den} {ρ : Env} {S : Sto} {i j : Int} (h1 : f ρ S = .ok (.d (.int i)) S) (h2 : g ρ S = .ok (.d (.int j)) S) : eOp dLt f g ρ S = .ok (.d (.bool (decide (i < j)))) S := ev_op h1 h2 rfl rfl rfl
theorem gtI2 {f g : Den} {ρ : Env} {S : Sto} {i j : Int} (h1 : f ρ S = .ok (.d (.int i)) S) (h2 : g ρ S = .ok (.d (.int j)) S) : eOp dGt f g ρ S = .ok (.d (.bool (decide (j < i)))) S := ev_op h1 h2 rfl rfl rfl
theorem lenL {a : Nat} {ρ : Env} {S : Sto} {l : List Int} (h : ρ[a]? = some (some (.d (.list (zd l))))) : eCallV vLen (aCons (eVar a) aNil) ρ S = .ok (.d (.int (l.length : Int))) S := ev_cv (ev_a1 (ev_var h)) (cc_len false l S)
theorem ixL {a : Nat} {f : Den} {ρ : Env} {S : Sto} {l : List Int} {i : Nat} (h : ρ[a]? = some (some (.d (.list (zd l))))) (hf : f ρ S = .ok (.d (.int (i : Int))) S) (hi : i < l.length) : eOp dIx (eVar a) f ρ S = .ok (.d (.int l[i])) S := ev_op (ev_var h) hf rfl rfl (dIx_nat (zd_ix hi)).2
theorem sg_or (x : Int) : sg x = 1 ∨ sg x = -1 := by
  unfold sg
  split
  · exact Or.inl rfl
  · exact Or.inr rfl
theorem let_mul {n : Nat} {x y : Int} (h : Let n y) : Let n (sg x * (y.natAbs : Int)) ∧ Let n (0 - sg x * (y.natAbs : Int)) := by
  unfold Let at *
  rcases sg_or x with e | e <;> rw [e] <;> omega
theorem okd_int (k : Nat) (i : Int) : okd k (.int i) = true := by cases k <;> rfl
theorem okd_zd (k : Nat) {l : List Int} (h : l.length ≤ 100000) : okd (k + 1) (.tuple (zd l)) = true := by
  show (decide ((zd l).length ≤ 100000) && (zd l).all (okd k)) = true
  rw [Bool.and_eq_true, decide_eq_true_eq, zd_len]
  refine ⟨h, List.all_eq_true.mpr fun x hx => ?_⟩
  obtain ⟨i, _, rfl⟩ := mem_zd hx
  exact okd_int k i
theorem mem_rw2 {c : Bool} {T : List (List Int)} {d : D} (h : d ∈ rw2 c T) : ∃ i, i < T.length ∧ d = cc c (zd (txt T i)) := by
  obtain ⟨i, hi, e⟩ := List.getElem_of_mem h
  rw [rw2_len] at hi
  have z := rw2_get c hi
  rw [List.getElem?_eq_getElem (by rw [rw2_len]; exact hi), e] at z
  exact ⟨i, hi, Option.some.inj z⟩
theorem okd_tupm (k : Nat) {ds : List D} (hl : ds.length ≤ 100000) (h : ∀ d ∈ ds, okd k d = true) : okd (k + 1) (.tuple ds) = true := by
  show (decide (ds.length ≤ 100000) && ds.all (okd k)) = true
  rw [Bool.and_eq_true, decide_eq_true_eq]
  exact ⟨hl, List.all_eq_true.mpr h⟩
theorem okd_lstm (k : Nat) {ds : List D} (hl : ds.length ≤ 100000) (h : ∀ d ∈ ds, okd k d = true) : okd (k + 1) (.list ds) = true := by
  show (decide (ds.length ≤ 100000) && ds.all (okd k)) = true
  rw [Bool.and_eq_true, decide_eq_true_eq]
  exact ⟨hl, List.all_eq_true.mpr h⟩
theorem isB_none {f : Den} {ρ : Env} {S : Sto} {d : D} (h1 : f ρ S = .ok (.d d) S) {b : Bool} (h : dIsB d .none = some (.bool b)) : eOp dIsB f (eC .none) ρ S = .ok (.d (.bool b)) S := ev_op h1 (ev_c _ _ _) rfl rfl h
theorem isN_none {f : Den} {ρ : Env} {S : Sto} {d : D} (h1 : f ρ S = .ok (.d d) S) {b : Bool} (h : dIsNot d .none = some (.bool b)) : eOp dIsNot f (eC .none) ρ S = .ok (.d (.bool b)) S := ev_op h1 (ev_c _ _ _) rfl rfl h
theorem dNe_bool (a b : Bool) : dNe (.bool a) (.bool b) = some (.bool (a != b)) := by
  unfold dNe
  rw [nice_shaped (show nice 0 (.bool a) = true from rfl) (by decide), nice_shaped (show nice 0 (.bool b) = true from rfl) (by decide)]
  cases a <;> cases b <;> simp [PyData.eqv]
theorem ok_large : PyData.strOk "large" = true := by kernel_rfl
theorem ok_told : PyData.strOk "told" = true := by kernel_rfl
theorem ok_braid : PyData.strOk "braid" = true := by kernel_rfl
theorem ok_strands : PyData.strOk "strands" = true := by kernel_rfl
theorem ok_word : PyData.strOk "word" = true := by kernel_rfl
theorem neT {f g : Den} {ρ : Env} {S : Sto} {s t : List Int} (h1 : f ρ S = .ok (.d (.tuple (zd s))) S) (h2 : g ρ S = .ok (.d (.tuple (zd t))) S) : eOp dNe f g ρ S = .ok (.d (.bool (decide (s ≠ t)))) S :=
  ev_op h1 h2 rfl rfl ((dNe_zd _ _).2.trans (by by_cases h : s = t <;> simp [h]))
noncomputable abbrev apBody : SDen := sIf (eOp dNe (eOp dIx (eVar 4) (eVar 3)) (eOp dIx (eVar 5) (eVar 3))) (sRet (eTup (aCons (eVar 3) (aCons (eOp dIx (eVar 4) (eVar 3)) (aCons (eOp dIx (eVar 5) (eVar 3)) aNil))))) sNil
theorem ev_acX {f : Den} {fs : DenA} {ρ : Env} {S S' : Sto} {c : Str} {p : D} (h : f ρ S = .exc c p S') : aCons f fs ρ S = .exc c p S' := by
  unfold aCons
  simp only [h]
theorem ev_acX2 {f : Den} {fs : DenA} {ρ : Env} {S S' S2 : Sto} {r : RV} {c : Str} {p : D} (h : f ρ S = .ok r S') (h2 : fs ρ S' = .exc c p S2) : aCons f fs ρ S = .exc c p S2 := by
  unfold aCons
  simp only [h, h2]
theorem es_parX {i j : Nat} {fs : DenA} {b : Nat} {ρ : Env} {S S' : Sto} {c : Str} {p : D} (h : fs ρ S = .exc c p S') : sPar i j fs b ρ S = .exc c p ρ S' := by
  unfold sPar
  rw [h]
end DL

end
section
set_option Elab.async false
set_option linter.all false
set_option maxRecDepth 100000
set_option maxHeartbeats 4000000
namespace DL
open PySem PySem.Spec PyProof.Rows L2 FG
/-! ### a new dict's keys -/
theorem insK_len (ks : List Key) (k : Key) : (insK ks k).length ≤ ks.length + 1 := by
  unfold insK
  split
  · omega
  · simp
theorem loopK_map {j : Nat} {f fv : Den} {ρw : Env} {S : Sto} (kf : D → Key) : ∀ {ds : List D} {ks : List Key}, (∀ d ∈ ds, (∃ v, f (ρw.set j (some (.d d))) S = .ok (.d v) S ∧ kOf v = some (kf d)) ∧ ∃ v, fv (ρw.set j (some (.d d))) S = .ok (.d v) S) → ks.length + ds.length ≤ sizeLine →
    loopK (.nm j) tYesD f fv ρw ks ds S = .ok ((ds.map kf).foldl insK ks) S
  | [], ks, _, _ => rfl
  | d :: ds, ks, h, hl => by
    rw [List.length_cons] at hl
    obtain ⟨⟨v, e1, e2⟩, v', e3⟩ := h d List.mem_cons_self
    have hk := insK_len ks (kf d)
    unfold loopK
    simp only [setP, tYesD, e1, e2, e3]
    rw [if_pos (by omega)]
    exact loopK_map kf (fun x hx => h x (List.mem_cons_of_mem _ hx)) (by omega)
theorem kComp_map {it : ItDen} {j : Nat} {f fv : Den} {vs : List Nat} {ρ : Env} {S S' : Sto} {ds : List D} (kf : D → Key) (hi : it ρ S = .ok none ds S') (h : ∀ d ∈ ds, (∃ v, f ((wipeE ρ vs).set j (some (.d d))) S' = .ok (.d v) S' ∧ kOf v = some (kf d)) ∧ ∃ v, fv ((wipeE ρ vs).set j (some (.d d))) S' = .ok (.d v) S') (hl : ds.length ≤ sizeLine) :
    kComp it (.nm j) tYesD f fv vs ρ S = .ok ((ds.map kf).foldl insK []) S' := by
  unfold kComp
  rw [hi]
  simp only [show gd none ds tYesD = tYesD from rfl, loopK_map kf h (ks := []) (by simpa using hl)]
  rfl
def insI (l : List Int) (i : Int) : List Int := if i ∈ l then l else l ++ [i]
def dedI (l : List Int) : List Int := l.foldl insI []
theorem insK_inl (l : List Int) (i : Int) : insK (l.map Sum.inl) (.inl i) = (insI l i).map Sum.inl := by
  unfold insK insI
  by_cases h : i ∈ l
  · rw [if_pos, if_pos h]
    exact List.any_eq_true.mpr ⟨.inl i, List.mem_map.mpr ⟨i, h, rfl⟩, by simp⟩
  · rw [if_neg, if_neg h, List.map_append]
    · rfl
    · intro q
      obtain ⟨x, hx, e⟩ := List.any_eq_true.mp q
      obtain ⟨y, hy, rfl⟩ := List.mem_map.mp hx
      have := of_decide_eq_true e
      cases this
      exact h hy
theorem foldl_insK : ∀ (is l : List Int), (is.map (Sum.inl : Int → Key)).foldl insK (l.map Sum.inl) = (is.foldl insI l).map Sum.inl
  | [], l => rfl
  | i :: is, l => by
    rw [List.map_cons, List.foldl_cons, insK_inl, foldl_insK is, List.foldl_cons]
theorem intK_inl : ∀ l : List Int, intK (l.map Sum.inl) = some l
  | [] => rfl
  | i :: l => by
    show (intK (l.map Sum.inl)).map (fun m => i :: m) = _
    rw [intK_inl l]
    rfl
theorem insI_nodup {l : List Int} (h : l.Nodup) (i : Int) : (insI l i).Nodup := by
  unfold insI
  split
  · exact h
  · rename_i hi
    rw [List.nodup_append]
    refine ⟨h, by simp, ?_⟩
    intro a ha b hb e
    rw [List.mem_singleton] at hb
    subst hb
    subst e
    exact hi ha
theorem insI_mem {l : List Int} {i x : Int} : x ∈ insI l i ↔ x ∈ l ∨ x = i := by
  unfold insI
  split
  · rename_i hi
    constructor
    · exact fun h => .inl h
    · rintro (h | rfl)
      · exact h
      · exact hi
  · simp
theorem fold_nodup : ∀ (is : List Int) {l : List Int}, l.Nodup → (is.foldl insI l).Nodup
  | [], _, h => h
  | i :: is, _, h => fold_nodup is (insI_nodup h i)
theorem fold_mem : ∀ (is : List Int) {l : List Int} {x : Int}, x ∈ is.foldl insI l ↔ x ∈ l ∨ x ∈ is
  | [], l, x => by simp
  | i :: is, l, x => by
    rw [List.foldl_cons, fold_mem is, insI_mem, List.mem_cons]
    constructor
    · rintro ((h | h) | h)
      · exact .inl h
      · exact .inr (.inl h)
      · exact .inr (.inr h)
    · rintro (h | h | h)
      · exact .inl (.inl h)
      · exact .inl (.inr h)
      · exact .inr h
theorem fold_len : ∀ (is : List Int) {l : List Int}, (is.foldl insI l).length ≤ l.length + is.length
  | [], l => by simp
  | i :: is, l => by
    have a := fold_len is (l := insI l i)
    have b : (insI l i).length ≤ l.length + 1 := by
      unfold insI
      split
      · omega
      · simp
    rw [List.foldl_cons, List.length_cons]
    omega
theorem dedI_nodup (l : List Int) : (dedI l).Nodup := fold_nodup l List.nodup_nil
theorem dedI_mem {l : List Int} {x : Int} : x ∈ dedI l ↔ x ∈ l := by
  unfold dedI
  rw [fold_mem]
  simp
/-- sorted({k: v for ..}), ints -/
theorem ev_srtK {it : ItDen} {j : Nat} {f fv : Den} {vs : List Nat} {ρ : Env} {S S' : Sto} {l : List Int} (kf : Int → Int) (hi : it ρ S = .ok none (zd l) S') (h : ∀ i ∈ l, f ((wipeE ρ vs).set j (some (.d (.int i)))) S' = .ok (.d (.int (kf i))) S' ∧ ∃ v, fv ((wipeE ρ vs).set j (some (.d (.int i)))) S' = .ok (.d v) S') (hl : l.length ≤ 1000000) (h64 : (dedI (l.map kf)).length < 64) :
    eSrtK (kComp it (.nm j) tYesD f fv vs) ρ S = .ok (.d (.list (zd (sortI (dedI (l.map kf)))))) S' := by
  unfold eSrtK
  rw [kComp_map (fun d => match d with | .int i => .inl (kf i) | _ => .inl 0) hi (fun d hd => by
    obtain ⟨i, hi, rfl⟩ := mem_zd hd
    obtain ⟨h1, h2⟩ := h i hi
    exact ⟨⟨_, h1, rfl⟩, h2⟩) (by rw [zd_len]; exact mill_line hl)]
  have e : (zd l).map (fun d => match d with | .int i => (.inl (kf i) : Key) | _ => .inl 0) = (l.map kf).map Sum.inl := by
    unfold zd
    rw [List.map_map, List.map_map]
    rfl
  have e2 := foldl_insK (l.map kf) []
  simp only [e]
  rw [show (List.foldl insK [] ((l.map kf).map Sum.inl)) = (dedI (l.map kf)).map Sum.inl from e2, intK_inl]
  simp only [if_pos h64]
  rfl
/-- ascending rows without doubles, by their members -/
theorem sort_ded {l m : List Int} (hm : m.Pairwise (· < ·)) (h : ∀ x, x ∈ m ↔ x ∈ l) : sortI (dedI l) = m := by
  refine sorted_one ?_ (sortI_sorted _) (hm.imp fun h => by omega)
  refine (sortI_perm _).trans ?_
  refine (List.perm_ext_iff_of_nodup (dedI_nodup l) ?_).mpr fun x => by rw [dedI_mem, h]
  exact hm.imp fun h e => by omega
/-! ### rows of numbers below one another -/
theorem flatD_zd (l : List Int) : (zd l).all flatD = true := List.all_eq_true.mpr fun x hx => by
  obtain ⟨i, _, rfl⟩ := mem_zd hx
  rfl
theorem any_nd (l : List Nat) (k : Nat) : ((nd l).any fun z => PyData.eqv z (.int (k : Int))) = decide (k ∈ l) := by
  by_cases h : k ∈ l
  · rw [decide_eq_true h, List.any_eq_true]
    exact ⟨.int (k : Int), List.mem_map.mpr ⟨k, h, rfl⟩, by rw [eqv_int]; simp⟩
  · rw [decide_eq_false h, List.any_eq_false]
    intro x hx
    obtain ⟨i, hi, rfl⟩ := mem_nd hx
    rw [eqv_int]
    intro e
    have : (i : Int) = k := by simpa using e
    have : i = k := by omega
    subst this
    exact h hi
theorem in_nd (l : List Nat) (k : Nat) : dIn (.int (k : Int)) (.tuple (nd l)) = some (.bool (decide (k ∈ l))) ∧ dIn (.int (k : Int)) (.list (nd l)) = some (.bool (decide (k ∈ l))) := by
  have f : (flatD (.int (k : Int)) && (nd l).all flatD) = true := by rw [flatD_nd]; rfl
  constructor
  · unfold dIn
    simp only [f, if_true, any_nd]
  · unfold dIn
    simp only [f, if_true, any_nd]
theorem nin_nd (l : List Nat) (k : Nat) : dNotIn (.int (k : Int)) (.tuple (nd l)) = some (.bool (!decide (k ∈ l))) ∧ dNotIn (.int (k : Int)) (.list (nd l)) = some (.bool (!decide (k ∈ l))) := by
  have f : (flatD (.int (k : Int)) && (nd l).all flatD) = true := by rw [flatD_nd]; rfl
  constructor
  · unfold dNotIn
    simp only [f, if_true, any_nd]
  · unfold dNotIn
    simp only [f, if_true, any_nd]
theorem ev_indexM {f g : Den} {ρ : Env} {S : Sto} {y : RV} {j : Nat} {p : List Nat} {v : Nat} (h1 : f ρ S = .ok (.m j) S) (hj : S[j]? = some (.lst (nd p))) (h2 : g ρ S = .ok y S) (h4 : val S y = some (.int (v : Int))) (h : v ∈ p) : eIndex f g ρ S = .ok (.d (.int (p.idxOf v : Int))) S := by
  unfold eIndex
  rw [ev_b h1, if_pos (show isSeqRV (.m j) = true from rfl), ev_b h2]
  have e : dIndex (.list (nd p)) (.int (v : Int)) = some (.int (p.idxOf v : Int)) := by
    unfold dIndex
    simp only
    rw [if_pos (by rw [flatD_nd]; rfl), findIdx_nd v p h]
    rfl
  simp only [val_m hj, h4, e]
/-- a chain of two: a op f op g -/
theorem ev_chain2 {f g k : Den} {o1 o2 : D → D → Option D} {ρ : Env} {S : Sto} {x y z : D} {a b : Bool} (h0 : k ρ S = .ok (.d x) S) (h1 : f ρ S = .ok (.d y) S) (h2 : g ρ S = .ok (.d z) S) (e1 : o1 x y = some (.bool a)) (e2 : o2 y z = some (.bool b)) : eChain k [(o1, f), (o2, g)] ρ S = .ok (.d (.bool (a && b))) S := by
  unfold eChain
  rw [ev_b h0]
  unfold chainD
  rw [ev_b h1]
  simp only [val_d, e1]
  cases a with
  | false => rfl
  | true =>
    simp only
    unfold chainD
    rw [ev_b h2]
    simp only [val_d, e2]
    rfl
theorem ev_chain3 {f g h k : Den} {o1 o2 o3 : D → D → Option D} {ρ : Env} {S : Sto} {x y z w : D} {a b c : Bool} (h0 : k ρ S = .ok (.d x) S) (h1 : f ρ S = .ok (.d y) S) (h2 : g ρ S = .ok (.d z) S) (h3 : h ρ S = .ok (.d w) S) (e1 : o1 x y = some (.bool a)) (e2 : o2 y z = some (.bool b)) (e3 : o3 z w = some (.bool c)) : eChain k [(o1, f), (o2, g), (o3, h)] ρ S = .ok (.d (.bool (a && (b && c)))) S := by
  unfold eChain
  rw [ev_b h0]
  unfold chainD
  rw [ev_b h1]
  simp only [val_d, e1]
  cases a with
  | false => rfl
  | true =>
    simp only
    unfold chainD
    rw [ev_b h2]
    simp only [val_d, e2]
    cases b with
    | false => rfl
    | true =>
      simp only
      unfold chainD
      rw [ev_b h3]
      simp only [val_d, e3]
      rfl
end DL

end
section
set_option Elab.async false
set_option linter.all false
set_option maxRecDepth 100000
set_option maxHeartbeats 4000000
namespace DL
open PySem PySem.Spec PyProof.Rows L2
def swapAt (l : List Nat) (k : Nat) : List Nat := (l.set (k - 1) (at0 l k)).set k (at0 l (k - 1))
theorem split_at {l : List Nat} {k : Nat} (h1 : 1 ≤ k) (h2 : k < l.length) : ∃ u v, l = u ++ at0 l (k - 1) :: at0 l k :: v ∧ u.length = k - 1 ∧ swapAt l k = u ++ at0 l k :: at0 l (k - 1) :: v := by
  refine ⟨l.take (k - 1), l.drop (k + 1), ?_, by rw [List.length_take]; omega, ?_⟩
  · rw [at0_eq h2, at0_eq (show k - 1 < l.length from by omega), List.getElem_cons_drop, ]
    have := List.getElem_cons_drop (as := l) (i := k - 1) (h := by omega)
    rw [show k - 1 + 1 = k from by omega] at this
    rw [this, List.take_append_drop]
  · apply List.ext_getElem
    · simp [swapAt]
      omega
    · intro i h3 h4
      simp only [swapAt, List.length_set] at h3
      simp only [swapAt, List.getElem_set]
      by_cases e1 : k = i
      · subst e1
        rw [if_pos rfl, List.getElem_append_right (by rw [List.length_take]; omega)]
        simp only [List.length_take]
        have : k - min (k - 1) l.length = 1 := by omega
        simp [this]
      · rw [if_neg e1]
        by_cases e2 : k - 1 = i
        · rw [if_pos e2, List.getElem_append_right (by rw [List.length_take]; omega)]
          have : i - min (k - 1) l.length = 0 := by omega
          simp [this]
        · rw [if_neg e2]
          by_cases e3 : i < k - 1
          · rw [List.getElem_append_left (by rw [List.length_take]; omega), List.getElem_take]
          · rw [List.getElem_append_right (by rw [List.length_take]; omega)]
            have : i - (l.take (k - 1)).length = (i - (k + 1)) + 1 + 1 := by rw [List.length_take]; omega
            simp only [this, List.getElem_cons_succ, List.getElem_drop]
            congr 1
            omega
theorem swap_perm {l : List Nat} {k : Nat} (h1 : 1 ≤ k) (h2 : k < l.length) : (swapAt l k).Perm l := by
  obtain ⟨u, v, e, hu, es⟩ := split_at h1 h2
  rw [es]
  conv => rhs; rw [e]
  exact List.Perm.append_left u (List.Perm.swap _ _ _)
theorem swap_len (l : List Nat) (k : Nat) : (swapAt l k).length = l.length := by simp [swapAt]
theorem es_swap {a c : Nat} {b : Nat} {ρ : Env} {S : Sto} {j k : Nat} {l : List Nat} (ha : ρ[a]? = some (some (.m j))) (hc : ρ[c]? = some (some (.d (.int (k : Int))))) (hj : S[j]? = some (.lst (nd l))) (h1 : 1 ≤ k) (h2 : k < l.length) :
    sSubs [((eVar a), (eOp dSub (eVar c) (eC (.int 1)))), ((eVar a), (eVar c))] (eTup (aCons (eOp dIx (eVar a) (eVar c)) (aCons (eOp dIx (eVar a) (eOp dSub (eVar c) (eC (.int 1)))) aNil))) b ρ S = .nx ρ (S.set j (.lst (nd (swapAt l k)))) := by
  have hjl : j < S.length := (List.getElem?_eq_some_iff.mp hj).1
  have km : ∀ T, eOp dSub (eVar c) (eC (.int 1)) ρ T = .ok (.d (.int ((k - 1 : Nat) : Int))) T := fun T => ev_op (ev_var hc) (ev_c _ _ _) rfl rfl (dSub1 h1)
  have e : eTup (aCons (eOp dIx (eVar a) (eVar c)) (aCons (eOp dIx (eVar a) (eOp dSub (eVar c) (eC (.int 1)))) aNil)) ρ S = .ok (.d (.tuple [.int (at0 l k : Int), .int (at0 l (k - 1) : Int)])) S :=
    ev_tup (ev_ac (ev_op (ev_var ha) (ev_var hc) (val_m hj) rfl (ix_lN h2)) (ev_a1 (ev_op (ev_var ha) (km S) (val_m hj) rfl (ix_lN (by omega))))) rfl (le_line (by simp))
  unfold sSubs
  rw [es_b e]
  simp only [List.length_cons, List.length_nil, if_true]
  unfold storeD
  rw [wr1_ev (ev_var ha) (km S) hj (by rw [nd_len]; omega), nd_set]
  unfold storeD
  rw [wr1_ev (ev_var ha) (ev_var hc) (List.getElem?_set_self hjl) (by rw [nd_len, List.length_set]; exact h2), nd_set]
  unfold storeD
  rw [List.set_set]
  rfl
/-- .. and letters of a word, one behind the other -/
def rowN (r : List Nat) (w : List Int) : List Nat := w.foldl (fun r l => swapAt r l.natAbs) r
theorem row_perm {n : Nat} : ∀ (w : List Int) {r : List Nat}, r.length = n → (∀ x ∈ w, Let n x) → (rowN r w).Perm r
  | [], _, _, _ => List.Perm.refl _
  | l :: w, r, hr, h => by
    have hl := h l List.mem_cons_self
    exact (row_perm w (by rw [swap_len]; exact hr) fun x hx => h x (List.mem_cons_of_mem _ hx)).trans (swap_perm hl.1 (by rw [hr]; exact hl.2))
theorem row_len {n : Nat} {w : List Int} {r : List Nat} (hr : r.length = n) (h : ∀ x ∈ w, Let n x) : (rowN r w).length = n := (row_perm w hr h).length_eq.trans hr
theorem row_take {w : List Int} {r : List Nat} {i : Nat} (h : i < w.length) : rowN r (w.take (i + 1)) = swapAt (rowN r (w.take i)) w[i].natAbs := by
  unfold rowN
  rw [List.take_succ_eq_append_getElem h, List.foldl_append]
  rfl
end DL

end
section
set_option Elab.async false
set_option linter.all false
set_option maxRecDepth 100000
set_option maxHeartbeats 4000000
namespace DL
open PySem PySem.Spec PyProof.Rows L2 LamX

/-! ### the text -/
def top (i : Nat) : Stmt := PySem.Challenge.pw_deafneedle_k01_whole_words_of_braids.main.body.getD i (.Pass ⟨0, 0, 0, 0⟩)
abbrev s_is_integer : Stmt := top 5
abbrev s_is_strand_count : Stmt := top 9
abbrev s_is_letter : Stmt := top 10
abbrev s_is_braid : Stmt := top 11
abbrev s_check_braid : Stmt := top 12
abbrev s_standing : Stmt := top 13
abbrev s_ends : Stmt := top 14
abbrev s_opposite : Stmt := top 15
abbrev s_freed : Stmt := top 16
abbrev s_moved_by : Stmt := top 17
abbrev s_letters_used : Stmt := top 18
abbrev s_blocks : Stmt := top 19
abbrev s_block_word : Stmt := top 20
abbrev s__law_next : Stmt := top 22
abbrev s__law_same : Stmt := top 23
abbrev s__law_asked : Stmt := top 24
abbrev s__law_word : Stmt := top 25
abbrev s__law_size : Stmt := top 26
abbrev s__law_bare : Stmt := top 27
abbrev s__law_refused : Stmt := top 28
abbrev s_law : Stmt := top 29
abbrev s_i_StitchError : Stmt := inClass (top 1) 0
abbrev s_i_TooLarge : Stmt := inClass (top 2) 0
abbrev s_i_InvalidBraid : Stmt := inClass (top 3) 0
/-! ### what the module holds -/
structure Tx (K : PySem.W.Frag) (mg : Str → Option Value) : Prop where
  z_abs : mg "abs" = none
  z_all : mg "all" = none
  z_bool : mg "bool" = none
  z_int : mg "int" = none
  z_isinstance : mg "isinstance" = none
  z_len : mg "len" = none
  z_list : mg "list" = none
  z_range : mg "range" = none
  z_reversed : mg "reversed" = none
  z_sorted : mg "sorted" = none
  z_str : mg "str" = none
  z_tuple : mg "tuple" = none
  c_MOST_LETTERS : ∃ t, mg "MOST_LETTERS" = some (.int 4000 t)
  c_MOST_STRANDS : ∃ t, mg "MOST_STRANDS" = some (.int 60 t)
/-! ### the mirrors -/
def askP (c : Str) : Option Str :=
  if c = "InvalidBraid" then some "braid" else if c = "TooLarge" then some "large" else if c = "StitchError" then some "other" else none
abbrev N_is_integer : List Str := ["value"]
noncomputable def b_is_integer : SDen :=
  (sRet (eAnd (eIsi "int" (eVar 0)) (eNot (eIsi "bool" (eVar 0)))))
noncomputable def m_is_integer : Mir := mk 1 1 b_is_integer
abbrev N_is_strand_count : List Str := ["n"]
noncomputable def b_is_strand_count : SDen :=
  (sRet (eAnd (eCall m_is_integer (aCons (eVar 0) aNil)) (eChain (eC (.int 1)) [(dLe, (eVar 0)), (dLe, (eC (.int 60)))])))
noncomputable def m_is_strand_count : Mir := mk 1 1 b_is_strand_count
abbrev N_is_letter : List Str := ["n", "value"]
noncomputable def b_is_letter : SDen :=
  (sRet (eAnd (eCall m_is_integer (aCons (eVar 1) aNil)) (eChain (eC (.int 1)) [(dLe, (eCallV (v1 dAbs) (aCons (eVar 1) aNil))), (dLt, (eVar 0))])))
noncomputable def m_is_letter : Mir := mk 2 2 b_is_letter
abbrev N_is_braid : List Str := ["n", "value", "letter"]
noncomputable def b_is_braid : SDen :=
  (sSeq (sIf (eOr (eNot (eCall m_is_strand_count (aCons (eVar 0) aNil))) (eOr (eNot (eIsi "tuple" (eVar 1))) (eOp dGt (eCallV vLen (aCons (eVar 1) aNil)) (eC (.int 4000))))) (sRet (eC (.bool false))) sNil)
  (sRet (eCallV (v1 dAll) (aCons (eFz (eComp (iSeq (eVar 1)) (.nm 2) tYesD (eCall m_is_letter (aCons (eVar 0) (aCons (eVar 2) aNil))) [2])) aNil))))
noncomputable def m_is_braid : Mir := mk 2 3 b_is_braid
abbrev N_check_braid : List Str := ["n", "word", "k"]
noncomputable def b_check_braid : SDen :=
  (sSeq (sIf (eNot (eCall m_is_strand_count (aCons (eVar 0) aNil))) (sRaise "InvalidBraid" (eC (.str "strands"))) sNil)
  (sSeq (sIf (eOr (eNot (eIsi "tuple" (eVar 1))) (eOp dGt (eCallV vLen (aCons (eVar 1) aNil)) (eC (.int 4000)))) (sRaise "InvalidBraid" (eC (.str "word"))) sNil)
  (sFor (.nm 2) (iRange1 (aCons (eCallV vLen (aCons (eVar 1) aNil)) aNil)) (sIf (eNot (eCall m_is_letter (aCons (eVar 0) (aCons (eOp dIx (eVar 1) (eVar 2)) aNil)))) (sRaise "InvalidBraid" (eVar 2)) sNil))))
noncomputable def m_check_braid : Mir := mk 2 3 b_check_braid
abbrev N_standing : List Str := ["n", "word", "row", "letter", "k"]
noncomputable def b_standing : SDen :=
  (sSeq (sExpr (eCall m_check_braid (aCons (eVar 0) (aCons (eVar 1) aNil))))
  (sSeq (sAsg 2 (eNew (eUn (dRg1 false) (eVar 0))))
  (sSeq (sFor (.nm 3) (iSeq (eVar 1)) (sSeq (sAsg 4 (eCallV (v1 dAbs) (aCons (eVar 3) aNil)))
  (sSubs [((eVar 2), (eOp dSub (eVar 4) (eC (.int 1)))), ((eVar 2), (eVar 4))] (eTup (aCons (eOp dIx (eVar 2) (eVar 4)) (aCons (eOp dIx (eVar 2) (eOp dSub (eVar 4) (eC (.int 1)))) aNil))))))
  (sRet (eCallV (v1 dTuple) (aCons (eVar 2) aNil))))))
noncomputable def m_standing : Mir := mk 2 5 b_standing
abbrev N_ends : List Str := ["n", "word", "row", "place"]
noncomputable def b_ends : SDen :=
  (sSeq (sAsg 2 (eCall m_standing (aCons (eVar 0) (aCons (eVar 1) aNil))))
  (sRet (eCallV (v1 dTuple) (aCons (eFz (eComp (iRange1 (aCons (eVar 0) aNil)) (.nm 3) tYesD (eIndex (eVar 2) (eVar 3)) [3])) aNil))))
noncomputable def m_ends : Mir := mk 2 4 b_ends
abbrev N_opposite : List Str := ["word", "letter"]
noncomputable def b_opposite : SDen :=
  (sRet (eCallV (v1 dTuple) (aCons (eFz (eComp (iRev (eVar 0)) (.nm 1) tYesD (eUn dNeg (eVar 1)) [1])) aNil)))
noncomputable def m_opposite : Mir := mk 1 2 b_opposite
abbrev N_freed : List Str := ["word", "found", "letter"]
noncomputable def b_freed : SDen :=
  (sSeq (sAsg 1 (eNew (eLst aNil)))
  (sSeq (sFor (.nm 2) (iSeq (eVar 0)) (sIf (eAnd (eOp dNe (eVar 1) (eFz (eLst aNil))) (eOp dEq (eOp dIx (eVar 1) (eUn dNeg (eC (.int 1)))) (eUn dNeg (eVar 2)))) (sExpr (eMeth mPop (eVar 1) aNil)) (sExpr (eMeth mAppend (eVar 1) (aCons (eVar 2) aNil)))))
  (sRet (eCallV (v1 dTuple) (aCons (eVar 1) aNil)))))
noncomputable def m_freed : Mir := mk 1 3 b_freed
abbrev N_moved_by : List Str := ["word", "many", "letter"]
noncomputable def b_moved_by : SDen :=
  (sRet (eCallV (v1 dTuple) (aCons (eFz (eComp (iSeq (eVar 0)) (.nm 2) tYesD (eIf (eOp dGt (eVar 2) (eC (.int 0))) (eOp dAdd (eVar 2) (eVar 1)) (eOp dSub (eVar 2) (eVar 1))) [2])) aNil)))
noncomputable def m_moved_by : Mir := mk 2 3 b_moved_by
abbrev N_letters_used : List Str := ["n", "word", "letter"]
noncomputable def b_letters_used : SDen :=
  (sSeq (sExpr (eCall m_check_braid (aCons (eVar 0) (aCons (eVar 1) aNil))))
  (sRet (eCallV (v1 dTuple) (aCons (eFz (eSrtK (kComp (iSeq (eVar 1)) (.nm 2) tYesD (eCallV (v1 dAbs) (aCons (eVar 2) aNil)) (eC (.bool true)) [2]))) aNil))))
noncomputable def m_letters_used : Mir := mk 2 3 b_letters_used
abbrev N_blocks : List Str := ["n", "word", "used", "borders", "k"]
noncomputable def b_blocks : SDen :=
  (sSeq (sAsg 2 (eCall m_letters_used (aCons (eVar 0) (aCons (eVar 1) aNil))))
  (sSeq (sAsg 3 (eOp dAdd (eOp dAdd (eFz (eLst (aCons (eC (.int 0)) aNil))) (eFz (eComp (iRange2 (aCons (eC (.int 1)) (aCons (eVar 0) aNil))) (.nm 4) (eOp dNotIn (eVar 4) (eVar 2)) (eVar 4) [4]))) (eFz (eLst (aCons (eVar 0) aNil)))))
  (sRet (eCallV (v1 dTuple) (aCons (eFz (eComp (iRange1 (aCons (eOp dSub (eCallV vLen (aCons (eVar 3) aNil)) (eC (.int 1))) aNil)) (.nm 4) tYesD (eTup (aCons (eOp dIx (eVar 3) (eVar 4)) (aCons (eOp dIx (eVar 3) (eOp dAdd (eVar 4) (eC (.int 1)))) aNil))) [4])) aNil)))))
noncomputable def m_blocks : Mir := mk 2 5 b_blocks
abbrev N_block_word : List Str := ["n", "word", "first", "beyond", "used", "inner", "letter"]
noncomputable def b_block_word : SDen :=
  (sSeq (sAsg 4 (eCall m_letters_used (aCons (eVar 0) (aCons (eVar 1) aNil))))
  (sSeq (sIf (eOr (eNot (eCall m_is_integer (aCons (eVar 2) aNil))) (eOr (eNot (eCall m_is_integer (aCons (eVar 3) aNil))) (eNot (eChain (eC (.int 0)) [(dLe, (eVar 2)), (dLt, (eVar 3)), (dLe, (eVar 0))])))) (sRaise "InvalidBraid" (eC (.str "block"))) sNil)
  (sSeq (sIf (eOr (eOp dIn (eVar 2) (eVar 4)) (eOp dIn (eVar 3) (eVar 4))) (sRaise "InvalidBraid" (eC (.str "block"))) sNil)
  (sSeq (sAsg 5 (eFz (eComp (iSeq (eVar 1)) (.nm 6) (eChain (eVar 2) [(dLt, (eCallV (v1 dAbs) (aCons (eVar 6) aNil))), (dLt, (eVar 3))]) (eVar 6) [6])))
  (sRet (eCall m_moved_by (aCons (eVar 5) (aCons (eUn dNeg (eVar 2)) aNil))))))))
noncomputable def m_block_word : Mir := mk 4 7 b_block_word
abbrev N__law_next : List Str := ["tape", "many", "rest", "cell"]
noncomputable def b__law_next : SDen :=
  (sSeq (sAsg 2 (eOp dIx (eVar 0) (eC (.int 2))))
  (sSeq (sIf (eOp dEq (eVar 2) (eC (.int 0))) (sSeq (sAsg 3 (eC (.int 0)))
  (sSeq (sIf (eOp dLt (eOp dIx (eVar 0) (eC (.int 1))) (eCallV vLen (aCons (eOp dIx (eVar 0) (eC (.int 0))) aNil))) (sSeq (sAsg 3 (eCallV (v1 dAbs) (aCons (eCallV (v1 dInt) (aCons (eOp dIx (eOp dIx (eVar 0) (eC (.int 0))) (eOp dIx (eVar 0) (eC (.int 1)))) aNil)) aNil)))
  (sSub1 (eVar 0) (eC (.int 1)) (eOp dAdd (eOp dIx (eVar 0) (eC (.int 1))) (eC (.int 1))))) sNil)
  (sSeq (sAsg 2 (eVar 3))
  (sIf (eOp dLt (eVar 3) (eOp dPow (eC (.int 10)) (eC (.int 18)))) (sSeq (sSub1 (eVar 0) (eC (.int 3)) (eOp dMod (eCallV (v1 dInt) (aCons (eOp dAdd (eOp dAdd (eOp dMul (eOp dIx (eVar 0) (eC (.int 3))) (eC (.int 69621))) (eOp dMul (eVar 3) (eC (.int 40692)))) (eC (.int 17))) aNil)) (eC (.int 2147483647))))
  (sRet (eOp dMod (eOp dMod (eCallV (v1 dInt) (aCons (eOp dMul (eCallV (v1 dInt) (aCons (eOp dFdiv (eOp dIx (eVar 0) (eC (.int 3))) (eC (.int 5))) aNil)) (eC (.int 48271))) aNil)) (eC (.int 2147483647))) (eVar 1)))) sNil)))) sNil)
  (sSeq (sSub1 (eVar 0) (eC (.int 2)) (eOp dFdiv (eVar 2) (eVar 1)))
  (sRet (eOp dMod (eCallV (v1 dInt) (aCons (eVar 2) aNil)) (eVar 1))))))
noncomputable def m__law_next : Mir := mk 2 4 b__law_next
abbrev N__law_same : List Str := ["told", "due", "k"]
noncomputable def b__law_same (self : Mir) : SDen :=
  (sSeq (sIf (eOp dIsB (eVar 1) (eC .none)) (sRet (eOp dIsB (eVar 0) (eC .none))) sNil)
  (sSeq (sIf (eIsi "bool" (eVar 1)) (sRet (eAnd (eIsi "bool" (eVar 0)) (eOp dEq (eVar 0) (eVar 1)))) sNil)
  (sSeq (sIf (eIsi "int" (eVar 1)) (sRet (eAnd (eIsi "int" (eVar 0)) (eAnd (eNot (eIsi "bool" (eVar 0))) (eOp dEq (eVar 0) (eVar 1))))) sNil)
  (sSeq (sIf (eIsi "str" (eVar 1)) (sRet (eAnd (eIsi "str" (eVar 0)) (eOp dEq (eVar 0) (eVar 1)))) sNil)
  (sSeq (sIf (eOr (eAnd (eIsi "list" (eVar 1)) (eNot (eIsi "list" (eVar 0)))) (eAnd (eIsi "tuple" (eVar 1)) (eNot (eIsi "tuple" (eVar 0))))) (sRet (eC (.bool false))) sNil)
  (sRet (eAnd (eOp dEq (eCallV vLen (aCons (eVar 0) aNil)) (eCallV vLen (aCons (eVar 1) aNil))) (eOp dEq (eFz (eComp (iRange1 (aCons (eCallV vLen (aCons (eVar 1) aNil)) aNil)) (.nm 2) (eNot (eCall self (aCons (eOp dIx (eVar 0) (eVar 2)) (aCons (eOp dIx (eVar 1) (eVar 2)) aNil)))) (eC (.int 1)) [2])) (eFz (eLst aNil))))))))))
noncomputable def m__law_same : Nat → Mir
  | 0 => fun _ _ => .no
  | k + 1 => mk 2 3 (b__law_same (m__law_same k))
theorem np__law_same : ∀ (k : Nat) rs S, m__law_same k rs S ≠ .no → rs.length = 2
  | 0, _, _, h => absurd rfl h
  | k + 1, rs, S, h => mk_np rs S h
abbrev N__law_word : List Str := ["tape", "n", "most", "k"]
noncomputable def b__law_word : SDen :=
  (sSeq (sIf (eOp dLt (eVar 1) (eC (.int 2))) (sRet (eTup aNil)) sNil)
  (sRet (eCallV (v1 dTuple) (aCons (eFz (eComp (iRange1 (aCons (eCall m__law_next (aCons (eVar 0) (aCons (eOp dAdd (eVar 2) (eC (.int 1))) aNil))) aNil)) (.nm 3) tYesD (eOp dMul (eOp dAdd (eC (.int 1)) (eCall m__law_next (aCons (eVar 0) (aCons (eOp dSub (eVar 1) (eC (.int 1))) aNil)))) (eOp dSub (eC (.int 1)) (eOp dMul (eC (.int 2)) (eCall m__law_next (aCons (eVar 0) (aCons (eC (.int 2)) aNil)))))) [3])) aNil))))
noncomputable def m__law_word : Mir := mk 3 4 b__law_word
abbrev N__law_size : List Str := ["letter"]
noncomputable def b__law_size : SDen :=
  (sRet (eIf (eOp dGt (eVar 0) (eC (.int 0))) (eVar 0) (eOp dSub (eC (.int 0)) (eVar 0))))
noncomputable def m__law_size : Mir := mk 1 1 b__law_size
abbrev N__law_bare : List Str := ["word", "left", "k"]
noncomputable def b__law_bare : SDen :=
  (sSeq (sPar 1 2 (aCons (eFz (eCallV vList (aCons (eVar 0) aNil))) (aCons (eC (.int 0)) aNil)))
  (sSeq (sWhile (eOp dLt (eOp dAdd (eVar 2) (eC (.int 1))) (eCallV vLen (aCons (eVar 1) aNil))) (sIf (eOp dEq (eOp dIx (eVar 1) (eVar 2)) (eOp dSub (eC (.int 0)) (eOp dIx (eVar 1) (eOp dAdd (eVar 2) (eC (.int 1)))))) (sPar 1 2 (aCons (eOp dAdd (eSlice (eVar 1) none (some (eVar 2))) (eSlice (eVar 1) (some (eOp dAdd (eVar 2) (eC (.int 2)))) none)) (aCons (eC (.int 0)) aNil))) (sAsg 2 (eOp dAdd (eVar 2) (eC (.int 1))))))
  (sRet (eCallV (v1 dTuple) (aCons (eVar 1) aNil)))))
noncomputable def m__law_bare : Mir := mk 1 3 b__law_bare
abbrev N__law_refused : List Str := ["tape", "odd", "asked", "n", "word", "place"]
noncomputable def b__law_refused : SDen :=
  (sSeq (sAsg 1 (eFz (eLst (aCons (eTup (aCons (eC (.int 0)) (aCons (eTup aNil) (aCons (eC (.str "strands")) aNil)))) (aCons (eTup (aCons (eC (.int 61)) (aCons (eTup aNil) (aCons (eC (.str "strands")) aNil)))) (aCons (eTup (aCons (eC (.bool true)) (aCons (eTup aNil) (aCons (eC (.str "strands")) aNil)))) (aCons (eTup (aCons (eC (.str "3")) (aCons (eTup aNil) (aCons (eC (.str "strands")) aNil)))) (aCons (eTup (aCons (eC .none) (aCons (eTup aNil) (aCons (eC (.str "strands")) aNil)))) aNil))))))))
  (sSeq (sAsg 1 (eOp dAdd (eVar 1) (eFz (eLst (aCons (eTup (aCons (eC (.int 3)) (aCons (eFz (eLst (aCons (eC (.int 1)) aNil))) (aCons (eC (.str "word")) aNil)))) (aCons (eTup (aCons (eC (.int 3)) (aCons (eC .none) (aCons (eC (.str "word")) aNil)))) (aCons (eTup (aCons (eC (.int 3)) (aCons (eOp dMul (eTup (aCons (eC (.int 1)) aNil)) (eC (.int 4001))) (aCons (eC (.str "word")) aNil)))) (aCons (eTup (aCons (eC (.int 3)) (aCons (eTup (aCons (eC (.int 1)) (aCons (eC (.int 3)) aNil))) (aCons (eC (.int 1)) aNil)))) (aCons (eTup (aCons (eC (.int 3)) (aCons (eTup (aCons (eC (.int 0)) aNil)) (aCons (eC (.int 0)) aNil)))) aNil)))))))))
  (sSeq (sAsg 1 (eOp dAdd (eVar 1) (eFz (eLst (aCons (eTup (aCons (eC (.int 3)) (aCons (eTup (aCons (eC (.int 1)) (aCons (eC (.bool true)) aNil))) (aCons (eC (.int 1)) aNil)))) (aCons (eTup (aCons (eC (.int 3)) (aCons (eTup (aCons (eC (.str "1")) aNil)) (aCons (eC (.int 0)) aNil)))) (aCons (eTup (aCons (eC (.int 3)) (aCons (eTup (aCons (eC (.int 1)) (aCons (eC (.int 2)) (aCons (eOp dSub (eC (.int 0)) (eC (.int 3))) aNil)))) (aCons (eC (.int 2)) aNil)))) (aCons (eTup (aCons (eC (.int 1)) (aCons (eTup (aCons (eC (.int 1)) aNil)) (aCons (eC (.int 0)) aNil)))) (aCons (eTup (aCons (eC (.int 3)) (aCons (eTup (aCons (eC (.int 1)) (aCons (eTup (aCons (eC (.int 1)) aNil)) aNil))) (aCons (eC (.int 1)) aNil)))) aNil)))))))))
  (sSeq (sAsgP (.tup [(.nm 3), (.nm 4), (.nm 5)]) (eOp dIx (eVar 1) (eCall m__law_next (aCons (eVar 0) (aCons (eCallV vLen (aCons (eVar 1) aNil)) aNil)))))
  (sSeq (sAsg 2 (eFz (eLst (aCons (eAsk askP (eCall m_check_braid (aCons (eVar 3) (aCons (eVar 4) aNil)))) (aCons (eAsk askP (eCall m_standing (aCons (eVar 3) (aCons (eVar 4) aNil)))) (aCons (eAsk askP (eCall m_ends (aCons (eVar 3) (aCons (eVar 4) aNil)))) (aCons (eAsk askP (eCall m_letters_used (aCons (eVar 3) (aCons (eVar 4) aNil)))) (aCons (eAsk askP (eCall m_blocks (aCons (eVar 3) (aCons (eVar 4) aNil)))) (aCons (eAsk askP (eCall m_block_word (aCons (eVar 3) (aCons (eVar 4) (aCons (eC (.int 0)) (aCons (eC (.int 1)) aNil)))))) aNil)))))))))
  (sRet (eAnd (eOp dIsB (eCall m_is_braid (aCons (eVar 3) (aCons (eVar 4) aNil))) (eC (.bool false))) (eCall (m__law_same 8) (aCons (eVar 2) (aCons (eFz (eOp dRep (eFz (eLst (aCons (eTup (aCons (eC (.str "braid")) (aCons (eVar 5) aNil))) aNil))) (eC (.int 6)))) aNil))))))))))
noncomputable def m__law_refused : Mir := mk 1 6 b__law_refused
abbrev N_law : List Str := ["script", "tape", "n", "word", "letter", "many", "due", "k", "told", "row", "used", "stretches", "first", "a", "b", "place"]
noncomputable def b_law : SDen :=
  (sSeq (sAsg 1 (eNew (eLst (aCons (eFz (eCallV vList (aCons (eVar 0) aNil))) (aCons (eC (.int 0)) (aCons (eC (.int 0)) (aCons (eC (.int 1)) aNil)))))))
  (sSeq (sAsg 2 (eOp dAdd (eC (.int 1)) (eCall m__law_next (aCons (eVar 1) (aCons (eC (.int 8)) aNil)))))
  (sSeq (sAsg 3 (eCall m__law_word (aCons (eVar 1) (aCons (eVar 2) (aCons (eC (.int 14)) aNil)))))
  (sSeq (sParT [9, 10] (aCons (eNew (eUn (dRg1 false) (eVar 2))) (aCons (eFz (eLst aNil)) aNil)))
  (sSeq (sFor (.nm 4) (iSeq (eVar 3)) (sSeq (sAsg 7 (eCall m__law_size (aCons (eVar 4) aNil)))
  (sSeq (sSubs [((eVar 9), (eOp dSub (eVar 7) (eC (.int 1)))), ((eVar 9), (eVar 7))] (eTup (aCons (eOp dIx (eVar 9) (eVar 7)) (aCons (eOp dIx (eVar 9) (eOp dSub (eVar 7) (eC (.int 1)))) aNil))))
  (sAsg 10 (eOp dAdd (eVar 10) (eFz (eLst (aCons (eVar 7) aNil))))))))
  (sSeq (sIf (eNot (eCall (m__law_same 8) (aCons (eFz (eLst (aCons (eCall m_standing (aCons (eVar 2) (aCons (eVar 3) aNil))) (aCons (eCall m_ends (aCons (eVar 2) (aCons (eVar 3) aNil))) aNil)))) (aCons (eFz (eLst (aCons (eCallV (v1 dTuple) (aCons (eVar 9) aNil)) (aCons (eCallV (v1 dTuple) (aCons (eFz (eComp (iRange1 (aCons (eVar 2) aNil)) (.nm 15) tYesD (eIndex (eVar 9) (eVar 15)) [15])) aNil)) aNil)))) aNil)))) (sRet (eC (.bool false))) sNil)
  (sSeq (sAsg 5 (eCall m__law_next (aCons (eVar 1) (aCons (eC (.int 9)) aNil))))
  (sSeq (sAsg 6 (eFz (eLst (aCons (eCallV (v1 dTuple) (aCons (eFz (eComp (iSeq (eUn dRev (eVar 3))) (.nm 4) tYesD (eOp dSub (eC (.int 0)) (eVar 4)) [4])) aNil)) (aCons (eCall m__law_bare (aCons (eVar 3) aNil)) (aCons (eCallV (v1 dTuple) (aCons (eFz (eComp (iSeq (eVar 3)) (.nm 4) tYesD (eIf (eOp dGt (eVar 4) (eC (.int 0))) (eOp dAdd (eVar 4) (eVar 5)) (eOp dSub (eVar 4) (eVar 5))) [4])) aNil)) aNil))))))
  (sSeq (sIf (eNot (eCall (m__law_same 8) (aCons (eFz (eLst (aCons (eCall m_opposite (aCons (eVar 3) aNil)) (aCons (eCall m_freed (aCons (eVar 3) aNil)) (aCons (eCall m_moved_by (aCons (eVar 3) (aCons (eVar 5) aNil))) (aCons (eCall m_freed (aCons (eOp dAdd (eVar 3) (eCall m_opposite (aCons (eVar 3) aNil))) aNil)) aNil)))))) (aCons (eOp dAdd (eVar 6) (eFz (eLst (aCons (eTup aNil) aNil)))) aNil)))) (sRet (eC (.bool false))) sNil)
  (sSeq (sIf (eNot (eCall (m__law_same 8) (aCons (eFz (eLst (aCons (eCall m_is_braid (aCons (eVar 2) (aCons (eVar 3) aNil))) (aCons (eCall m_letters_used (aCons (eVar 2) (aCons (eVar 3) aNil))) aNil)))) (aCons (eFz (eLst (aCons (eC (.bool true)) (aCons (eCallV (v1 dTuple) (aCons (eFz (eComp (iRange2 (aCons (eC (.int 1)) (aCons (eVar 2) aNil))) (.nm 7) (eOp dIn (eVar 7) (eVar 10)) (eVar 7) [7])) aNil)) aNil)))) aNil)))) (sRet (eC (.bool false))) sNil)
  (sSeq (sPar 11 12 (aCons (eFz (eLst aNil)) (aCons (eC (.int 0)) aNil)))
  (sSeq (sFor (.nm 7) (iRange2 (aCons (eC (.int 1)) (aCons (eOp dAdd (eVar 2) (eC (.int 1))) aNil))) (sIf (eOr (eOp dEq (eVar 7) (eVar 2)) (eOp dNotIn (eVar 7) (eVar 10))) (sPar 11 12 (aCons (eOp dAdd (eVar 11) (eFz (eLst (aCons (eTup (aCons (eVar 12) (aCons (eVar 7) aNil))) aNil)))) (aCons (eVar 7) aNil))) sNil))
  (sSeq (sIf (eNot (eCall (m__law_same 8) (aCons (eCall m_blocks (aCons (eVar 2) (aCons (eVar 3) aNil))) (aCons (eCallV (v1 dTuple) (aCons (eVar 11) aNil)) aNil)))) (sRet (eC (.bool false))) sNil)
  (sSeq (sParT [13, 14] (aCons (eCall m__law_next (aCons (eVar 1) (aCons (eOp dAdd (eVar 2) (eC (.int 1))) aNil))) (aCons (eCall m__law_next (aCons (eVar 1) (aCons (eOp dAdd (eVar 2) (eC (.int 2))) aNil))) aNil)))
  (sSeq (sIf (eOp dEq (eCall m__law_next (aCons (eVar 1) (aCons (eC (.int 2)) aNil))) (eC (.int 0))) (sParT [13, 14] (aCons (eOp dIx (eOp dIx (eVar 11) (eCall m__law_next (aCons (eVar 1) (aCons (eCallV vLen (aCons (eVar 11) aNil)) aNil)))) (eC (.int 0))) (aCons (eOp dIx (eOp dIx (eVar 11) (eUn dNeg (eC (.int 1)))) (eC (.int 1))) aNil))) sNil)
  (sSeq (sAsg 8 (eAsk askP (eCall m_block_word (aCons (eVar 2) (aCons (eVar 3) (aCons (eVar 13) (aCons (eVar 14) aNil)))))))
  (sSeq (sIf (eOr (eNot (eChain (eC (.int 0)) [(dLe, (eVar 13)), (dLt, (eVar 14)), (dLe, (eVar 2))])) (eOr (eOp dIn (eVar 13) (eVar 10)) (eOp dIn (eVar 14) (eVar 10)))) (sIf (eOp dNe (eVar 8) (eTup (aCons (eC (.str "braid")) (aCons (eC (.str "block")) aNil)))) (sRet (eC (.bool false))) sNil) (sIf (eNot (eCall (m__law_same 8) (aCons (eVar 8) (aCons (eTup (aCons (eC (.str "told")) (aCons (eCallV (v1 dTuple) (aCons (eFz (eComp (iSeq (eVar 3)) (.nm 4) (eChain (eVar 13) [(dLt, (eCall m__law_size (aCons (eVar 4) aNil))), (dLt, (eVar 14))]) (eIf (eOp dGt (eVar 4) (eC (.int 0))) (eOp dSub (eVar 4) (eVar 13)) (eOp dAdd (eVar 4) (eVar 13))) [4])) aNil)) aNil))) aNil)))) (sRet (eC (.bool false))) sNil))
  (sRet (eAnd (eCall m__law_refused (aCons (eVar 1) aNil)) (eAnd (eOp dIsB (eCall m_is_braid (aCons (eC (.int 60)) (aCons (eTup (aCons (eC (.int 59)) (aCons (eOp dSub (eC (.int 0)) (eC (.int 59))) aNil))) aNil))) (eC (.bool true))) (eOp dIsB (eCall m_is_braid (aCons (eC (.int 1)) (aCons (eTup aNil) aNil))) (eC (.bool true)))))))))))))))))))))))
noncomputable def m_law : Mir := mk 1 16 b_law
/-! ### the walks -/
section
variable {P : Program} {w : World} {K : PySem.W.Frag} {mg : Str → Option Value} {base : Heap} {TT : List (Addr × Str)}
theorem sc_is_integer : FnScope N_is_integer ["value"] (defScope s_is_integer) := ⟨rfl, rfl, rfl, by decide +kernel, rfl, by decide +kernel, by decide +kernel⟩
theorem ok_is_integer {fa : Addr} {fd : FuncData} (T : Tx K mg) (F : Fun K "is_integer" "is_integer" s_is_integer fa fd) : FnOk P w K mg base (L2.CX P w) 1 fa fd ["value"] (spM ⟨K, mg, TT⟩ 1 m_is_integer) :=
  fn_mk F sc_is_integer rfl fun cdv A outer s H E hr => by
    have tk : Takes (cxOf (L2.CX P w) P w K mg base N_is_integer "is_integer" (defScope s_is_integer) fa cdv A outer s H E) (fun cls d _ H => E cls d H) := takes_of rfl rfl rfl rfl
    have hp : PassesOwn (model P w) (cxOf (L2.CX P w) P w K mg base N_is_integer "is_integer" (defScope s_is_integer) fa cdv A outer s H E).A (cxOf (L2.CX P w) P w K mg base N_is_integer "is_integer" (defScope s_is_integer) fa cdv A outer s H E).env (cxOf (L2.CX P w) P w K mg base N_is_integer "is_integer" (defScope s_is_integer) fa cdv A outer s H E).xe := passes_of rfl
    have nd : N_is_integer.Nodup := sc_is_integer.nd
    have hu4 := units4 hr
    have hu5 := units5 hr
    exact (dss_one (ds_ret (de_and (de_isi (by rfl) T.z_isinstance (by rfl) T.z_int (by first | decide +kernel | rfl) (de_var (pv 0))) (de_one (de_not (de_isi (by rfl) T.z_isinstance (by rfl) T.z_bool (by first | decide +kernel | rfl) (de_var (pv 0))))))))
theorem sc_is_strand_count : FnScope N_is_strand_count ["n"] (defScope s_is_strand_count) := ⟨rfl, rfl, rfl, by decide +kernel, rfl, by decide +kernel, by decide +kernel⟩
theorem ok_is_strand_count {fa : Addr} {fd : FuncData} (T : Tx K mg) (D_is_integer : DefK P w K mg base TT "is_integer" 1 1 m_is_integer) (F : Fun K "is_strand_count" "is_strand_count" s_is_strand_count fa fd) : FnOk P w K mg base (L2.CX P w) 2 fa fd ["n"] (spM ⟨K, mg, TT⟩ 1 m_is_strand_count) :=
  fn_mk F sc_is_strand_count rfl fun cdv A outer s H E hr => by
    have tk : Takes (cxOf (L2.CX P w) P w K mg base N_is_strand_count "is_strand_count" (defScope s_is_strand_count) fa cdv A outer s H E) (fun cls d _ H => E cls d H) := takes_of rfl rfl rfl rfl
    have hp : PassesOwn (model P w) (cxOf (L2.CX P w) P w K mg base N_is_strand_count "is_strand_count" (defScope s_is_strand_count) fa cdv A outer s H E).A (cxOf (L2.CX P w) P w K mg base N_is_strand_count "is_strand_count" (defScope s_is_strand_count) fa cdv A outer s H E).env (cxOf (L2.CX P w) P w K mg base N_is_strand_count "is_strand_count" (defScope s_is_strand_count) fa cdv A outer s H E).xe := passes_of rfl
    have nd : N_is_strand_count.Nodup := sc_is_strand_count.nd
    have hu4 := units4 hr
    have hu5 := units5 hr
    exact (dss_one (ds_ret (de_and (de_call D_is_integer mk_np (hr.mono (by decide)) tk (by rfl) (da_cons (de_var (pv 0)) da_nil)) (de_one (de_chain de_int (dch_cons op_le opD_le (de_var (pv 0)) (dch_last op_le opD_le (de_globE (by rfl) T.c_MOST_STRANDS))))))))
theorem sc_is_letter : FnScope N_is_letter ["n", "value"] (defScope s_is_letter) := ⟨rfl, rfl, rfl, by decide +kernel, rfl, by decide +kernel, by decide +kernel⟩
theorem ok_is_letter {fa : Addr} {fd : FuncData} (T : Tx K mg) (D_is_integer : DefK P w K mg base TT "is_integer" 1 1 m_is_integer) (F : Fun K "is_letter" "is_letter" s_is_letter fa fd) : FnOk P w K mg base (L2.CX P w) 2 fa fd ["n", "value"] (spM ⟨K, mg, TT⟩ 2 m_is_letter) :=
  fn_mk F sc_is_letter rfl fun cdv A outer s H E hr => by
    have tk : Takes (cxOf (L2.CX P w) P w K mg base N_is_letter "is_letter" (defScope s_is_letter) fa cdv A outer s H E) (fun cls d _ H => E cls d H) := takes_of rfl rfl rfl rfl
    have hp : PassesOwn (model P w) (cxOf (L2.CX P w) P w K mg base N_is_letter "is_letter" (defScope s_is_letter) fa cdv A outer s H E).A (cxOf (L2.CX P w) P w K mg base N_is_letter "is_letter" (defScope s_is_letter) fa cdv A outer s H E).env (cxOf (L2.CX P w) P w K mg base N_is_letter "is_letter" (defScope s_is_letter) fa cdv A outer s H E).xe := passes_of rfl
    have nd : N_is_letter.Nodup := sc_is_letter.nd
    have hu4 := units4 hr
    have hu5 := units5 hr
    exact (dss_one (ds_ret (de_and (de_call D_is_integer mk_np (hr.mono (by decide)) tk (by rfl) (da_cons (de_var (pv 1)) da_nil)) (de_one (de_chain de_int (dch_cons op_le opD_le (de_callB call_abs callD_abs (by rfl) T.z_abs (by first | decide +kernel | rfl) (da_cons (de_var (pv 1)) da_nil)) (dch_last op_lt opD_lt (de_var (pv 0)))))))))
theorem sc_is_braid : FnScope N_is_braid ["n", "value"] (defScope s_is_braid) := ⟨rfl, rfl, rfl, by decide +kernel, rfl, by decide +kernel, by decide +kernel⟩
theorem ok_is_braid {fa : Addr} {fd : FuncData} (T : Tx K mg) (D_is_strand_count : DefK P w K mg base TT "is_strand_count" 2 1 m_is_strand_count) (D_is_letter : DefK P w K mg base TT "is_letter" 2 2 m_is_letter) (F : Fun K "is_braid" "is_braid" s_is_braid fa fd) : FnOk P w K mg base (L2.CX P w) 3 fa fd ["n", "value"] (spM ⟨K, mg, TT⟩ 2 m_is_braid) :=
  fn_mk F sc_is_braid rfl fun cdv A outer s H E hr => by
    have tk : Takes (cxOf (L2.CX P w) P w K mg base N_is_braid "is_braid" (defScope s_is_braid) fa cdv A outer s H E) (fun cls d _ H => E cls d H) := takes_of rfl rfl rfl rfl
    have hp : PassesOwn (model P w) (cxOf (L2.CX P w) P w K mg base N_is_braid "is_braid" (defScope s_is_braid) fa cdv A outer s H E).A (cxOf (L2.CX P w) P w K mg base N_is_braid "is_braid" (defScope s_is_braid) fa cdv A outer s H E).env (cxOf (L2.CX P w) P w K mg base N_is_braid "is_braid" (defScope s_is_braid) fa cdv A outer s H E).xe := passes_of rfl
    have nd : N_is_braid.Nodup := sc_is_braid.nd
    have hu4 := units4 hr
    have hu5 := units5 hr
    exact (dss_cons (ds_if (L2.PW.pt (dw_or (dt_not (dt_val (de_call D_is_strand_count mk_np (hr.mono (by decide)) tk (by rfl) (da_cons (de_var (pv 0)) da_nil)))) (dw_or (dt_not (dt_val (de_isi (by rfl) T.z_isinstance (by rfl) T.z_tuple (by first | decide +kernel | rfl) (de_var (pv 1))))) (dw_or1 (dt_cmp op_gt opD_gt (de_callB call_len callD_len (by rfl) T.z_len (by first | decide +kernel | rfl) (da_cons (de_var (pv 1)) da_nil)) (de_globE (by rfl) T.c_MOST_LETTERS) (by rfl)))))) (dss_one (ds_ret de_bl)) dss_nil)
    (dss_one (ds_ret (de_callB (cr_all (by rfl)) callD_all (by rfl) T.z_all (by first | decide +kernel | rfl) (da_cons (de_fz (df_comp (own := [("letter", 2)]) (by rfl) nd (di_seq (de_var (pv 1))) (blkOk_by (by rfl)) (by decide) (fun _ _ _ _ _ => (dp_name (i := 2) nd (by rfl) (by first | exact .inl rfl | exact .inr rfl))) (fun _ _ _ _ _ => dts_nil) (fun _ _ _ _ _ => (de_call D_is_letter mk_np (hr.mono (by decide)) LamX.takes0 (by rfl) (da_cons (de_var (pv 0)) (da_cons (de_var (pv 2)) da_nil)))))) da_nil)))))
theorem sc_check_braid : FnScope N_check_braid ["n", "word"] (defScope s_check_braid) := ⟨rfl, rfl, rfl, by decide +kernel, rfl, by decide +kernel, by decide +kernel⟩
theorem ok_check_braid {fa : Addr} {fd : FuncData} (T : Tx K mg) (D_is_strand_count : DefK P w K mg base TT "is_strand_count" 2 1 m_is_strand_count) (D_is_letter : DefK P w K mg base TT "is_letter" 2 2 m_is_letter) {C_InvalidBraid : Addr} (X_InvalidBraid : ErrX K mg P w base "InvalidBraid" C_InvalidBraid) (F : Fun K "check_braid" "check_braid" s_check_braid fa fd) : FnOk P w K mg base (L2.CX P w) 3 fa fd ["n", "word"] (spM ⟨K, mg, TT⟩ 2 m_check_braid) :=
  fn_mk F sc_check_braid rfl fun cdv A outer s H E hr => by
    have tk : Takes (cxOf (L2.CX P w) P w K mg base N_check_braid "check_braid" (defScope s_check_braid) fa cdv A outer s H E) (fun cls d _ H => E cls d H) := takes_of rfl rfl rfl rfl
    have hp : PassesOwn (model P w) (cxOf (L2.CX P w) P w K mg base N_check_braid "check_braid" (defScope s_check_braid) fa cdv A outer s H E).A (cxOf (L2.CX P w) P w K mg base N_check_braid "check_braid" (defScope s_check_braid) fa cdv A outer s H E).env (cxOf (L2.CX P w) P w K mg base N_check_braid "check_braid" (defScope s_check_braid) fa cdv A outer s H E).xe := passes_of rfl
    have nd : N_check_braid.Nodup := sc_check_braid.nd
    have hu4 := units4 hr
    have hu5 := units5 hr
    have hr1 : Room (0 + 1) _ := hr.mono (by decide)
    exact (dss_cons (ds_if (dt_not (dt_val (de_call D_is_strand_count mk_np (hr.mono (by decide)) tk (by rfl) (da_cons (de_var (pv 0)) da_nil)))) (dss_one (ds_raise (by rfl) tk X_InvalidBraid hr1 de_str (by rfl))) dss_nil)
    (dss_cons (ds_if (L2.PW.pt (dw_or (dt_not (dt_val (de_isi (by rfl) T.z_isinstance (by rfl) T.z_tuple (by first | decide +kernel | rfl) (de_var (pv 1))))) (dw_or1 (dt_cmp op_gt opD_gt (de_callB call_len callD_len (by rfl) T.z_len (by first | decide +kernel | rfl) (da_cons (de_var (pv 1)) da_nil)) (de_globE (by rfl) T.c_MOST_LETTERS) (by rfl))))) (dss_one (ds_raise (by rfl) tk X_InvalidBraid hr1 de_str (by rfl))) dss_nil)
    (dss_one (ds_for hp (by rfl) (di_range1 (by rfl) T.z_range (da_cons (de_callB call_len callD_len (by rfl) T.z_len (by first | decide +kernel | rfl) (da_cons (de_var (pv 1)) da_nil)) da_nil)) (dp_name (i := 2) nd (by rfl) (by first | exact .inl rfl | exact .inr rfl)) (dss_one (ds_if (dt_not (dt_val (de_call D_is_letter mk_np (hr.mono (by decide)) tk (by rfl) (da_cons (de_var (pv 0)) (da_cons (de_ix (de_var (pv 1)) (de_var (pv 2)) (by intro _ _; rfl)) da_nil))))) (dss_one (ds_raise (by rfl) tk X_InvalidBraid hr1 (de_var (pv 2)) (by rfl))) dss_nil))))))
theorem sc_standing : FnScope N_standing ["n", "word"] (defScope s_standing) := ⟨rfl, rfl, rfl, by decide +kernel, rfl, by decide +kernel, by decide +kernel⟩
theorem ok_standing {fa : Addr} {fd : FuncData} (T : Tx K mg) (D_check_braid : DefK P w K mg base TT "check_braid" 3 2 m_check_braid) (F : Fun K "standing" "standing" s_standing fa fd) : FnOk P w K mg base (L2.CX P w) 4 fa fd ["n", "word"] (spM ⟨K, mg, TT⟩ 2 m_standing) :=
  fn_mk F sc_standing rfl fun cdv A outer s H E hr => by
    have tk : Takes (cxOf (L2.CX P w) P w K mg base N_standing "standing" (defScope s_standing) fa cdv A outer s H E) (fun cls d _ H => E cls d H) := takes_of rfl rfl rfl rfl
    have hp : PassesOwn (model P w) (cxOf (L2.CX P w) P w K mg base N_standing "standing" (defScope s_standing) fa cdv A outer s H E).A (cxOf (L2.CX P w) P w K mg base N_standing "standing" (defScope s_standing) fa cdv A outer s H E).env (cxOf (L2.CX P w) P w K mg base N_standing "standing" (defScope s_standing) fa cdv A outer s H E).xe := passes_of rfl
    have nd : N_standing.Nodup := sc_standing.nd
    have hu4 := units4 hr
    have hu5 := units5 hr
    exact (dss_cons (ds_expr (de_call D_check_braid mk_np (hr.mono (by decide)) tk (by rfl) (da_cons (de_var (pv 0)) (da_cons (de_var (pv 1)) da_nil))))
    (dss_cons (ds_set (i := 2) nd (by rfl) (by first | exact .inl rfl | exact .inr rfl) (de_new (df_listRg1 (by rfl) (by rfl) T.z_list (by rfl) T.z_range (de_var (pv 0)))))
    (dss_cons (ds_for hp (by rfl) (di_seq (de_var (pv 1))) (dp_name (i := 3) nd (by rfl) (by first | exact .inl rfl | exact .inr rfl)) (dss_cons (ds_set (i := 4) nd (by rfl) (by first | exact .inl rfl | exact .inr rfl) (de_callB call_abs callD_abs (by rfl) T.z_abs (by first | decide +kernel | rfl) (da_cons (de_var (pv 3)) da_nil)))
    (dss_one (ds_subs (by rfl) (de_tup (da_cons (de_ix (de_var (pv 2)) (de_var (pv 4)) (by intro _ _; rfl)) (da_cons (de_ix (de_var (pv 2)) (de_op op_sub opD_sub (de_var (pv 4)) de_int) (by intro _ _; rfl)) da_nil))) (dgs_cons (de_var (pv 2)) (de_op op_sub opD_sub (de_var (pv 4)) de_int) (dgs_cons (de_var (pv 2)) (de_var (pv 4)) dgs_nil))))))
    (dss_one (ds_ret (de_callTy call_tupleD callD_tuple (by rfl) T.z_tuple (by first | decide +kernel | rfl) (da_cons (de_var (pv 2)) da_nil)))))))
theorem sc_ends : FnScope N_ends ["n", "word"] (defScope s_ends) := ⟨rfl, rfl, rfl, by decide +kernel, rfl, by decide +kernel, by decide +kernel⟩
theorem ok_ends {fa : Addr} {fd : FuncData} (T : Tx K mg) (D_standing : DefK P w K mg base TT "standing" 4 2 m_standing) (F : Fun K "ends" "ends" s_ends fa fd) : FnOk P w K mg base (L2.CX P w) 5 fa fd ["n", "word"] (spM ⟨K, mg, TT⟩ 2 m_ends) :=
  fn_mk F sc_ends rfl fun cdv A outer s H E hr => by
    have tk : Takes (cxOf (L2.CX P w) P w K mg base N_ends "ends" (defScope s_ends) fa cdv A outer s H E) (fun cls d _ H => E cls d H) := takes_of rfl rfl rfl rfl
    have hp : PassesOwn (model P w) (cxOf (L2.CX P w) P w K mg base N_ends "ends" (defScope s_ends) fa cdv A outer s H E).A (cxOf (L2.CX P w) P w K mg base N_ends "ends" (defScope s_ends) fa cdv A outer s H E).env (cxOf (L2.CX P w) P w K mg base N_ends "ends" (defScope s_ends) fa cdv A outer s H E).xe := passes_of rfl
    have nd : N_ends.Nodup := sc_ends.nd
    have hu4 := units4 hr
    have hu5 := units5 hr
    exact (dss_cons (ds_set (i := 2) nd (by rfl) (by first | exact .inl rfl | exact .inr rfl) (de_call D_standing mk_np (hr.mono (by decide)) tk (by rfl) (da_cons (de_var (pv 0)) (da_cons (de_var (pv 1)) da_nil))))
    (dss_one (ds_ret (de_callTy call_tupleD callD_tuple (by rfl) T.z_tuple (by first | decide +kernel | rfl) (da_cons (de_fz (df_comp (own := [("place", 3)]) (by rfl) nd (di_range1 (by rfl) T.z_range (da_cons (de_var (pv 0)) da_nil)) (blkOk_by (by rfl)) (by decide) (fun _ _ _ _ _ => (dp_name (i := 3) nd (by rfl) (by first | exact .inl rfl | exact .inr rfl))) (fun _ _ _ _ _ => dts_nil) (fun _ _ _ _ _ => (de_index (de_var (pv 2)) (de_var (pv 3)))))) da_nil)))))
theorem sc_opposite : FnScope N_opposite ["word"] (defScope s_opposite) := ⟨rfl, rfl, rfl, by decide +kernel, rfl, by decide +kernel, by decide +kernel⟩
theorem ok_opposite {fa : Addr} {fd : FuncData} (T : Tx K mg) (F : Fun K "opposite" "opposite" s_opposite fa fd) : FnOk P w K mg base (L2.CX P w) 1 fa fd ["word"] (spM ⟨K, mg, TT⟩ 1 m_opposite) :=
  fn_mk F sc_opposite rfl fun cdv A outer s H E hr => by
    have tk : Takes (cxOf (L2.CX P w) P w K mg base N_opposite "opposite" (defScope s_opposite) fa cdv A outer s H E) (fun cls d _ H => E cls d H) := takes_of rfl rfl rfl rfl
    have hp : PassesOwn (model P w) (cxOf (L2.CX P w) P w K mg base N_opposite "opposite" (defScope s_opposite) fa cdv A outer s H E).A (cxOf (L2.CX P w) P w K mg base N_opposite "opposite" (defScope s_opposite) fa cdv A outer s H E).env (cxOf (L2.CX P w) P w K mg base N_opposite "opposite" (defScope s_opposite) fa cdv A outer s H E).xe := passes_of rfl
    have nd : N_opposite.Nodup := sc_opposite.nd
    have hu4 := units4 hr
    have hu5 := units5 hr
    exact (dss_one (ds_ret (de_callTy call_tupleD callD_tuple (by rfl) T.z_tuple (by first | decide +kernel | rfl) (da_cons (de_fz (df_comp (own := [("letter", 1)]) (by rfl) nd (di_rev (by rfl) T.z_reversed (de_var (pv 0))) (blkOk_by (by rfl)) (by decide) (fun _ _ _ _ _ => (dp_name (i := 1) nd (by rfl) (by first | exact .inl rfl | exact .inr rfl))) (fun _ _ _ _ _ => dts_nil) (fun _ _ _ _ _ => (de_un un_neg unD_neg (de_var (pv 1)))))) da_nil))))
theorem sc_freed : FnScope N_freed ["word"] (defScope s_freed) := ⟨rfl, rfl, rfl, by decide +kernel, rfl, by decide +kernel, by decide +kernel⟩
theorem ok_freed {fa : Addr} {fd : FuncData} (T : Tx K mg) (F : Fun K "freed" "freed" s_freed fa fd) : FnOk P w K mg base (L2.CX P w) 1 fa fd ["word"] (spM ⟨K, mg, TT⟩ 1 m_freed) :=
  fn_mk F sc_freed rfl fun cdv A outer s H E hr => by
    have tk : Takes (cxOf (L2.CX P w) P w K mg base N_freed "freed" (defScope s_freed) fa cdv A outer s H E) (fun cls d _ H => E cls d H) := takes_of rfl rfl rfl rfl
    have hp : PassesOwn (model P w) (cxOf (L2.CX P w) P w K mg base N_freed "freed" (defScope s_freed) fa cdv A outer s H E).A (cxOf (L2.CX P w) P w K mg base N_freed "freed" (defScope s_freed) fa cdv A outer s H E).env (cxOf (L2.CX P w) P w K mg base N_freed "freed" (defScope s_freed) fa cdv A outer s H E).xe := passes_of rfl
    have nd : N_freed.Nodup := sc_freed.nd
    have hu4 := units4 hr
    have hu5 := units5 hr
    exact (dss_cons (ds_set (i := 1) nd (by rfl) (by first | exact .inl rfl | exact .inr rfl) (de_new (df_lst da_nil)))
    (dss_cons (ds_for hp (by rfl) (di_seq (de_var (pv 0))) (dp_name (i := 2) nd (by rfl) (by first | exact .inl rfl | exact .inr rfl)) (dss_one (ds_if (L2.PW.pt (dw_and (dt_cmp (op_neD hu4) opD_ne (de_var (pv 1)) (de_fz (df_lst da_nil)) (by rfl)) (dw_and1 (dt_cmp (op_eqD hu4) opD_eq (de_ix (de_var (pv 1)) (de_un un_neg unD_neg de_int) (by intro _ _; rfl)) (de_un un_neg unD_neg (de_var (pv 2))) (by rfl))))) (dss_one (ds_expr (de_pop (de_var (pv 1))))) (dss_one (ds_expr (de_append (de_var (pv 1)) (da_cons (de_var (pv 2)) da_nil)))))))
    (dss_one (ds_ret (de_callTy call_tupleD callD_tuple (by rfl) T.z_tuple (by first | decide +kernel | rfl) (da_cons (de_var (pv 1)) da_nil))))))
theorem sc_moved_by : FnScope N_moved_by ["word", "many"] (defScope s_moved_by) := ⟨rfl, rfl, rfl, by decide +kernel, rfl, by decide +kernel, by decide +kernel⟩
theorem ok_moved_by {fa : Addr} {fd : FuncData} (T : Tx K mg) (F : Fun K "moved_by" "moved_by" s_moved_by fa fd) : FnOk P w K mg base (L2.CX P w) 1 fa fd ["word", "many"] (spM ⟨K, mg, TT⟩ 2 m_moved_by) :=
  fn_mk F sc_moved_by rfl fun cdv A outer s H E hr => by
    have tk : Takes (cxOf (L2.CX P w) P w K mg base N_moved_by "moved_by" (defScope s_moved_by) fa cdv A outer s H E) (fun cls d _ H => E cls d H) := takes_of rfl rfl rfl rfl
    have hp : PassesOwn (model P w) (cxOf (L2.CX P w) P w K mg base N_moved_by "moved_by" (defScope s_moved_by) fa cdv A outer s H E).A (cxOf (L2.CX P w) P w K mg base N_moved_by "moved_by" (defScope s_moved_by) fa cdv A outer s H E).env (cxOf (L2.CX P w) P w K mg base N_moved_by "moved_by" (defScope s_moved_by) fa cdv A outer s H E).xe := passes_of rfl
    have nd : N_moved_by.Nodup := sc_moved_by.nd
    have hu4 := units4 hr
    have hu5 := units5 hr
    exact (dss_one (ds_ret (de_callTy call_tupleD callD_tuple (by rfl) T.z_tuple (by first | decide +kernel | rfl) (da_cons (de_fz (df_comp (own := [("letter", 2)]) (by rfl) nd (di_seq (de_var (pv 0))) (blkOk_by (by rfl)) (by decide) (fun _ _ _ _ _ => (dp_name (i := 2) nd (by rfl) (by first | exact .inl rfl | exact .inr rfl))) (fun _ _ _ _ _ => dts_nil) (fun _ _ _ _ _ => (de_if (dt_cmp op_gt opD_gt (de_var (pv 2)) de_int (by rfl)) (de_op op_addD opD_add (de_var (pv 2)) (de_var (pv 1))) (de_op op_sub opD_sub (de_var (pv 2)) (de_var (pv 1))))))) da_nil))))
theorem sc_letters_used : FnScope N_letters_used ["n", "word"] (defScope s_letters_used) := ⟨rfl, rfl, rfl, by decide +kernel, rfl, by decide +kernel, by decide +kernel⟩
theorem ok_letters_used {fa : Addr} {fd : FuncData} (T : Tx K mg) (D_check_braid : DefK P w K mg base TT "check_braid" 3 2 m_check_braid) (F : Fun K "letters_used" "letters_used" s_letters_used fa fd) : FnOk P w K mg base (L2.CX P w) 4 fa fd ["n", "word"] (spM ⟨K, mg, TT⟩ 2 m_letters_used) :=
  fn_mk F sc_letters_used rfl fun cdv A outer s H E hr => by
    have tk : Takes (cxOf (L2.CX P w) P w K mg base N_letters_used "letters_used" (defScope s_letters_used) fa cdv A outer s H E) (fun cls d _ H => E cls d H) := takes_of rfl rfl rfl rfl
    have hp : PassesOwn (model P w) (cxOf (L2.CX P w) P w K mg base N_letters_used "letters_used" (defScope s_letters_used) fa cdv A outer s H E).A (cxOf (L2.CX P w) P w K mg base N_letters_used "letters_used" (defScope s_letters_used) fa cdv A outer s H E).env (cxOf (L2.CX P w) P w K mg base N_letters_used "letters_used" (defScope s_letters_used) fa cdv A outer s H E).xe := passes_of rfl
    have nd : N_letters_used.Nodup := sc_letters_used.nd
    have hu4 := units4 hr
    have hu5 := units5 hr
    exact (dss_cons (ds_expr (de_call D_check_braid mk_np (hr.mono (by decide)) tk (by rfl) (da_cons (de_var (pv 0)) (da_cons (de_var (pv 1)) da_nil))))
    (dss_one (ds_ret (de_callTy call_tupleD callD_tuple (by rfl) T.z_tuple (by first | decide +kernel | rfl) (da_cons (de_fz (df_sortK (by rfl) (by rfl) T.z_sorted (by first | decide +kernel | rfl) (dk_comp (own := [("letter", 2)]) (by rfl) nd (di_seq (de_var (pv 1))) (blkOk_by (by rfl)) (by decide) (fun _ _ _ _ _ => (dp_name (i := 2) nd (by rfl) (by first | exact .inl rfl | exact .inr rfl))) (fun _ _ _ _ _ => dts_nil) (fun _ _ _ _ _ => (de_callB call_abs callD_abs (by rfl) T.z_abs (by first | decide +kernel | rfl) (da_cons (de_var (pv 2)) da_nil))) (fun _ _ _ _ _ => de_bl)))) da_nil)))))
theorem sc_blocks : FnScope N_blocks ["n", "word"] (defScope s_blocks) := ⟨rfl, rfl, rfl, by decide +kernel, rfl, by decide +kernel, by decide +kernel⟩
theorem ok_blocks {fa : Addr} {fd : FuncData} (T : Tx K mg) (D_letters_used : DefK P w K mg base TT "letters_used" 4 2 m_letters_used) (F : Fun K "blocks" "blocks" s_blocks fa fd) : FnOk P w K mg base (L2.CX P w) 5 fa fd ["n", "word"] (spM ⟨K, mg, TT⟩ 2 m_blocks) :=
  fn_mk F sc_blocks rfl fun cdv A outer s H E hr => by
    have tk : Takes (cxOf (L2.CX P w) P w K mg base N_blocks "blocks" (defScope s_blocks) fa cdv A outer s H E) (fun cls d _ H => E cls d H) := takes_of rfl rfl rfl rfl
    have hp : PassesOwn (model P w) (cxOf (L2.CX P w) P w K mg base N_blocks "blocks" (defScope s_blocks) fa cdv A outer s H E).A (cxOf (L2.CX P w) P w K mg base N_blocks "blocks" (defScope s_blocks) fa cdv A outer s H E).env (cxOf (L2.CX P w) P w K mg base N_blocks "blocks" (defScope s_blocks) fa cdv A outer s H E).xe := passes_of rfl
    have nd : N_blocks.Nodup := sc_blocks.nd
    have hu4 := units4 hr
    have hu5 := units5 hr
    exact (dss_cons (ds_set (i := 2) nd (by rfl) (by first | exact .inl rfl | exact .inr rfl) (de_call D_letters_used mk_np (hr.mono (by decide)) tk (by rfl) (da_cons (de_var (pv 0)) (da_cons (de_var (pv 1)) da_nil))))
    (dss_cons (ds_set (i := 3) nd (by rfl) (by first | exact .inl rfl | exact .inr rfl) (de_op op_addD opD_add (de_op op_addD opD_add (de_fz (df_lst (da_cons de_int da_nil))) (de_fz (df_comp (own := [("k", 4)]) (by rfl) nd (di_range2 (by rfl) T.z_range (da_cons de_int (da_cons (de_var (pv 0)) da_nil))) (blkOk_by (by rfl)) (by decide) (fun _ _ _ _ _ => (dp_name (i := 4) nd (by rfl) (by first | exact .inl rfl | exact .inr rfl))) (fun _ _ _ _ _ => (dts_one (dt_cmp (op_notIn_seq.or (op_notInD hu5)) opD_notIn (de_var (pv 4)) (de_var (pv 2)) (by rfl)))) (fun _ _ _ _ _ => (de_var (pv 4)))))) (de_fz (df_lst (da_cons (de_var (pv 0)) da_nil)))))
    (dss_one (ds_ret (de_callTy call_tupleD callD_tuple (by rfl) T.z_tuple (by first | decide +kernel | rfl) (da_cons (de_fz (df_comp (own := [("k", 4)]) (by rfl) nd (di_range1 (by rfl) T.z_range (da_cons (de_op op_sub opD_sub (de_callB call_len callD_len (by rfl) T.z_len (by first | decide +kernel | rfl) (da_cons (de_var (pv 3)) da_nil)) de_int) da_nil)) (blkOk_by (by rfl)) (by decide) (fun _ _ _ _ _ => (dp_name (i := 4) nd (by rfl) (by first | exact .inl rfl | exact .inr rfl))) (fun _ _ _ _ _ => dts_nil) (fun _ _ _ _ _ => (de_tup (da_cons (de_ix (de_var (pv 3)) (de_var (pv 4)) (by intro _ _; rfl)) (da_cons (de_ix (de_var (pv 3)) (de_op op_addD opD_add (de_var (pv 4)) de_int) (by intro _ _; rfl)) da_nil)))))) da_nil))))))
theorem sc_block_word : FnScope N_block_word ["n", "word", "first", "beyond"] (defScope s_block_word) := ⟨rfl, rfl, rfl, by decide +kernel, rfl, by decide +kernel, by decide +kernel⟩
theorem ok_block_word {fa : Addr} {fd : FuncData} (T : Tx K mg) (D_letters_used : DefK P w K mg base TT "letters_used" 4 2 m_letters_used) (D_is_integer : DefK P w K mg base TT "is_integer" 1 1 m_is_integer) (D_moved_by : DefK P w K mg base TT "moved_by" 1 2 m_moved_by) {C_InvalidBraid : Addr} (X_InvalidBraid : ErrX K mg P w base "InvalidBraid" C_InvalidBraid) (F : Fun K "block_word" "block_word" s_block_word fa fd) : FnOk P w K mg base (L2.CX P w) 5 fa fd ["n", "word", "first", "beyond"] (spM ⟨K, mg, TT⟩ 4 m_block_word) :=
  fn_mk F sc_block_word rfl fun cdv A outer s H E hr => by
    have tk : Takes (cxOf (L2.CX P w) P w K mg base N_block_word "block_word" (defScope s_block_word) fa cdv A outer s H E) (fun cls d _ H => E cls d H) := takes_of rfl rfl rfl rfl
    have hp : PassesOwn (model P w) (cxOf (L2.CX P w) P w K mg base N_block_word "block_word" (defScope s_block_word) fa cdv A outer s H E).A (cxOf (L2.CX P w) P w K mg base N_block_word "block_word" (defScope s_block_word) fa cdv A outer s H E).env (cxOf (L2.CX P w) P w K mg base N_block_word "block_word" (defScope s_block_word) fa cdv A outer s H E).xe := passes_of rfl
    have nd : N_block_word.Nodup := sc_block_word.nd
    have hu4 := units4 hr
    have hu5 := units5 hr
    have hr1 : Room (0 + 1) _ := hr.mono (by decide)
    exact (dss_cons (ds_set (i := 4) nd (by rfl) (by first | exact .inl rfl | exact .inr rfl) (de_call D_letters_used mk_np (hr.mono (by decide)) tk (by rfl) (da_cons (de_var (pv 0)) (da_cons (de_var (pv 1)) da_nil))))
    (dss_cons (ds_if (L2.PW.pt (dw_or (dt_not (dt_val (de_call D_is_integer mk_np (hr.mono (by decide)) tk (by rfl) (da_cons (de_var (pv 2)) da_nil)))) (dw_or (dt_not (dt_val (de_call D_is_integer mk_np (hr.mono (by decide)) tk (by rfl) (da_cons (de_var (pv 3)) da_nil)))) (dw_or1 (dt_not (dt_chain de_int (dth_cons op_le opD_le (de_var (pv 2)) (dth_cons op_lt opD_lt (de_var (pv 3)) (dth_last op_le opD_le (de_var (pv 0))))))))))) (dss_one (ds_raise (by rfl) tk X_InvalidBraid hr1 de_str (by rfl))) dss_nil)
    (dss_cons (ds_if (L2.PW.pt (dw_or (dt_cmp (op_in_seq.or (op_inD hu5)) opD_in (de_var (pv 2)) (de_var (pv 4)) (by rfl)) (dw_or1 (dt_cmp (op_in_seq.or (op_inD hu5)) opD_in (de_var (pv 3)) (de_var (pv 4)) (by rfl))))) (dss_one (ds_raise (by rfl) tk X_InvalidBraid hr1 de_str (by rfl))) dss_nil)
    (dss_cons (ds_setLc (i := 5) (w := eFz) (.inl rfl) (own := [("letter", 6)]) (by rfl) nd (by rfl) (by rfl) (by rfl) (di_seq (de_var (pv 1))) (blkOk_by (by rfl)) (by decide) (fun _ _ _ _ _ => (dp_name (i := 6) nd (by rfl) (by first | exact .inl rfl | exact .inr rfl))) (fun _ _ _ _ _ => (dts_one (dt_chain (de_var (pv 2)) (dth_cons op_lt opD_lt (de_callB call_abs callD_abs (by rfl) T.z_abs (by first | decide +kernel | rfl) (da_cons (de_var (pv 6)) da_nil)) (dth_last op_lt opD_lt (de_var (pv 3))))))) (fun _ _ _ _ _ => (de_var (pv 6))))
    (dss_one (ds_ret (de_call D_moved_by mk_np (hr.mono (by decide)) tk (by rfl) (da_cons (de_var (pv 5)) (da_cons (de_un un_neg unD_neg (de_var (pv 2))) da_nil)))))))))
theorem sc__law_next : FnScope N__law_next ["tape", "many"] (defScope s__law_next) := ⟨rfl, rfl, rfl, by decide +kernel, rfl, by decide +kernel, by decide +kernel⟩
theorem ok__law_next {fa : Addr} {fd : FuncData} (T : Tx K mg) (F : Fun K "_law_next" "_law_next" s__law_next fa fd) : FnOk P w K mg base (L2.CX P w) 1 fa fd ["tape", "many"] (spM ⟨K, mg, TT⟩ 2 m__law_next) :=
  fn_mk F sc__law_next rfl fun cdv A outer s H E hr => by
    have tk : Takes (cxOf (L2.CX P w) P w K mg base N__law_next "_law_next" (defScope s__law_next) fa cdv A outer s H E) (fun cls d _ H => E cls d H) := takes_of rfl rfl rfl rfl
    have hp : PassesOwn (model P w) (cxOf (L2.CX P w) P w K mg base N__law_next "_law_next" (defScope s__law_next) fa cdv A outer s H E).A (cxOf (L2.CX P w) P w K mg base N__law_next "_law_next" (defScope s__law_next) fa cdv A outer s H E).env (cxOf (L2.CX P w) P w K mg base N__law_next "_law_next" (defScope s__law_next) fa cdv A outer s H E).xe := passes_of rfl
    have nd : N__law_next.Nodup := sc__law_next.nd
    have hu4 := units4 hr
    have hu5 := units5 hr
    exact (dss_cons (ds_set (i := 2) nd (by rfl) (by first | exact .inl rfl | exact .inr rfl) (de_ix (de_var (pv 0)) de_int (by intro _ _; rfl)))
    (dss_cons (ds_if (dt_cmp (op_eqD hu4) opD_eq (de_var (pv 2)) de_int (by rfl)) (dss_cons (ds_set (i := 3) nd (by rfl) (by first | exact .inl rfl | exact .inr rfl) de_int)
    (dss_cons (ds_if (dt_cmp op_lt opD_lt (de_ix (de_var (pv 0)) de_int (by intro _ _; rfl)) (de_callB call_len callD_len (by rfl) T.z_len (by first | decide +kernel | rfl) (da_cons (de_ix (de_var (pv 0)) de_int (by intro _ _; rfl)) da_nil)) (by rfl)) (dss_cons (ds_set (i := 3) nd (by rfl) (by first | exact .inl rfl | exact .inr rfl) (de_callB call_abs callD_abs (by rfl) T.z_abs (by first | decide +kernel | rfl) (da_cons (de_callTy call_int1 callD_int (by rfl) T.z_int (by first | decide +kernel | rfl) (da_cons (de_ix (de_ix (de_var (pv 0)) de_int (by intro _ _; rfl)) (de_ix (de_var (pv 0)) de_int (by intro _ _; rfl)) (by intro _ _; rfl)) da_nil)) da_nil)))
    (dss_one (ds_sub1 (de_var (pv 0)) de_int (de_op op_addD opD_add (de_ix (de_var (pv 0)) de_int (by intro _ _; rfl)) de_int)))) dss_nil)
    (dss_cons (ds_set (i := 2) nd (by rfl) (by first | exact .inl rfl | exact .inr rfl) (de_var (pv 3)))
    (dss_one (ds_if (dt_cmp op_lt opD_lt (de_var (pv 3)) (de_op op_pow opD_pow de_int de_int) (by rfl)) (dss_cons (ds_sub1 (de_var (pv 0)) de_int (de_op op_modN opD_mod (de_callTy call_int1 callD_int (by rfl) T.z_int (by first | decide +kernel | rfl) (da_cons (de_op op_addD opD_add (de_op op_addD opD_add (de_op op_mulD opD_mul (de_ix (de_var (pv 0)) de_int (by intro _ _; rfl)) de_int) (de_op op_mulD opD_mul (de_var (pv 3)) de_int)) de_int) da_nil)) de_int))
    (dss_one (ds_ret (de_op op_modN opD_mod (de_op op_modN opD_mod (de_callTy call_int1 callD_int (by rfl) T.z_int (by first | decide +kernel | rfl) (da_cons (de_op op_mulD opD_mul (de_callTy call_int1 callD_int (by rfl) T.z_int (by first | decide +kernel | rfl) (da_cons (de_op op_fdivN opD_fdiv (de_ix (de_var (pv 0)) de_int (by intro _ _; rfl)) de_int) da_nil)) de_int) da_nil)) de_int) (de_var (pv 1)))))) dss_nil))))) dss_nil)
    (dss_cons (ds_sub1 (de_var (pv 0)) de_int (de_op op_fdivN opD_fdiv (de_var (pv 2)) (de_var (pv 1))))
    (dss_one (ds_ret (de_op op_modN opD_mod (de_callTy call_int1 callD_int (by rfl) T.z_int (by first | decide +kernel | rfl) (da_cons (de_var (pv 2)) da_nil)) (de_var (pv 1))))))))
theorem sc__law_same : FnScope N__law_same ["told", "due"] (defScope s__law_same) := ⟨rfl, rfl, rfl, by decide +kernel, rfl, by decide +kernel, by decide +kernel⟩
theorem ok__law_same {fa : Addr} {fd : FuncData} (T : Tx K mg) (F : Fun K "_law_same" "_law_same" s__law_same fa fd) (hm : mg "_law_same" = some (.ref fa)) (hk : PySem.W.keepIn K (.ref fa) = true) (hb : Binds K fd ["told", "due"] []) : ∀ k : Nat, FnOk P w K mg base (L2.CX P w) k fa fd ["told", "due"] (spM ⟨K, mg, TT⟩ 2 (m__law_same k))
  | 0 => fn_no
  | k + 1 => by
    have D_self : DefK P w K mg base TT "_law_same" k 2 (m__law_same k) := ⟨fa, fd, ["told", "due"], rfl, ok__law_same T  F hm hk hb k, hm, hk, hb⟩
    have hm_self := np__law_same k
    refine fn_mk F sc__law_same rfl fun cdv A outer s H E hr => ?_
    have tk : Takes (cxOf (L2.CX P w) P w K mg base N__law_same "_law_same" (defScope s__law_same) fa cdv A outer s H E) (fun cls d _ H => E cls d H) := takes_of rfl rfl rfl rfl
    have hp : PassesOwn (model P w) (cxOf (L2.CX P w) P w K mg base N__law_same "_law_same" (defScope s__law_same) fa cdv A outer s H E).A (cxOf (L2.CX P w) P w K mg base N__law_same "_law_same" (defScope s__law_same) fa cdv A outer s H E).env (cxOf (L2.CX P w) P w K mg base N__law_same "_law_same" (defScope s__law_same) fa cdv A outer s H E).xe := passes_of rfl
    have nd : N__law_same.Nodup := sc__law_same.nd
    have hu4 := units4 hr
    have hu5 := units5 hr
    exact (dss_cons (ds_if (dt_cmp op_isD opD_isB (de_var (pv 1)) de_non (by rfl)) (dss_one (ds_ret (de_cmp op_isD opD_isB (de_var (pv 0)) de_non (by rfl)))) dss_nil)
    (dss_cons (ds_if (dt_val (de_isi (by rfl) T.z_isinstance (by rfl) T.z_bool (by first | decide +kernel | rfl) (de_var (pv 1)))) (dss_one (ds_ret (de_and (de_isi (by rfl) T.z_isinstance (by rfl) T.z_bool (by first | decide +kernel | rfl) (de_var (pv 0))) (de_one (de_cmp (op_eqD hu4) opD_eq (de_var (pv 0)) (de_var (pv 1)) (by rfl)))))) dss_nil)
    (dss_cons (ds_if (dt_val (de_isi (by rfl) T.z_isinstance (by rfl) T.z_int (by first | decide +kernel | rfl) (de_var (pv 1)))) (dss_one (ds_ret (de_and (de_isi (by rfl) T.z_isinstance (by rfl) T.z_int (by first | decide +kernel | rfl) (de_var (pv 0))) (de_and (de_not (de_isi (by rfl) T.z_isinstance (by rfl) T.z_bool (by first | decide +kernel | rfl) (de_var (pv 0)))) (de_one (de_cmp (op_eqD hu4) opD_eq (de_var (pv 0)) (de_var (pv 1)) (by rfl))))))) dss_nil)
    (dss_cons (ds_if (dt_val (de_isi (by rfl) T.z_isinstance (by rfl) T.z_str (by first | decide +kernel | rfl) (de_var (pv 1)))) (dss_one (ds_ret (de_and (de_isi (by rfl) T.z_isinstance (by rfl) T.z_str (by first | decide +kernel | rfl) (de_var (pv 0))) (de_one (de_cmp (op_eqD hu4) opD_eq (de_var (pv 0)) (de_var (pv 1)) (by rfl)))))) dss_nil)
    (dss_cons (ds_if (L2.PW.pt (dw_or (L2.PW.pt (dw_and (dt_val (de_isi (by rfl) T.z_isinstance (by rfl) T.z_list (by first | decide +kernel | rfl) (de_var (pv 1)))) (dw_and1 (dt_not (dt_val (de_isi (by rfl) T.z_isinstance (by rfl) T.z_list (by first | decide +kernel | rfl) (de_var (pv 0)))))))) (dw_or1 (L2.PW.pt (dw_and (dt_val (de_isi (by rfl) T.z_isinstance (by rfl) T.z_tuple (by first | decide +kernel | rfl) (de_var (pv 1)))) (dw_and1 (dt_not (dt_val (de_isi (by rfl) T.z_isinstance (by rfl) T.z_tuple (by first | decide +kernel | rfl) (de_var (pv 0))))))))))) (dss_one (ds_ret de_bl)) dss_nil)
    (dss_one (ds_ret (de_and (de_cmp (op_eqD hu4) opD_eq (de_callB call_len callD_len (by rfl) T.z_len (by first | decide +kernel | rfl) (da_cons (de_var (pv 0)) da_nil)) (de_callB call_len callD_len (by rfl) T.z_len (by first | decide +kernel | rfl) (da_cons (de_var (pv 1)) da_nil)) (by rfl)) (de_one (de_cmp (op_eqD hu4) opD_eq (de_fz (df_comp (own := [("k", 2)]) (by rfl) nd (di_range1 (by rfl) T.z_range (da_cons (de_callB call_len callD_len (by rfl) T.z_len (by first | decide +kernel | rfl) (da_cons (de_var (pv 1)) da_nil)) da_nil)) (blkOk_by (by rfl)) (by decide) (fun _ _ _ _ _ => (dp_name (i := 2) nd (by rfl) (by first | exact .inl rfl | exact .inr rfl))) (fun _ _ _ _ _ => (dts_one (dt_not (dt_val (de_call D_self hm_self (hr.mono (Nat.le_refl _)) LamX.takes0 (by rfl) (da_cons (de_ix (de_var (pv 0)) (de_var (pv 2)) (by intro _ _; rfl)) (da_cons (de_ix (de_var (pv 1)) (de_var (pv 2)) (by intro _ _; rfl)) da_nil))))))) (fun _ _ _ _ _ => de_int))) (de_fz (df_lst da_nil)) (by rfl)))))))))))
theorem sc__law_word : FnScope N__law_word ["tape", "n", "most"] (defScope s__law_word) := ⟨rfl, rfl, rfl, by decide +kernel, rfl, by decide +kernel, by decide +kernel⟩
theorem ok__law_word {fa : Addr} {fd : FuncData} (T : Tx K mg) (D__law_next : DefK P w K mg base TT "_law_next" 1 2 m__law_next) (F : Fun K "_law_word" "_law_word" s__law_word fa fd) : FnOk P w K mg base (L2.CX P w) 2 fa fd ["tape", "n", "most"] (spM ⟨K, mg, TT⟩ 3 m__law_word) :=
  fn_mk F sc__law_word rfl fun cdv A outer s H E hr => by
    have tk : Takes (cxOf (L2.CX P w) P w K mg base N__law_word "_law_word" (defScope s__law_word) fa cdv A outer s H E) (fun cls d _ H => E cls d H) := takes_of rfl rfl rfl rfl
    have hp : PassesOwn (model P w) (cxOf (L2.CX P w) P w K mg base N__law_word "_law_word" (defScope s__law_word) fa cdv A outer s H E).A (cxOf (L2.CX P w) P w K mg base N__law_word "_law_word" (defScope s__law_word) fa cdv A outer s H E).env (cxOf (L2.CX P w) P w K mg base N__law_word "_law_word" (defScope s__law_word) fa cdv A outer s H E).xe := passes_of rfl
    have nd : N__law_word.Nodup := sc__law_word.nd
    have hu4 := units4 hr
    have hu5 := units5 hr
    exact (dss_cons (ds_if (dt_cmp op_lt opD_lt (de_var (pv 1)) de_int (by rfl)) (dss_one (ds_ret (de_tup da_nil))) dss_nil)
    (dss_one (ds_ret (de_callTy call_tupleD callD_tuple (by rfl) T.z_tuple (by first | decide +kernel | rfl) (da_cons (de_fz (df_comp (own := [("k", 3)]) (by rfl) nd (di_range1 (by rfl) T.z_range (da_cons (de_call D__law_next mk_np (hr.mono (by decide)) tk (by rfl) (da_cons (de_var (pv 0)) (da_cons (de_op op_addD opD_add (de_var (pv 2)) de_int) da_nil))) da_nil)) (blkOk_by (by rfl)) (by decide) (fun _ _ _ _ _ => (dp_name (i := 3) nd (by rfl) (by first | exact .inl rfl | exact .inr rfl))) (fun _ _ _ _ _ => dts_nil) (fun _ _ _ _ _ => (de_op op_mulD opD_mul (de_op op_addD opD_add de_int (de_call D__law_next mk_np (hr.mono (by decide)) LamX.takes0 (by rfl) (da_cons (de_var (pv 0)) (da_cons (de_op op_sub opD_sub (de_var (pv 1)) de_int) da_nil)))) (de_op op_sub opD_sub de_int (de_op op_mulD opD_mul de_int (de_call D__law_next mk_np (hr.mono (by decide)) LamX.takes0 (by rfl) (da_cons (de_var (pv 0)) (da_cons de_int da_nil))))))))) da_nil)))))
theorem sc__law_size : FnScope N__law_size ["letter"] (defScope s__law_size) := ⟨rfl, rfl, rfl, by decide +kernel, rfl, by decide +kernel, by decide +kernel⟩
theorem ok__law_size {fa : Addr} {fd : FuncData} (T : Tx K mg) (F : Fun K "_law_size" "_law_size" s__law_size fa fd) : FnOk P w K mg base (L2.CX P w) 1 fa fd ["letter"] (spM ⟨K, mg, TT⟩ 1 m__law_size) :=
  fn_mk F sc__law_size rfl fun cdv A outer s H E hr => by
    have tk : Takes (cxOf (L2.CX P w) P w K mg base N__law_size "_law_size" (defScope s__law_size) fa cdv A outer s H E) (fun cls d _ H => E cls d H) := takes_of rfl rfl rfl rfl
    have hp : PassesOwn (model P w) (cxOf (L2.CX P w) P w K mg base N__law_size "_law_size" (defScope s__law_size) fa cdv A outer s H E).A (cxOf (L2.CX P w) P w K mg base N__law_size "_law_size" (defScope s__law_size) fa cdv A outer s H E).env (cxOf (L2.CX P w) P w K mg base N__law_size "_law_size" (defScope s__law_size) fa cdv A outer s H E).xe := passes_of rfl
    have nd : N__law_size.Nodup := sc__law_size.nd
    have hu4 := units4 hr
    have hu5 := units5 hr
    exact (dss_one (ds_ret (de_if (dt_cmp op_gt opD_gt (de_var (pv 0)) de_int (by rfl)) (de_var (pv 0)) (de_op op_sub opD_sub de_int (de_var (pv 0))))))
theorem sc__law_bare : FnScope N__law_bare ["word"] (defScope s__law_bare) := ⟨rfl, rfl, rfl, by decide +kernel, rfl, by decide +kernel, by decide +kernel⟩
theorem ok__law_bare {fa : Addr} {fd : FuncData} (T : Tx K mg) (F : Fun K "_law_bare" "_law_bare" s__law_bare fa fd) : FnOk P w K mg base (L2.CX P w) 1 fa fd ["word"] (spM ⟨K, mg, TT⟩ 1 m__law_bare) :=
  fn_mk F sc__law_bare rfl fun cdv A outer s H E hr => by
    have tk : Takes (cxOf (L2.CX P w) P w K mg base N__law_bare "_law_bare" (defScope s__law_bare) fa cdv A outer s H E) (fun cls d _ H => E cls d H) := takes_of rfl rfl rfl rfl
    have hp : PassesOwn (model P w) (cxOf (L2.CX P w) P w K mg base N__law_bare "_law_bare" (defScope s__law_bare) fa cdv A outer s H E).A (cxOf (L2.CX P w) P w K mg base N__law_bare "_law_bare" (defScope s__law_bare) fa cdv A outer s H E).env (cxOf (L2.CX P w) P w K mg base N__law_bare "_law_bare" (defScope s__law_bare) fa cdv A outer s H E).xe := passes_of rfl
    have nd : N__law_bare.Nodup := sc__law_bare.nd
    have hu4 := units4 hr
    have hu5 := units5 hr
    exact (dss_cons (ds_par (by rfl) nd (by rfl) (by rfl) (by decide) (by rfl) (by rfl) (da_cons (de_fz (df_callTy call_list_of callF_list (by rfl) T.z_list (by first | decide +kernel | rfl) (da_cons (de_var (pv 0)) da_nil))) (da_cons de_int da_nil)) (by rfl))
    (dss_cons (ds_while hp (dt_cmp op_lt opD_lt (de_op op_addD opD_add (de_var (pv 2)) de_int) (de_callB call_len callD_len (by rfl) T.z_len (by first | decide +kernel | rfl) (da_cons (de_var (pv 1)) da_nil)) (by rfl)) (dss_one (ds_if (dt_cmp (op_eqD hu4) opD_eq (de_ix (de_var (pv 1)) (de_var (pv 2)) (by intro _ _; rfl)) (de_op op_sub opD_sub de_int (de_ix (de_var (pv 1)) (de_op op_addD opD_add (de_var (pv 2)) de_int) (by intro _ _; rfl))) (by rfl)) (dss_one (ds_par (by rfl) nd (by rfl) (by rfl) (by decide) (by rfl) (by rfl) (da_cons (de_op op_addD opD_add (de_slice (de_var (pv 1)) do_none (do_some (de_var (pv 2)))) (de_slice (de_var (pv 1)) (do_some (de_op op_addD opD_add (de_var (pv 2)) de_int)) do_none)) (da_cons de_int da_nil)) (by rfl))) (dss_one (ds_set (i := 2) nd (by rfl) (by first | exact .inl rfl | exact .inr rfl) (de_op op_addD opD_add (de_var (pv 2)) de_int))))))
    (dss_one (ds_ret (de_callTy call_tupleD callD_tuple (by rfl) T.z_tuple (by first | decide +kernel | rfl) (da_cons (de_var (pv 1)) da_nil))))))
theorem sc__law_refused : FnScope N__law_refused ["tape"] (defScope s__law_refused) := ⟨rfl, rfl, rfl, by decide +kernel, rfl, by decide +kernel, by decide +kernel⟩
theorem ok__law_refused {fa : Addr} (T : Tx K mg) (D__law_next : DefK P w K mg base TT "_law_next" 1 2 m__law_next) (D_check_braid : DefK P w K mg base TT "check_braid" 3 2 m_check_braid) (D_standing : DefK P w K mg base TT "standing" 4 2 m_standing) (D_ends : DefK P w K mg base TT "ends" 5 2 m_ends) (D_letters_used : DefK P w K mg base TT "letters_used" 4 2 m_letters_used) (D_blocks : DefK P w K mg base TT "blocks" 5 2 m_blocks) (D_block_word : DefK P w K mg base TT "block_word" 5 4 m_block_word) (D_is_braid : DefK P w K mg base TT "is_braid" 3 2 m_is_braid) (D__law_same : DefK P w K mg base TT "_law_same" 8 2 (m__law_same 8)) {c_ P_ : Addr} {cl_ : List (Addr × Str)} (AD : AskDef K mg "_law_asked" "ask" cl_) (hpk : ∀ c tag C, askP c = some tag → mg c = some (.ref C) → askHit K C tag cl_ ∧ XfC K C ∧ PySem.W.findIn K (.ref C) "place" = some none) (TB : TabB base mg c_ P_) (hmT : (P_, (("_law_refused" : Str) ++ (".<locals>." : Str) ++ ("<lambda>" : Str))) ∈ TT) (hu : ∀ p ∈ TT, p.1 = P_ → p.2 = (("_law_refused" : Str) ++ (".<locals>." : Str) ++ ("<lambda>" : Str))) {oc : Value} {od an : Option Addr} {osl : Array (Option Value)} {kV doc pm ct : Value} (lk : K.lookup fa = some ⟨oc, od, .func (PySem.W.fnOf "_law_refused" "_law_refused" (defArgs s__law_refused) (defBody s__law_refused) (defScope s__law_refused) .none kV doc pm an (.ref c_) ct), osl⟩) (hcd : PySem.W.codeIn K (.ref c_) "_law_refused" = true) :
    FnOk P w K mg base (L2.CX P w) 11 fa (PySem.W.fnOf "_law_refused" "_law_refused" (defArgs s__law_refused) (defBody s__law_refused) (defScope s__law_refused) .none kV doc pm an (.ref c_) ct) ["tape"] (spM ⟨K, mg, TT⟩ 1 m__law_refused) :=
  fn_mkC lk hcd sc__law_refused rfl fun A outer s H E hr => by
    have tk : Takes (cxOf (L2.CX P w) P w K mg base N__law_refused "_law_refused" (defScope s__law_refused) fa (.ref c_) A outer s H E) (fun cls d _ H => E cls d H) := takes_of rfl rfl rfl rfl
    have hp : PassesOwn (model P w) (cxOf (L2.CX P w) P w K mg base N__law_refused "_law_refused" (defScope s__law_refused) fa (.ref c_) A outer s H E).A (cxOf (L2.CX P w) P w K mg base N__law_refused "_law_refused" (defScope s__law_refused) fa (.ref c_) A outer s H E).env (cxOf (L2.CX P w) P w K mg base N__law_refused "_law_refused" (defScope s__law_refused) fa (.ref c_) A outer s H E).xe := passes_of rfl
    have nd : N__law_refused.Nodup := sc__law_refused.nd
    have hu4 := units4 hr
    have hu5 := units5 hr
    exact (dss_cons (ds_set (i := 1) nd (by rfl) (by first | exact .inl rfl | exact .inr rfl) (de_fz (df_lst (da_cons (de_tup (da_cons de_int (da_cons (de_tup da_nil) (da_cons de_str da_nil)))) (da_cons (de_tup (da_cons de_int (da_cons (de_tup da_nil) (da_cons de_str da_nil)))) (da_cons (de_tup (da_cons de_bl (da_cons (de_tup da_nil) (da_cons de_str da_nil)))) (da_cons (de_tup (da_cons de_str (da_cons (de_tup da_nil) (da_cons de_str da_nil)))) (da_cons (de_tup (da_cons de_non (da_cons (de_tup da_nil) (da_cons de_str da_nil)))) da_nil))))))))
    (dss_cons (ds_set (i := 1) nd (by rfl) (by first | exact .inl rfl | exact .inr rfl) (de_op op_addD opD_add (de_var (pv 1)) (de_fz (df_lst (da_cons (de_tup (da_cons de_int (da_cons (de_fz (df_lst (da_cons de_int da_nil))) (da_cons de_str da_nil)))) (da_cons (de_tup (da_cons de_int (da_cons de_non (da_cons de_str da_nil)))) (da_cons (de_tup (da_cons de_int (da_cons (de_op op_mulD opD_mul (de_tup (da_cons de_int da_nil)) de_int) (da_cons de_str da_nil)))) (da_cons (de_tup (da_cons de_int (da_cons (de_tup (da_cons de_int (da_cons de_int da_nil))) (da_cons de_int da_nil)))) (da_cons (de_tup (da_cons de_int (da_cons (de_tup (da_cons de_int da_nil)) (da_cons de_int da_nil)))) da_nil)))))))))
    (dss_cons (ds_set (i := 1) nd (by rfl) (by first | exact .inl rfl | exact .inr rfl) (de_op op_addD opD_add (de_var (pv 1)) (de_fz (df_lst (da_cons (de_tup (da_cons de_int (da_cons (de_tup (da_cons de_int (da_cons de_bl da_nil))) (da_cons de_int da_nil)))) (da_cons (de_tup (da_cons de_int (da_cons (de_tup (da_cons de_str da_nil)) (da_cons de_int da_nil)))) (da_cons (de_tup (da_cons de_int (da_cons (de_tup (da_cons de_int (da_cons de_int (da_cons (de_op op_sub opD_sub de_int de_int) da_nil)))) (da_cons de_int da_nil)))) (da_cons (de_tup (da_cons de_int (da_cons (de_tup (da_cons de_int da_nil)) (da_cons de_int da_nil)))) (da_cons (de_tup (da_cons de_int (da_cons (de_tup (da_cons de_int (da_cons (de_tup (da_cons de_int da_nil)) da_nil))) (da_cons de_int da_nil)))) da_nil)))))))))
    (dss_cons (ds_asgP (de_ix (de_var (pv 1)) (de_call D__law_next mk_np (hr.mono (by decide)) tk (by rfl) (da_cons (de_var (pv 0)) (da_cons (de_callB call_len callD_len (by rfl) T.z_len (by first | decide +kernel | rfl) (da_cons (de_var (pv 1)) da_nil)) da_nil))) (by intro _ _; rfl)) (dp_tup (by rfl) (dp_cons (dp_name (i := 3) nd (by rfl) (by first | exact .inl rfl | exact .inr rfl)) (dp_cons (dp_name (i := 4) nd (by rfl) (by first | exact .inl rfl | exact .inr rfl)) (dp_cons (dp_name (i := 5) nd (by rfl) (by first | exact .inl rfl | exact .inr rfl)) dp_nil)))))
    (dss_cons (ds_set (i := 2) nd (by rfl) (by first | exact .inl rfl | exact .inr rfl) (de_fz (df_lst (da_cons (de_asked (k := 8) AD (by rfl) hpk TB rfl hmT hu (hr.mono (by decide)) (lamS_by (by rfl)) (by rfl) (by intros; rfl) (fun _ _ _ _ _ _ _ hrL tkL => by
      have hu4 := units4 hrL
      have hu5 := units5 hrL
      exact (de_call D_check_braid mk_np (hrL.mono (by decide)) tkL (by rfl) (da_cons (de_var (pv 3)) (da_cons (de_var (pv 4)) da_nil))))) (da_cons (de_asked (k := 8) AD (by rfl) hpk TB rfl hmT hu (hr.mono (by decide)) (lamS_by (by rfl)) (by rfl) (by intros; rfl) (fun _ _ _ _ _ _ _ hrL tkL => by
      have hu4 := units4 hrL
      have hu5 := units5 hrL
      exact (de_call D_standing mk_np (hrL.mono (by decide)) tkL (by rfl) (da_cons (de_var (pv 3)) (da_cons (de_var (pv 4)) da_nil))))) (da_cons (de_asked (k := 8) AD (by rfl) hpk TB rfl hmT hu (hr.mono (by decide)) (lamS_by (by rfl)) (by rfl) (by intros; rfl) (fun _ _ _ _ _ _ _ hrL tkL => by
      have hu4 := units4 hrL
      have hu5 := units5 hrL
      exact (de_call D_ends mk_np (hrL.mono (by decide)) tkL (by rfl) (da_cons (de_var (pv 3)) (da_cons (de_var (pv 4)) da_nil))))) (da_cons (de_asked (k := 8) AD (by rfl) hpk TB rfl hmT hu (hr.mono (by decide)) (lamS_by (by rfl)) (by rfl) (by intros; rfl) (fun _ _ _ _ _ _ _ hrL tkL => by
      have hu4 := units4 hrL
      have hu5 := units5 hrL
      exact (de_call D_letters_used mk_np (hrL.mono (by decide)) tkL (by rfl) (da_cons (de_var (pv 3)) (da_cons (de_var (pv 4)) da_nil))))) (da_cons (de_asked (k := 8) AD (by rfl) hpk TB rfl hmT hu (hr.mono (by decide)) (lamS_by (by rfl)) (by rfl) (by intros; rfl) (fun _ _ _ _ _ _ _ hrL tkL => by
      have hu4 := units4 hrL
      have hu5 := units5 hrL
      exact (de_call D_blocks mk_np (hrL.mono (by decide)) tkL (by rfl) (da_cons (de_var (pv 3)) (da_cons (de_var (pv 4)) da_nil))))) (da_cons (de_asked (k := 8) AD (by rfl) hpk TB rfl hmT hu (hr.mono (by decide)) (lamS_by (by rfl)) (by rfl) (by intros; rfl) (fun _ _ _ _ _ _ _ hrL tkL => by
      have hu4 := units4 hrL
      have hu5 := units5 hrL
      exact (de_call D_block_word mk_np (hrL.mono (by decide)) tkL (by rfl) (da_cons (de_var (pv 3)) (da_cons (de_var (pv 4)) (da_cons de_int (da_cons de_int da_nil))))))) da_nil)))))))))
    (dss_one (ds_ret (de_and (de_cmp op_isD opD_isB (de_call D_is_braid mk_np (hr.mono (by decide)) tk (by rfl) (da_cons (de_var (pv 3)) (da_cons (de_var (pv 4)) da_nil))) de_bl (by rfl)) (de_one (de_call D__law_same (np__law_same 8) (hr.mono (by decide)) tk (by rfl) (da_cons (de_var (pv 2)) (da_cons (de_fz (df_op op_rep opF_rep (de_fz (df_lst (da_cons (de_tup (da_cons de_str (da_cons (de_var (pv 5)) da_nil))) da_nil))) de_int)) da_nil))))))))))))
theorem sc_law : FnScope N_law ["script"] (defScope s_law) := ⟨rfl, rfl, rfl, by decide +kernel, rfl, by decide +kernel, by decide +kernel⟩
theorem ok_law {fa : Addr} (T : Tx K mg) (D__law_next : DefK P w K mg base TT "_law_next" 1 2 m__law_next) (D__law_word : DefK P w K mg base TT "_law_word" 2 3 m__law_word) (D__law_size : DefK P w K mg base TT "_law_size" 1 1 m__law_size) (D__law_same : DefK P w K mg base TT "_law_same" 8 2 (m__law_same 8)) (D_standing : DefK P w K mg base TT "standing" 4 2 m_standing) (D_ends : DefK P w K mg base TT "ends" 5 2 m_ends) (D__law_bare : DefK P w K mg base TT "_law_bare" 1 1 m__law_bare) (D_opposite : DefK P w K mg base TT "opposite" 1 1 m_opposite) (D_freed : DefK P w K mg base TT "freed" 1 1 m_freed) (D_moved_by : DefK P w K mg base TT "moved_by" 1 2 m_moved_by) (D_is_braid : DefK P w K mg base TT "is_braid" 3 2 m_is_braid) (D_letters_used : DefK P w K mg base TT "letters_used" 4 2 m_letters_used) (D_blocks : DefK P w K mg base TT "blocks" 5 2 m_blocks) (D_block_word : DefK P w K mg base TT "block_word" 5 4 m_block_word) (D__law_refused : DefK P w K mg base TT "_law_refused" 11 1 m__law_refused) {c_ P_ : Addr} {cl_ : List (Addr × Str)} (AD : AskDef K mg "_law_asked" "ask" cl_) (hpk : ∀ c tag C, askP c = some tag → mg c = some (.ref C) → askHit K C tag cl_ ∧ XfC K C ∧ PySem.W.findIn K (.ref C) "place" = some none) (TB : TabB base mg c_ P_) (hmT : (P_, (("law" : Str) ++ (".<locals>." : Str) ++ ("<lambda>" : Str))) ∈ TT) (hu : ∀ p ∈ TT, p.1 = P_ → p.2 = (("law" : Str) ++ (".<locals>." : Str) ++ ("<lambda>" : Str))) {oc : Value} {od an : Option Addr} {osl : Array (Option Value)} {kV doc pm ct : Value} (lk : K.lookup fa = some ⟨oc, od, .func (PySem.W.fnOf "law" "law" (defArgs s_law) (defBody s_law) (defScope s_law) .none kV doc pm an (.ref c_) ct), osl⟩) (hcd : PySem.W.codeIn K (.ref c_) "law" = true) :
    FnOk P w K mg base (L2.CX P w) 14 fa (PySem.W.fnOf "law" "law" (defArgs s_law) (defBody s_law) (defScope s_law) .none kV doc pm an (.ref c_) ct) ["script"] (spM ⟨K, mg, TT⟩ 1 m_law) :=
  fn_mkC lk hcd sc_law rfl fun A outer s H E hr => by
    have tk : Takes (cxOf (L2.CX P w) P w K mg base N_law "law" (defScope s_law) fa (.ref c_) A outer s H E) (fun cls d _ H => E cls d H) := takes_of rfl rfl rfl rfl
    have hp : PassesOwn (model P w) (cxOf (L2.CX P w) P w K mg base N_law "law" (defScope s_law) fa (.ref c_) A outer s H E).A (cxOf (L2.CX P w) P w K mg base N_law "law" (defScope s_law) fa (.ref c_) A outer s H E).env (cxOf (L2.CX P w) P w K mg base N_law "law" (defScope s_law) fa (.ref c_) A outer s H E).xe := passes_of rfl
    have nd : N_law.Nodup := sc_law.nd
    have hu4 := units4 hr
    have hu5 := units5 hr
    exact (dss_cons (ds_set (i := 1) nd (by rfl) (by first | exact .inl rfl | exact .inr rfl) (de_new (df_lst (da_cons (de_fz (df_callTy call_list_of callF_list (by rfl) T.z_list (by first | decide +kernel | rfl) (da_cons (de_var (pv 0)) da_nil))) (da_cons de_int (da_cons de_int (da_cons de_int da_nil)))))))
    (dss_cons (ds_set (i := 2) nd (by rfl) (by first | exact .inl rfl | exact .inr rfl) (de_op op_addD opD_add de_int (de_call D__law_next mk_np (hr.mono (by decide)) tk (by rfl) (da_cons (de_var (pv 1)) (da_cons de_int da_nil)))))
    (dss_cons (ds_set (i := 3) nd (by rfl) (by first | exact .inl rfl | exact .inr rfl) (de_call D__law_word mk_np (hr.mono (by decide)) tk (by rfl) (da_cons (de_var (pv 1)) (da_cons (de_var (pv 2)) (da_cons de_int da_nil)))))
    (dss_cons (ds_parT (js := [9, 10]) (by rfl) (da_cons (de_new (df_listRg1 (by rfl) (by rfl) T.z_list (by rfl) T.z_range (de_var (pv 2)))) (da_cons (de_fz (df_lst da_nil)) da_nil)) (dp_cons (dp_name (i := 9) nd (by rfl) (by first | exact .inl rfl | exact .inr rfl)) (dp_cons (dp_name (i := 10) nd (by rfl) (by first | exact .inl rfl | exact .inr rfl)) dp_nil)) (hz := by decide))
    (dss_cons (ds_for hp (by rfl) (di_seq (de_var (pv 3))) (dp_name (i := 4) nd (by rfl) (by first | exact .inl rfl | exact .inr rfl)) (dss_cons (ds_set (i := 7) nd (by rfl) (by first | exact .inl rfl | exact .inr rfl) (de_call D__law_size mk_np (hr.mono (by decide)) tk (by rfl) (da_cons (de_var (pv 4)) da_nil)))
    (dss_cons (ds_subs (by rfl) (de_tup (da_cons (de_ix (de_var (pv 9)) (de_var (pv 7)) (by intro _ _; rfl)) (da_cons (de_ix (de_var (pv 9)) (de_op op_sub opD_sub (de_var (pv 7)) de_int) (by intro _ _; rfl)) da_nil))) (dgs_cons (de_var (pv 9)) (de_op op_sub opD_sub (de_var (pv 7)) de_int) (dgs_cons (de_var (pv 9)) (de_var (pv 7)) dgs_nil)))
    (dss_one (ds_set (i := 10) nd (by rfl) (by first | exact .inl rfl | exact .inr rfl) (de_op op_addD opD_add (de_var (pv 10)) (de_fz (df_lst (da_cons (de_var (pv 7)) da_nil)))))))))
    (dss_cons (ds_if (dt_not (dt_val (de_call D__law_same (np__law_same 8) (hr.mono (by decide)) tk (by rfl) (da_cons (de_fz (df_lst (da_cons (de_call D_standing mk_np (hr.mono (by decide)) tk (by rfl) (da_cons (de_var (pv 2)) (da_cons (de_var (pv 3)) da_nil))) (da_cons (de_call D_ends mk_np (hr.mono (by decide)) tk (by rfl) (da_cons (de_var (pv 2)) (da_cons (de_var (pv 3)) da_nil))) da_nil)))) (da_cons (de_fz (df_lst (da_cons (de_callTy call_tupleD callD_tuple (by rfl) T.z_tuple (by first | decide +kernel | rfl) (da_cons (de_var (pv 9)) da_nil)) (da_cons (de_callTy call_tupleD callD_tuple (by rfl) T.z_tuple (by first | decide +kernel | rfl) (da_cons (de_fz (df_comp (own := [("place", 15)]) (by rfl) nd (di_range1 (by rfl) T.z_range (da_cons (de_var (pv 2)) da_nil)) (blkOk_by (by rfl)) (by decide) (fun _ _ _ _ _ => (dp_name (i := 15) nd (by rfl) (by first | exact .inl rfl | exact .inr rfl))) (fun _ _ _ _ _ => dts_nil) (fun _ _ _ _ _ => (de_index (de_var (pv 9)) (de_var (pv 15)))))) da_nil)) da_nil)))) da_nil))))) (dss_one (ds_ret de_bl)) dss_nil)
    (dss_cons (ds_set (i := 5) nd (by rfl) (by first | exact .inl rfl | exact .inr rfl) (de_call D__law_next mk_np (hr.mono (by decide)) tk (by rfl) (da_cons (de_var (pv 1)) (da_cons de_int da_nil))))
    (dss_cons (ds_set (i := 6) nd (by rfl) (by first | exact .inl rfl | exact .inr rfl) (de_fz (df_lst (da_cons (de_callTy call_tupleD callD_tuple (by rfl) T.z_tuple (by first | decide +kernel | rfl) (da_cons (de_fz (df_comp (own := [("letter", 4)]) (by rfl) nd (di_seq (de_rev (de_var (pv 3)))) (blkOk_by (by rfl)) (by decide) (fun _ _ _ _ _ => (dp_name (i := 4) nd (by rfl) (by first | exact .inl rfl | exact .inr rfl))) (fun _ _ _ _ _ => dts_nil) (fun _ _ _ _ _ => (de_op op_sub opD_sub de_int (de_var (pv 4)))))) da_nil)) (da_cons (de_call D__law_bare mk_np (hr.mono (by decide)) tk (by rfl) (da_cons (de_var (pv 3)) da_nil)) (da_cons (de_callTy call_tupleD callD_tuple (by rfl) T.z_tuple (by first | decide +kernel | rfl) (da_cons (de_fz (df_comp (own := [("letter", 4)]) (by rfl) nd (di_seq (de_var (pv 3))) (blkOk_by (by rfl)) (by decide) (fun _ _ _ _ _ => (dp_name (i := 4) nd (by rfl) (by first | exact .inl rfl | exact .inr rfl))) (fun _ _ _ _ _ => dts_nil) (fun _ _ _ _ _ => (de_if (dt_cmp op_gt opD_gt (de_var (pv 4)) de_int (by rfl)) (de_op op_addD opD_add (de_var (pv 4)) (de_var (pv 5))) (de_op op_sub opD_sub (de_var (pv 4)) (de_var (pv 5))))))) da_nil)) da_nil))))))
    (dss_cons (ds_if (dt_not (dt_val (de_call D__law_same (np__law_same 8) (hr.mono (by decide)) tk (by rfl) (da_cons (de_fz (df_lst (da_cons (de_call D_opposite mk_np (hr.mono (by decide)) tk (by rfl) (da_cons (de_var (pv 3)) da_nil)) (da_cons (de_call D_freed mk_np (hr.mono (by decide)) tk (by rfl) (da_cons (de_var (pv 3)) da_nil)) (da_cons (de_call D_moved_by mk_np (hr.mono (by decide)) tk (by rfl) (da_cons (de_var (pv 3)) (da_cons (de_var (pv 5)) da_nil))) (da_cons (de_call D_freed mk_np (hr.mono (by decide)) tk (by rfl) (da_cons (de_op op_addD opD_add (de_var (pv 3)) (de_call D_opposite mk_np (hr.mono (by decide)) tk (by rfl) (da_cons (de_var (pv 3)) da_nil))) da_nil)) da_nil)))))) (da_cons (de_op op_addD opD_add (de_var (pv 6)) (de_fz (df_lst (da_cons (de_tup da_nil) da_nil)))) da_nil))))) (dss_one (ds_ret de_bl)) dss_nil)
    (dss_cons (ds_if (dt_not (dt_val (de_call D__law_same (np__law_same 8) (hr.mono (by decide)) tk (by rfl) (da_cons (de_fz (df_lst (da_cons (de_call D_is_braid mk_np (hr.mono (by decide)) tk (by rfl) (da_cons (de_var (pv 2)) (da_cons (de_var (pv 3)) da_nil))) (da_cons (de_call D_letters_used mk_np (hr.mono (by decide)) tk (by rfl) (da_cons (de_var (pv 2)) (da_cons (de_var (pv 3)) da_nil))) da_nil)))) (da_cons (de_fz (df_lst (da_cons de_bl (da_cons (de_callTy call_tupleD callD_tuple (by rfl) T.z_tuple (by first | decide +kernel | rfl) (da_cons (de_fz (df_comp (own := [("k", 7)]) (by rfl) nd (di_range2 (by rfl) T.z_range (da_cons de_int (da_cons (de_var (pv 2)) da_nil))) (blkOk_by (by rfl)) (by decide) (fun _ _ _ _ _ => (dp_name (i := 7) nd (by rfl) (by first | exact .inl rfl | exact .inr rfl))) (fun _ _ _ _ _ => (dts_one (dt_cmp (op_in_seq.or (op_inD hu5)) opD_in (de_var (pv 7)) (de_var (pv 10)) (by rfl)))) (fun _ _ _ _ _ => (de_var (pv 7))))) da_nil)) da_nil)))) da_nil))))) (dss_one (ds_ret de_bl)) dss_nil)
    (dss_cons (ds_par (by rfl) nd (by rfl) (by rfl) (by decide) (by rfl) (by rfl) (da_cons (de_fz (df_lst da_nil)) (da_cons de_int da_nil)) (by rfl))
    (dss_cons (ds_for hp (by rfl) (di_range2 (by rfl) T.z_range (da_cons de_int (da_cons (de_op op_addD opD_add (de_var (pv 2)) de_int) da_nil))) (dp_name (i := 7) nd (by rfl) (by first | exact .inl rfl | exact .inr rfl)) (dss_one (ds_if (L2.PW.pt (dw_or (dt_cmp (op_eqD hu4) opD_eq (de_var (pv 7)) (de_var (pv 2)) (by rfl)) (dw_or1 (dt_cmp (op_notIn_seq.or (op_notInD hu5)) opD_notIn (de_var (pv 7)) (de_var (pv 10)) (by rfl))))) (dss_one (ds_par (by rfl) nd (by rfl) (by rfl) (by decide) (by rfl) (by rfl) (da_cons (de_op op_addD opD_add (de_var (pv 11)) (de_fz (df_lst (da_cons (de_tup (da_cons (de_var (pv 12)) (da_cons (de_var (pv 7)) da_nil))) da_nil)))) (da_cons (de_var (pv 7)) da_nil)) (by rfl))) dss_nil)))
    (dss_cons (ds_if (dt_not (dt_val (de_call D__law_same (np__law_same 8) (hr.mono (by decide)) tk (by rfl) (da_cons (de_call D_blocks mk_np (hr.mono (by decide)) tk (by rfl) (da_cons (de_var (pv 2)) (da_cons (de_var (pv 3)) da_nil))) (da_cons (de_callTy call_tupleD callD_tuple (by rfl) T.z_tuple (by first | decide +kernel | rfl) (da_cons (de_var (pv 11)) da_nil)) da_nil))))) (dss_one (ds_ret de_bl)) dss_nil)
    (dss_cons (ds_parT (js := [13, 14]) (by rfl) (da_cons (de_call D__law_next mk_np (hr.mono (by decide)) tk (by rfl) (da_cons (de_var (pv 1)) (da_cons (de_op op_addD opD_add (de_var (pv 2)) de_int) da_nil))) (da_cons (de_call D__law_next mk_np (hr.mono (by decide)) tk (by rfl) (da_cons (de_var (pv 1)) (da_cons (de_op op_addD opD_add (de_var (pv 2)) de_int) da_nil))) da_nil)) (dp_cons (dp_name (i := 13) nd (by rfl) (by first | exact .inl rfl | exact .inr rfl)) (dp_cons (dp_name (i := 14) nd (by rfl) (by first | exact .inl rfl | exact .inr rfl)) dp_nil)) (hz := by decide))
    (dss_cons (ds_if (dt_cmp (op_eqD hu4) opD_eq (de_call D__law_next mk_np (hr.mono (by decide)) tk (by rfl) (da_cons (de_var (pv 1)) (da_cons de_int da_nil))) de_int (by rfl)) (dss_one (ds_parT (js := [13, 14]) (by rfl) (da_cons (de_ix (de_ix (de_var (pv 11)) (de_call D__law_next mk_np (hr.mono (by decide)) tk (by rfl) (da_cons (de_var (pv 1)) (da_cons (de_callB call_len callD_len (by rfl) T.z_len (by first | decide +kernel | rfl) (da_cons (de_var (pv 11)) da_nil)) da_nil))) (by intro _ _; rfl)) de_int (by intro _ _; rfl)) (da_cons (de_ix (de_ix (de_var (pv 11)) (de_un un_neg unD_neg de_int) (by intro _ _; rfl)) de_int (by intro _ _; rfl)) da_nil)) (dp_cons (dp_name (i := 13) nd (by rfl) (by first | exact .inl rfl | exact .inr rfl)) (dp_cons (dp_name (i := 14) nd (by rfl) (by first | exact .inl rfl | exact .inr rfl)) dp_nil)) (hz := by decide))) dss_nil)
    (dss_cons (ds_set (i := 8) nd (by rfl) (by first | exact .inl rfl | exact .inr rfl) (de_asked (k := 11) AD (by rfl) hpk TB rfl hmT hu (hr.mono (by decide)) (lamS_by (by rfl)) (by rfl) (by intros; rfl) (fun _ _ _ _ _ _ _ hrL tkL => by
      have hu4 := units4 hrL
      have hu5 := units5 hrL
      exact (de_call D_block_word mk_np (hrL.mono (by decide)) tkL (by rfl) (da_cons (de_var (pv 2)) (da_cons (de_var (pv 3)) (da_cons (de_var (pv 13)) (da_cons (de_var (pv 14)) da_nil))))))))
    (dss_cons (ds_if (L2.PW.pt (dw_or (dt_not (dt_chain de_int (dth_cons op_le opD_le (de_var (pv 13)) (dth_cons op_lt opD_lt (de_var (pv 14)) (dth_last op_le opD_le (de_var (pv 2))))))) (dw_or (dt_cmp (op_in_seq.or (op_inD hu5)) opD_in (de_var (pv 13)) (de_var (pv 10)) (by rfl)) (dw_or1 (dt_cmp (op_in_seq.or (op_inD hu5)) opD_in (de_var (pv 14)) (de_var (pv 10)) (by rfl)))))) (dss_one (ds_if (dt_cmp (op_neD hu4) opD_ne (de_var (pv 8)) (de_tup (da_cons de_str (da_cons de_str da_nil))) (by rfl)) (dss_one (ds_ret de_bl)) dss_nil)) (dss_one (ds_if (dt_not (dt_val (de_call D__law_same (np__law_same 8) (hr.mono (by decide)) tk (by rfl) (da_cons (de_var (pv 8)) (da_cons (de_tup (da_cons de_str (da_cons (de_callTy call_tupleD callD_tuple (by rfl) T.z_tuple (by first | decide +kernel | rfl) (da_cons (de_fz (df_comp (own := [("letter", 4)]) (by rfl) nd (di_seq (de_var (pv 3))) (blkOk_by (by rfl)) (by decide) (fun _ _ _ _ _ => (dp_name (i := 4) nd (by rfl) (by first | exact .inl rfl | exact .inr rfl))) (fun _ _ _ _ _ => (dts_one (dt_chain (de_var (pv 13)) (dth_cons op_lt opD_lt (de_call D__law_size mk_np (hr.mono (by decide)) LamX.takes0 (by rfl) (da_cons (de_var (pv 4)) da_nil)) (dth_last op_lt opD_lt (de_var (pv 14))))))) (fun _ _ _ _ _ => (de_if (dt_cmp op_gt opD_gt (de_var (pv 4)) de_int (by rfl)) (de_op op_sub opD_sub (de_var (pv 4)) (de_var (pv 13))) (de_op op_addD opD_add (de_var (pv 4)) (de_var (pv 13))))))) da_nil)) da_nil))) da_nil))))) (dss_one (ds_ret de_bl)) dss_nil)))
    (dss_one (ds_ret (de_and (de_call D__law_refused mk_np (hr.mono (by decide)) tk (by rfl) (da_cons (de_var (pv 1)) da_nil)) (de_and (de_cmp op_isD opD_isB (de_call D_is_braid mk_np (hr.mono (by decide)) tk (by rfl) (da_cons de_int (da_cons (de_tup (da_cons de_int (da_cons (de_op op_sub opD_sub de_int de_int) da_nil))) da_nil))) de_bl (by rfl)) (de_one (de_cmp op_isD opD_isB (de_call D_is_braid mk_np (hr.mono (by decide)) tk (by rfl) (da_cons de_int (da_cons (de_tup da_nil) da_nil))) de_bl (by rfl))))))))))))))))))))))))
end
/-! ### what the top has written -/
theorem law_at {w : World} {K : PySem.W.Frag} {h : Heap} {mg : Str → Option Value} {fa : Addr} {t_MOST_LETTERS : Tok} {t_MOST_STRANDS : Tok} {f_is_integer : Addr} {oc_is_integer kV_is_integer dc_is_integer pm_is_integer cd_is_integer ct_is_integer : Value} {od_is_integer an_is_integer : Option Addr} {sl_is_integer : Array (Option Value)} {f_is_strand_count : Addr} {oc_is_strand_count kV_is_strand_count dc_is_strand_count pm_is_strand_count cd_is_strand_count ct_is_strand_count : Value} {od_is_strand_count an_is_strand_count : Option Addr} {sl_is_strand_count : Array (Option Value)} {f_is_letter : Addr} {oc_is_letter kV_is_letter dc_is_letter pm_is_letter cd_is_letter ct_is_letter : Value} {od_is_letter an_is_letter : Option Addr} {sl_is_letter : Array (Option Value)} {f_is_braid : Addr} {oc_is_braid kV_is_braid dc_is_braid pm_is_braid cd_is_braid ct_is_braid : Value} {od_is_braid an_is_braid : Option Addr} {sl_is_braid : Array (Option Value)} {f_check_braid : Addr} {oc_check_braid kV_check_braid dc_check_braid pm_check_braid cd_check_braid ct_check_braid : Value} {od_check_braid an_check_braid : Option Addr} {sl_check_braid : Array (Option Value)} {f_standing : Addr} {oc_standing kV_standing dc_standing pm_standing cd_standing ct_standing : Value} {od_standing an_standing : Option Addr} {sl_standing : Array (Option Value)} {f_ends : Addr} {oc_ends kV_ends dc_ends pm_ends cd_ends ct_ends : Value} {od_ends an_ends : Option Addr} {sl_ends : Array (Option Value)} {f_opposite : Addr} {oc_opposite kV_opposite dc_opposite pm_opposite cd_opposite ct_opposite : Value} {od_opposite an_opposite : Option Addr} {sl_opposite : Array (Option Value)} {f_freed : Addr} {oc_freed kV_freed dc_freed pm_freed cd_freed ct_freed : Value} {od_freed an_freed : Option Addr} {sl_freed : Array (Option Value)} {f_moved_by : Addr} {oc_moved_by kV_moved_by dc_moved_by pm_moved_by cd_moved_by ct_moved_by : Value} {od_moved_by an_moved_by : Option Addr} {sl_moved_by : Array (Option Value)} {f_letters_used : Addr} {oc_letters_used kV_letters_used dc_letters_used pm_letters_used cd_letters_used ct_letters_used : Value} {od_letters_used an_letters_used : Option Addr} {sl_letters_used : Array (Option Value)} {f_blocks : Addr} {oc_blocks kV_blocks dc_blocks pm_blocks cd_blocks ct_blocks : Value} {od_blocks an_blocks : Option Addr} {sl_blocks : Array (Option Value)} {f_block_word : Addr} {oc_block_word kV_block_word dc_block_word pm_block_word cd_block_word ct_block_word : Value} {od_block_word an_block_word : Option Addr} {sl_block_word : Array (Option Value)} {f__law_next : Addr} {oc__law_next kV__law_next dc__law_next pm__law_next cd__law_next ct__law_next : Value} {od__law_next an__law_next : Option Addr} {sl__law_next : Array (Option Value)} {f__law_same : Addr} {oc__law_same kV__law_same dc__law_same pm__law_same cd__law_same ct__law_same : Value} {od__law_same an__law_same : Option Addr} {sl__law_same : Array (Option Value)} {f__law_asked : Addr} {oc__law_asked kV__law_asked dc__law_asked pm__law_asked cd__law_asked ct__law_asked : Value} {od__law_asked an__law_asked : Option Addr} {sl__law_asked : Array (Option Value)} {f__law_word : Addr} {oc__law_word kV__law_word dc__law_word pm__law_word cd__law_word ct__law_word : Value} {od__law_word an__law_word : Option Addr} {sl__law_word : Array (Option Value)} {f__law_size : Addr} {oc__law_size kV__law_size dc__law_size pm__law_size cd__law_size ct__law_size : Value} {od__law_size an__law_size : Option Addr} {sl__law_size : Array (Option Value)} {f__law_bare : Addr} {oc__law_bare kV__law_bare dc__law_bare pm__law_bare cd__law_bare ct__law_bare : Value} {od__law_bare an__law_bare : Option Addr} {sl__law_bare : Array (Option Value)} {f__law_refused : Addr} {oc__law_refused kV__law_refused dc__law_refused pm__law_refused ct__law_refused : Value} {od__law_refused an__law_refused : Option Addr} {sl__law_refused : Array (Option Value)} {c__law_refused P__law_refused : Addr} {xc__law_refused : Value} {xd__law_refused : Option Addr} {vs__law_refused : Array Value} {xs__law_refused : Array (Option Value)} {f_law : Addr} {oc_law kV_law dc_law pm_law ct_law : Value} {od_law an_law : Option Addr} {sl_law : Array (Option Value)} {c_law P_law : Addr} {xc_law : Value} {xd_law : Option Addr} {vs_law : Array Value} {xs_law : Array (Option Value)} {C_InvalidBraid : Addr} {C_TooLarge : Addr} {C_StitchError : Addr} {nm_StitchError q_StitchError : Str} {N_c_StitchError : Addr} {bs_StitchError bm_StitchError sub_StitchError : List Value} {sn_StitchError : List Str} {ab_StitchError : Bool} {col_StitchError : Option Bool} {dd_StitchError : Option Addr} {k0_StitchError k1_StitchError k2_StitchError k3_StitchError k5_StitchError : Option Value} {fi_StitchError cda_StitchError cc_StitchError : Addr} {oci_StitchError kVi_StitchError dci_StitchError pmi_StitchError cti_StitchError ccl_StitchError cl_StitchError : Value} {odi_StitchError ani_StitchError cdd_StitchError cld_StitchError : Option Addr} {osl_StitchError ccs_StitchError csl_StitchError : Array (Option Value)} {vs_StitchError : Array Value} {tf_StitchError : Tok} {cdD_StitchError : ClassData} {p1_StitchError p2_StitchError a1_StitchError a2_StitchError a3_StitchError a4_StitchError a5_StitchError a6_StitchError b1_StitchError b2_StitchError b3_StitchError b4_StitchError c1_StitchError c2_StitchError c3_StitchError c4_StitchError : Pos} {j_StitchError : Nat} {nm_InvalidBraid q_InvalidBraid : Str} {N_c_InvalidBraid : Addr} {bs_InvalidBraid bm_InvalidBraid sub_InvalidBraid : List Value} {sn_InvalidBraid : List Str} {ab_InvalidBraid : Bool} {col_InvalidBraid : Option Bool} {dd_InvalidBraid : Option Addr} {k0_InvalidBraid k1_InvalidBraid k2_InvalidBraid k3_InvalidBraid k5_InvalidBraid : Option Value} {fi_InvalidBraid cda_InvalidBraid cc_InvalidBraid : Addr} {oci_InvalidBraid kVi_InvalidBraid dci_InvalidBraid pmi_InvalidBraid cti_InvalidBraid ccl_InvalidBraid cl_InvalidBraid : Value} {odi_InvalidBraid ani_InvalidBraid cdd_InvalidBraid cld_InvalidBraid : Option Addr} {osl_InvalidBraid ccs_InvalidBraid csl_InvalidBraid : Array (Option Value)} {vs_InvalidBraid : Array Value} {tf_InvalidBraid : Tok} {cdD_InvalidBraid : ClassData} {p1_InvalidBraid p2_InvalidBraid a1_InvalidBraid a2_InvalidBraid a3_InvalidBraid a4_InvalidBraid a5_InvalidBraid a6_InvalidBraid c1_InvalidBraid c2_InvalidBraid c3_InvalidBraid c4_InvalidBraid : Pos} {j_InvalidBraid : Nat} {nm_TooLarge q_TooLarge : Str} {N_c_TooLarge : Addr} {bs_TooLarge bm_TooLarge sub_TooLarge : List Value} {sn_TooLarge : List Str} {ab_TooLarge : Bool} {col_TooLarge : Option Bool} {dd_TooLarge : Option Addr} {k0_TooLarge k1_TooLarge k2_TooLarge k3_TooLarge k5_TooLarge : Option Value} {fi_TooLarge cda_TooLarge cc_TooLarge : Addr} {oci_TooLarge kVi_TooLarge dci_TooLarge pmi_TooLarge cti_TooLarge ccl_TooLarge cl_TooLarge : Value} {odi_TooLarge ani_TooLarge cdd_TooLarge cld_TooLarge : Option Addr} {osl_TooLarge ccs_TooLarge csl_TooLarge : Array (Option Value)} {vs_TooLarge : Array Value} {tf_TooLarge : Tok} {cdD_TooLarge : ClassData} {p1_TooLarge p2_TooLarge a1_TooLarge a2_TooLarge a3_TooLarge a4_TooLarge a5_TooLarge a6_TooLarge c1_TooLarge c2_TooLarge c3_TooLarge c4_TooLarge : Pos} {j_TooLarge : Nat}
  (X : K.In h) (G : h.Ns mainGlobals mg) (hfa : mg "law" = some (.ref fa)) (hm : ∀ ns : List Int, ns.length ≤ 63 → ∃ S', m_law [.s ns] [] = .rt (.bool true) S')
  (zb_abs : PySem.W.nsIn K mainGlobals "abs" = some none)
  (zb_all : PySem.W.nsIn K mainGlobals "all" = some none)
  (zb_bool : PySem.W.nsIn K mainGlobals "bool" = some none)
  (zb_int : PySem.W.nsIn K mainGlobals "int" = some none)
  (zb_isinstance : PySem.W.nsIn K mainGlobals "isinstance" = some none)
  (zb_len : PySem.W.nsIn K mainGlobals "len" = some none)
  (zb_list : PySem.W.nsIn K mainGlobals "list" = some none)
  (zb_range : PySem.W.nsIn K mainGlobals "range" = some none)
  (zb_reversed : PySem.W.nsIn K mainGlobals "reversed" = some none)
  (zb_sorted : PySem.W.nsIn K mainGlobals "sorted" = some none)
  (zb_str : PySem.W.nsIn K mainGlobals "str" = some none)
  (zb_tuple : PySem.W.nsIn K mainGlobals "tuple" = some none)
  (zc_MOST_LETTERS : PySem.W.nsIn K mainGlobals "MOST_LETTERS" = some (some (.int 4000 t_MOST_LETTERS)))
  (zc_MOST_STRANDS : PySem.W.nsIn K mainGlobals "MOST_STRANDS" = some (some (.int 60 t_MOST_STRANDS)))
  (a_is_integer : PySem.W.nsIn K mainGlobals "is_integer" = some (some (.ref f_is_integer)))
  (l_is_integer : K.lookup f_is_integer = some ⟨oc_is_integer, od_is_integer, .func (PySem.W.fnOf "is_integer" "is_integer" (defArgs s_is_integer) (defBody s_is_integer) (defScope s_is_integer) .none kV_is_integer dc_is_integer pm_is_integer an_is_integer cd_is_integer ct_is_integer), sl_is_integer⟩)
  (c_c_is_integer : PySem.W.codeIn K cd_is_integer "is_integer" = true)
  (k_is_integer : PySem.W.keepIn K (.ref f_is_integer) = true)
  (a_is_strand_count : PySem.W.nsIn K mainGlobals "is_strand_count" = some (some (.ref f_is_strand_count)))
  (l_is_strand_count : K.lookup f_is_strand_count = some ⟨oc_is_strand_count, od_is_strand_count, .func (PySem.W.fnOf "is_strand_count" "is_strand_count" (defArgs s_is_strand_count) (defBody s_is_strand_count) (defScope s_is_strand_count) .none kV_is_strand_count dc_is_strand_count pm_is_strand_count an_is_strand_count cd_is_strand_count ct_is_strand_count), sl_is_strand_count⟩)
  (c_c_is_strand_count : PySem.W.codeIn K cd_is_strand_count "is_strand_count" = true)
  (k_is_strand_count : PySem.W.keepIn K (.ref f_is_strand_count) = true)
  (a_is_letter : PySem.W.nsIn K mainGlobals "is_letter" = some (some (.ref f_is_letter)))
  (l_is_letter : K.lookup f_is_letter = some ⟨oc_is_letter, od_is_letter, .func (PySem.W.fnOf "is_letter" "is_letter" (defArgs s_is_letter) (defBody s_is_letter) (defScope s_is_letter) .none kV_is_letter dc_is_letter pm_is_letter an_is_letter cd_is_letter ct_is_letter), sl_is_letter⟩)
  (c_c_is_letter : PySem.W.codeIn K cd_is_letter "is_letter" = true)
  (k_is_letter : PySem.W.keepIn K (.ref f_is_letter) = true)
  (a_is_braid : PySem.W.nsIn K mainGlobals "is_braid" = some (some (.ref f_is_braid)))
  (l_is_braid : K.lookup f_is_braid = some ⟨oc_is_braid, od_is_braid, .func (PySem.W.fnOf "is_braid" "is_braid" (defArgs s_is_braid) (defBody s_is_braid) (defScope s_is_braid) .none kV_is_braid dc_is_braid pm_is_braid an_is_braid cd_is_braid ct_is_braid), sl_is_braid⟩)
  (c_c_is_braid : PySem.W.codeIn K cd_is_braid "is_braid" = true)
  (k_is_braid : PySem.W.keepIn K (.ref f_is_braid) = true)
  (a_check_braid : PySem.W.nsIn K mainGlobals "check_braid" = some (some (.ref f_check_braid)))
  (l_check_braid : K.lookup f_check_braid = some ⟨oc_check_braid, od_check_braid, .func (PySem.W.fnOf "check_braid" "check_braid" (defArgs s_check_braid) (defBody s_check_braid) (defScope s_check_braid) .none kV_check_braid dc_check_braid pm_check_braid an_check_braid cd_check_braid ct_check_braid), sl_check_braid⟩)
  (c_c_check_braid : PySem.W.codeIn K cd_check_braid "check_braid" = true)
  (k_check_braid : PySem.W.keepIn K (.ref f_check_braid) = true)
  (a_standing : PySem.W.nsIn K mainGlobals "standing" = some (some (.ref f_standing)))
  (l_standing : K.lookup f_standing = some ⟨oc_standing, od_standing, .func (PySem.W.fnOf "standing" "standing" (defArgs s_standing) (defBody s_standing) (defScope s_standing) .none kV_standing dc_standing pm_standing an_standing cd_standing ct_standing), sl_standing⟩)
  (c_c_standing : PySem.W.codeIn K cd_standing "standing" = true)
  (k_standing : PySem.W.keepIn K (.ref f_standing) = true)
  (a_ends : PySem.W.nsIn K mainGlobals "ends" = some (some (.ref f_ends)))
  (l_ends : K.lookup f_ends = some ⟨oc_ends, od_ends, .func (PySem.W.fnOf "ends" "ends" (defArgs s_ends) (defBody s_ends) (defScope s_ends) .none kV_ends dc_ends pm_ends an_ends cd_ends ct_ends), sl_ends⟩)
  (c_c_ends : PySem.W.codeIn K cd_ends "ends" = true)
  (k_ends : PySem.W.keepIn K (.ref f_ends) = true)
  (a_opposite : PySem.W.nsIn K mainGlobals "opposite" = some (some (.ref f_opposite)))
  (l_opposite : K.lookup f_opposite = some ⟨oc_opposite, od_opposite, .func (PySem.W.fnOf "opposite" "opposite" (defArgs s_opposite) (defBody s_opposite) (defScope s_opposite) .none kV_opposite dc_opposite pm_opposite an_opposite cd_opposite ct_opposite), sl_opposite⟩)
  (c_c_opposite : PySem.W.codeIn K cd_opposite "opposite" = true)
  (k_opposite : PySem.W.keepIn K (.ref f_opposite) = true)
  (a_freed : PySem.W.nsIn K mainGlobals "freed" = some (some (.ref f_freed)))
  (l_freed : K.lookup f_freed = some ⟨oc_freed, od_freed, .func (PySem.W.fnOf "freed" "freed" (defArgs s_freed) (defBody s_freed) (defScope s_freed) .none kV_freed dc_freed pm_freed an_freed cd_freed ct_freed), sl_freed⟩)
  (c_c_freed : PySem.W.codeIn K cd_freed "freed" = true)
  (k_freed : PySem.W.keepIn K (.ref f_freed) = true)
  (a_moved_by : PySem.W.nsIn K mainGlobals "moved_by" = some (some (.ref f_moved_by)))
  (l_moved_by : K.lookup f_moved_by = some ⟨oc_moved_by, od_moved_by, .func (PySem.W.fnOf "moved_by" "moved_by" (defArgs s_moved_by) (defBody s_moved_by) (defScope s_moved_by) .none kV_moved_by dc_moved_by pm_moved_by an_moved_by cd_moved_by ct_moved_by), sl_moved_by⟩)
  (c_c_moved_by : PySem.W.codeIn K cd_moved_by "moved_by" = true)
  (k_moved_by : PySem.W.keepIn K (.ref f_moved_by) = true)
  (a_letters_used : PySem.W.nsIn K mainGlobals "letters_used" = some (some (.ref f_letters_used)))
  (l_letters_used : K.lookup f_letters_used = some ⟨oc_letters_used, od_letters_used, .func (PySem.W.fnOf "letters_used" "letters_used" (defArgs s_letters_used) (defBody s_letters_used) (defScope s_letters_used) .none kV_letters_used dc_letters_used pm_letters_used an_letters_used cd_letters_used ct_letters_used), sl_letters_used⟩)
  (c_c_letters_used : PySem.W.codeIn K cd_letters_used "letters_used" = true)
  (k_letters_used : PySem.W.keepIn K (.ref f_letters_used) = true)
  (a_blocks : PySem.W.nsIn K mainGlobals "blocks" = some (some (.ref f_blocks)))
  (l_blocks : K.lookup f_blocks = some ⟨oc_blocks, od_blocks, .func (PySem.W.fnOf "blocks" "blocks" (defArgs s_blocks) (defBody s_blocks) (defScope s_blocks) .none kV_blocks dc_blocks pm_blocks an_blocks cd_blocks ct_blocks), sl_blocks⟩)
  (c_c_blocks : PySem.W.codeIn K cd_blocks "blocks" = true)
  (k_blocks : PySem.W.keepIn K (.ref f_blocks) = true)
  (a_block_word : PySem.W.nsIn K mainGlobals "block_word" = some (some (.ref f_block_word)))
  (l_block_word : K.lookup f_block_word = some ⟨oc_block_word, od_block_word, .func (PySem.W.fnOf "block_word" "block_word" (defArgs s_block_word) (defBody s_block_word) (defScope s_block_word) .none kV_block_word dc_block_word pm_block_word an_block_word cd_block_word ct_block_word), sl_block_word⟩)
  (c_c_block_word : PySem.W.codeIn K cd_block_word "block_word" = true)
  (k_block_word : PySem.W.keepIn K (.ref f_block_word) = true)
  (a__law_next : PySem.W.nsIn K mainGlobals "_law_next" = some (some (.ref f__law_next)))
  (l__law_next : K.lookup f__law_next = some ⟨oc__law_next, od__law_next, .func (PySem.W.fnOf "_law_next" "_law_next" (defArgs s__law_next) (defBody s__law_next) (defScope s__law_next) .none kV__law_next dc__law_next pm__law_next an__law_next cd__law_next ct__law_next), sl__law_next⟩)
  (c_c__law_next : PySem.W.codeIn K cd__law_next "_law_next" = true)
  (k__law_next : PySem.W.keepIn K (.ref f__law_next) = true)
  (a__law_same : PySem.W.nsIn K mainGlobals "_law_same" = some (some (.ref f__law_same)))
  (l__law_same : K.lookup f__law_same = some ⟨oc__law_same, od__law_same, .func (PySem.W.fnOf "_law_same" "_law_same" (defArgs s__law_same) (defBody s__law_same) (defScope s__law_same) .none kV__law_same dc__law_same pm__law_same an__law_same cd__law_same ct__law_same), sl__law_same⟩)
  (c_c__law_same : PySem.W.codeIn K cd__law_same "_law_same" = true)
  (k__law_same : PySem.W.keepIn K (.ref f__law_same) = true)
  (a__law_asked : PySem.W.nsIn K mainGlobals "_law_asked" = some (some (.ref f__law_asked)))
  (l__law_asked : K.lookup f__law_asked = some ⟨oc__law_asked, od__law_asked, .func (PySem.W.fnOf "_law_asked" "_law_asked" (defArgs s__law_asked) (defBody s__law_asked) (defScope s__law_asked) .none kV__law_asked dc__law_asked pm__law_asked an__law_asked cd__law_asked ct__law_asked), sl__law_asked⟩)
  (c_c__law_asked : PySem.W.codeIn K cd__law_asked "_law_asked" = true)
  (k__law_asked : PySem.W.keepIn K (.ref f__law_asked) = true)
  (a__law_word : PySem.W.nsIn K mainGlobals "_law_word" = some (some (.ref f__law_word)))
  (l__law_word : K.lookup f__law_word = some ⟨oc__law_word, od__law_word, .func (PySem.W.fnOf "_law_word" "_law_word" (defArgs s__law_word) (defBody s__law_word) (defScope s__law_word) .none kV__law_word dc__law_word pm__law_word an__law_word cd__law_word ct__law_word), sl__law_word⟩)
  (c_c__law_word : PySem.W.codeIn K cd__law_word "_law_word" = true)
  (k__law_word : PySem.W.keepIn K (.ref f__law_word) = true)
  (a__law_size : PySem.W.nsIn K mainGlobals "_law_size" = some (some (.ref f__law_size)))
  (l__law_size : K.lookup f__law_size = some ⟨oc__law_size, od__law_size, .func (PySem.W.fnOf "_law_size" "_law_size" (defArgs s__law_size) (defBody s__law_size) (defScope s__law_size) .none kV__law_size dc__law_size pm__law_size an__law_size cd__law_size ct__law_size), sl__law_size⟩)
  (c_c__law_size : PySem.W.codeIn K cd__law_size "_law_size" = true)
  (k__law_size : PySem.W.keepIn K (.ref f__law_size) = true)
  (a__law_bare : PySem.W.nsIn K mainGlobals "_law_bare" = some (some (.ref f__law_bare)))
  (l__law_bare : K.lookup f__law_bare = some ⟨oc__law_bare, od__law_bare, .func (PySem.W.fnOf "_law_bare" "_law_bare" (defArgs s__law_bare) (defBody s__law_bare) (defScope s__law_bare) .none kV__law_bare dc__law_bare pm__law_bare an__law_bare cd__law_bare ct__law_bare), sl__law_bare⟩)
  (c_c__law_bare : PySem.W.codeIn K cd__law_bare "_law_bare" = true)
  (k__law_bare : PySem.W.keepIn K (.ref f__law_bare) = true)
  (a__law_refused : PySem.W.nsIn K mainGlobals "_law_refused" = some (some (.ref f__law_refused)))
  (l__law_refused : K.lookup f__law_refused = some ⟨oc__law_refused, od__law_refused, .func (PySem.W.fnOf "_law_refused" "_law_refused" (defArgs s__law_refused) (defBody s__law_refused) (defScope s__law_refused) .none kV__law_refused dc__law_refused pm__law_refused an__law_refused (.ref c__law_refused) ct__law_refused), sl__law_refused⟩)
  (c_c__law_refused : PySem.W.codeIn K (.ref c__law_refused) "_law_refused" = true)
  (k__law_refused : PySem.W.keepIn K (.ref f__law_refused) = true)
  (xl__law_refused : K.lookup c__law_refused = some ⟨xc__law_refused, xd__law_refused, .fields vs__law_refused, xs__law_refused⟩)
  (xp__law_refused : vs__law_refused[11]? = some (.ref P__law_refused))
  (xh__law_refused : PySem.W.codeHdIn K c__law_refused P__law_refused = true)
  (xn__law_refused : K.lookup P__law_refused = none)
  (xt__law_refused : h.get? P__law_refused = some { cls := .none, data := .fields #[] })
  (a_law : PySem.W.nsIn K mainGlobals "law" = some (some (.ref f_law)))
  (l_law : K.lookup f_law = some ⟨oc_law, od_law, .func (PySem.W.fnOf "law" "law" (defArgs s_law) (defBody s_law) (defScope s_law) .none kV_law dc_law pm_law an_law (.ref c_law) ct_law), sl_law⟩)
  (c_c_law : PySem.W.codeIn K (.ref c_law) "law" = true)
  (k_law : PySem.W.keepIn K (.ref f_law) = true)
  (xl_law : K.lookup c_law = some ⟨xc_law, xd_law, .fields vs_law, xs_law⟩)
  (xp_law : vs_law[11]? = some (.ref P_law))
  (xh_law : PySem.W.codeHdIn K c_law P_law = true)
  (xn_law : K.lookup P_law = none)
  (xt_law : h.get? P_law = some { cls := .none, data := .fields #[] })
  (aC_InvalidBraid : PySem.W.nsIn K mainGlobals "InvalidBraid" = some (some (.ref C_InvalidBraid)))
  (aC_TooLarge : PySem.W.nsIn K mainGlobals "TooLarge" = some (some (.ref C_TooLarge)))
  (aC_StitchError : PySem.W.nsIn K mainGlobals "StitchError" = some (some (.ref C_StitchError)))
  (cls_StitchError : K.lookup C_StitchError = some (excClassObj nm_StitchError q_StitchError C_StitchError N_c_StitchError bs_StitchError bm_StitchError true sn_StitchError sub_StitchError ab_StitchError col_StitchError dd_StitchError k0_StitchError k1_StitchError k2_StitchError k3_StitchError k5_StitchError "ValueError.__new__"))
  (rv_StitchError : PySem.HandSPX.refsVE bm_StitchError = true)
  (sa_StitchError : PySem.W.findIn K (.ref C_StitchError) "__setattr__" = some (some (.builtin "object.__setattr__")))
  (xb_StitchError : PySem.W.subIn K (.ref C_StitchError) (.type "BaseException") = some true)
  (tc_StitchError : PySem.W.typeIn K (.ref C_StitchError) = some (.type "type"))
  (kc_StitchError : PySem.W.keepIn K (.ref C_StitchError) = true)
  (fi__StitchError : PySem.W.findIn K (.ref C_StitchError) "__init__" = some (some (.ref fi_StitchError)))
  (ft_StitchError : PySem.W.typeIn K (.ref fi_StitchError) = some (.type "function"))
  (fn_StitchError : PySem.W.fnIn K fi_StitchError = true)
  (li_StitchError : K.lookup fi_StitchError = some ⟨oci_StitchError, odi_StitchError, .func (PySem.W.ksFn "__init__" "StitchError.__init__" (DLX.eA p1_StitchError p2_StitchError) [DLX.eSup a1_StitchError a2_StitchError a3_StitchError a4_StitchError a5_StitchError a6_StitchError, DLX.eSet "place" (.Name "place" b4_StitchError) b1_StitchError b2_StitchError b3_StitchError, DLX.eSet "name" (.Constant (.str "StitchError") j_StitchError c4_StitchError) c1_StitchError c2_StitchError c3_StitchError] DLX.eSc .none kVi_StitchError dci_StitchError pmi_StitchError ani_StitchError (.ref cda_StitchError) cti_StitchError cc_StitchError), osl_StitchError⟩)
  (ci_StitchError : PySem.W.codeIn K (.ref cda_StitchError) "StitchError.__init__" = true)
  (lc_StitchError : K.lookup cda_StitchError = some ⟨ccl_StitchError, cdd_StitchError, .fields vs_StitchError, ccs_StitchError⟩)
  (lv_StitchError : vs_StitchError[2]? = some (.str PySem.Challenge.rw_deafneedle_k01_whole_words_of_braids.prog.main.file tf_StitchError))
  (ll_StitchError : K.lookup cc_StitchError = some ⟨cl_StitchError, cld_StitchError, .cell (some (.ref C_StitchError)), csl_StitchError⟩)
  (lk_StitchError : PySem.W.clsIn K C_StitchError = some cdD_StitchError)
  (st_StitchError : DLX.SupT a1_StitchError a2_StitchError a3_StitchError a4_StitchError a5_StitchError)
  (np_StitchError : PySem.W.findIn K (.ref C_StitchError) "place" = some none)
  (nn_StitchError : PySem.W.findIn K (.ref C_StitchError) "name" = some none)
  (su_StitchError : PySem.W.ks_superIn K C_StitchError C_StitchError "__init__" = some (some (.builtin "ValueError.__init__")))
  (is_StitchError : PySem.W.mroIn K C_StitchError (.ref C_StitchError) = some true)
  (iv_StitchError : PySem.W.subIn K (.ref C_StitchError) (.type "ValueError") = some true)
  (xf_StitchError : xfB K C_StitchError = true)
  (cls_InvalidBraid : K.lookup C_InvalidBraid = some (excClassObj nm_InvalidBraid q_InvalidBraid C_InvalidBraid N_c_InvalidBraid bs_InvalidBraid bm_InvalidBraid true sn_InvalidBraid sub_InvalidBraid ab_InvalidBraid col_InvalidBraid dd_InvalidBraid k0_InvalidBraid k1_InvalidBraid k2_InvalidBraid k3_InvalidBraid k5_InvalidBraid "ValueError.__new__"))
  (rv_InvalidBraid : PySem.HandSPX.refsVE bm_InvalidBraid = true)
  (sa_InvalidBraid : PySem.W.findIn K (.ref C_InvalidBraid) "__setattr__" = some (some (.builtin "object.__setattr__")))
  (xb_InvalidBraid : PySem.W.subIn K (.ref C_InvalidBraid) (.type "BaseException") = some true)
  (tc_InvalidBraid : PySem.W.typeIn K (.ref C_InvalidBraid) = some (.type "type"))
  (kc_InvalidBraid : PySem.W.keepIn K (.ref C_InvalidBraid) = true)
  (fi__InvalidBraid : PySem.W.findIn K (.ref C_InvalidBraid) "__init__" = some (some (.ref fi_InvalidBraid)))
  (ft_InvalidBraid : PySem.W.typeIn K (.ref fi_InvalidBraid) = some (.type "function"))
  (fn_InvalidBraid : PySem.W.fnIn K fi_InvalidBraid = true)
  (li_InvalidBraid : K.lookup fi_InvalidBraid = some ⟨oci_InvalidBraid, odi_InvalidBraid, .func (PySem.W.ksFn "__init__" "InvalidBraid.__init__" (DLX.eA p1_InvalidBraid p2_InvalidBraid) [DLX.eSup a1_InvalidBraid a2_InvalidBraid a3_InvalidBraid a4_InvalidBraid a5_InvalidBraid a6_InvalidBraid, DLX.eSet "name" (.Constant (.str "InvalidBraid") j_InvalidBraid c4_InvalidBraid) c1_InvalidBraid c2_InvalidBraid c3_InvalidBraid] DLX.eSc .none kVi_InvalidBraid dci_InvalidBraid pmi_InvalidBraid ani_InvalidBraid (.ref cda_InvalidBraid) cti_InvalidBraid cc_InvalidBraid), osl_InvalidBraid⟩)
  (ci_InvalidBraid : PySem.W.codeIn K (.ref cda_InvalidBraid) "InvalidBraid.__init__" = true)
  (lc_InvalidBraid : K.lookup cda_InvalidBraid = some ⟨ccl_InvalidBraid, cdd_InvalidBraid, .fields vs_InvalidBraid, ccs_InvalidBraid⟩)
  (lv_InvalidBraid : vs_InvalidBraid[2]? = some (.str PySem.Challenge.rw_deafneedle_k01_whole_words_of_braids.prog.main.file tf_InvalidBraid))
  (ll_InvalidBraid : K.lookup cc_InvalidBraid = some ⟨cl_InvalidBraid, cld_InvalidBraid, .cell (some (.ref C_InvalidBraid)), csl_InvalidBraid⟩)
  (lk_InvalidBraid : PySem.W.clsIn K C_InvalidBraid = some cdD_InvalidBraid)
  (st_InvalidBraid : DLX.SupT a1_InvalidBraid a2_InvalidBraid a3_InvalidBraid a4_InvalidBraid a5_InvalidBraid)
  (np_InvalidBraid : PySem.W.findIn K (.ref C_InvalidBraid) "place" = some none)
  (nn_InvalidBraid : PySem.W.findIn K (.ref C_InvalidBraid) "name" = some none)
  (su_InvalidBraid : PySem.W.ks_superIn K C_InvalidBraid C_StitchError "__init__" = some (some (.builtin "ValueError.__init__")))
  (is_InvalidBraid : PySem.W.mroIn K C_InvalidBraid (.ref C_StitchError) = some true)
  (iv_InvalidBraid : PySem.W.subIn K (.ref C_InvalidBraid) (.type "ValueError") = some true)
  (up_InvalidBraid : PySem.W.ks_superIn K C_InvalidBraid C_InvalidBraid "__init__" = some (some (.ref fi_StitchError)))
  (me_InvalidBraid : PySem.W.mroIn K C_InvalidBraid (.ref C_InvalidBraid) = some true)
  (xf_InvalidBraid : xfB K C_InvalidBraid = true)
  (cls_TooLarge : K.lookup C_TooLarge = some (excClassObj nm_TooLarge q_TooLarge C_TooLarge N_c_TooLarge bs_TooLarge bm_TooLarge true sn_TooLarge sub_TooLarge ab_TooLarge col_TooLarge dd_TooLarge k0_TooLarge k1_TooLarge k2_TooLarge k3_TooLarge k5_TooLarge "ValueError.__new__"))
  (rv_TooLarge : PySem.HandSPX.refsVE bm_TooLarge = true)
  (sa_TooLarge : PySem.W.findIn K (.ref C_TooLarge) "__setattr__" = some (some (.builtin "object.__setattr__")))
  (xb_TooLarge : PySem.W.subIn K (.ref C_TooLarge) (.type "BaseException") = some true)
  (tc_TooLarge : PySem.W.typeIn K (.ref C_TooLarge) = some (.type "type"))
  (kc_TooLarge : PySem.W.keepIn K (.ref C_TooLarge) = true)
  (fi__TooLarge : PySem.W.findIn K (.ref C_TooLarge) "__init__" = some (some (.ref fi_TooLarge)))
  (ft_TooLarge : PySem.W.typeIn K (.ref fi_TooLarge) = some (.type "function"))
  (fn_TooLarge : PySem.W.fnIn K fi_TooLarge = true)
  (li_TooLarge : K.lookup fi_TooLarge = some ⟨oci_TooLarge, odi_TooLarge, .func (PySem.W.ksFn "__init__" "TooLarge.__init__" (DLX.eA p1_TooLarge p2_TooLarge) [DLX.eSup a1_TooLarge a2_TooLarge a3_TooLarge a4_TooLarge a5_TooLarge a6_TooLarge, DLX.eSet "name" (.Constant (.str "TooLarge") j_TooLarge c4_TooLarge) c1_TooLarge c2_TooLarge c3_TooLarge] DLX.eSc .none kVi_TooLarge dci_TooLarge pmi_TooLarge ani_TooLarge (.ref cda_TooLarge) cti_TooLarge cc_TooLarge), osl_TooLarge⟩)
  (ci_TooLarge : PySem.W.codeIn K (.ref cda_TooLarge) "TooLarge.__init__" = true)
  (lc_TooLarge : K.lookup cda_TooLarge = some ⟨ccl_TooLarge, cdd_TooLarge, .fields vs_TooLarge, ccs_TooLarge⟩)
  (lv_TooLarge : vs_TooLarge[2]? = some (.str PySem.Challenge.rw_deafneedle_k01_whole_words_of_braids.prog.main.file tf_TooLarge))
  (ll_TooLarge : K.lookup cc_TooLarge = some ⟨cl_TooLarge, cld_TooLarge, .cell (some (.ref C_TooLarge)), csl_TooLarge⟩)
  (lk_TooLarge : PySem.W.clsIn K C_TooLarge = some cdD_TooLarge)
  (st_TooLarge : DLX.SupT a1_TooLarge a2_TooLarge a3_TooLarge a4_TooLarge a5_TooLarge)
  (np_TooLarge : PySem.W.findIn K (.ref C_TooLarge) "place" = some none)
  (nn_TooLarge : PySem.W.findIn K (.ref C_TooLarge) "name" = some none)
  (su_TooLarge : PySem.W.ks_superIn K C_TooLarge C_StitchError "__init__" = some (some (.builtin "ValueError.__init__")))
  (is_TooLarge : PySem.W.mroIn K C_TooLarge (.ref C_StitchError) = some true)
  (iv_TooLarge : PySem.W.subIn K (.ref C_TooLarge) (.type "ValueError") = some true)
  (up_TooLarge : PySem.W.ks_superIn K C_TooLarge C_TooLarge "__init__" = some (some (.ref fi_StitchError)))
  (me_TooLarge : PySem.W.mroIn K C_TooLarge (.ref C_TooLarge) = some true)
  (xf_TooLarge : xfB K C_TooLarge = true)
  (ex_0_0 : PySem.W.exmOne K (.ref C_InvalidBraid) (.ref C_InvalidBraid) = some true)
  (ex_1_0 : PySem.W.exmOne K (.ref C_TooLarge) (.ref C_InvalidBraid) = some false)
  (ex_1_1 : PySem.W.exmOne K (.ref C_TooLarge) (.ref C_TooLarge) = some true)
  (ex_2_0 : PySem.W.exmOne K (.ref C_StitchError) (.ref C_InvalidBraid) = some false)
  (ex_2_1 : PySem.W.exmOne K (.ref C_StitchError) (.ref C_TooLarge) = some false)
  (ex_2_2 : PySem.W.exmOne K (.ref C_StitchError) (.ref C_StitchError) = some true)
  (hsup : PySem.W.nsIn K mainGlobals "super" = some none)
  (hthird : PySem.W.nsIn K cStatics "thirdparty.any" = some none)
  (htop : (PySem.Challenge.rw_deafneedle_k01_whole_words_of_braids.prog.main.scope.names.lookup ("super" : Str)).isSome = false)
  (ne__law_refused_law : P__law_refused ≠ P_law) :
  LawAtS PySem.Challenge.rw_deafneedle_k01_whole_words_of_braids w K (L2.CX PySem.Challenge.rw_deafneedle_k01_whole_words_of_braids.prog w) 14 63 "script" mg fa h := by
  have e := hfa.symm.trans (PySem.W.mg_of X G a_law)
  cases e
  have T : Tx K mg := ⟨PySem.W.mg_none_of X G zb_abs, PySem.W.mg_none_of X G zb_all, PySem.W.mg_none_of X G zb_bool, PySem.W.mg_none_of X G zb_int, PySem.W.mg_none_of X G zb_isinstance, PySem.W.mg_none_of X G zb_len, PySem.W.mg_none_of X G zb_list, PySem.W.mg_none_of X G zb_range, PySem.W.mg_none_of X G zb_reversed, PySem.W.mg_none_of X G zb_sorted, PySem.W.mg_none_of X G zb_str, PySem.W.mg_none_of X G zb_tuple, ⟨_, PySem.W.mg_of X G zc_MOST_LETTERS⟩, ⟨_, PySem.W.mg_of X G zc_MOST_STRANDS⟩⟩
  have hsu : mg "super" = none := PySem.W.mg_none_of X G hsup
  have g_InvalidBraid : mg "InvalidBraid" = some (.ref C_InvalidBraid) := PySem.W.mg_of X G aC_InvalidBraid
  have g_TooLarge : mg "TooLarge" = some (.ref C_TooLarge) := PySem.W.mg_of X G aC_TooLarge
  have g_StitchError : mg "StitchError" = some (.ref C_StitchError) := PySem.W.mg_of X G aC_StitchError
  have O_StitchError : OexC K C_StitchError := ⟨⟨_, _, _, _, _, _, _, _, _, _, _, _, _, _, _, cls_StitchError, rv_StitchError⟩, sa_StitchError, xb_StitchError, tc_StitchError, kc_StitchError⟩
  have E_StitchError : DLX.ErrC K C_StitchError C_StitchError := ⟨O_StitchError, np_StitchError, nn_StitchError, su_StitchError, is_StitchError, iv_StitchError⟩
  have I_StitchError : DLX.ErrI K PySem.Challenge.rw_deafneedle_k01_whole_words_of_braids.prog.main.file "StitchError.__init__" _ fi_StitchError C_StitchError := ⟨_, _, _, _, _, _, _, _, _, _, _, _, _, _, _, _, _, _, _, _, _, li_StitchError, ci_StitchError, lc_StitchError, lv_StitchError, ll_StitchError, lk_StitchError⟩
  have O_InvalidBraid : OexC K C_InvalidBraid := ⟨⟨_, _, _, _, _, _, _, _, _, _, _, _, _, _, _, cls_InvalidBraid, rv_InvalidBraid⟩, sa_InvalidBraid, xb_InvalidBraid, tc_InvalidBraid, kc_InvalidBraid⟩
  have E_InvalidBraid : DLX.ErrC K C_InvalidBraid C_StitchError := ⟨O_InvalidBraid, np_InvalidBraid, nn_InvalidBraid, su_InvalidBraid, is_InvalidBraid, iv_InvalidBraid⟩
  have I_InvalidBraid : DLX.ErrI K PySem.Challenge.rw_deafneedle_k01_whole_words_of_braids.prog.main.file "InvalidBraid.__init__" _ fi_InvalidBraid C_InvalidBraid := ⟨_, _, _, _, _, _, _, _, _, _, _, _, _, _, _, _, _, _, _, _, _, li_InvalidBraid, ci_InvalidBraid, lc_InvalidBraid, lv_InvalidBraid, ll_InvalidBraid, lk_InvalidBraid⟩
  have O_TooLarge : OexC K C_TooLarge := ⟨⟨_, _, _, _, _, _, _, _, _, _, _, _, _, _, _, cls_TooLarge, rv_TooLarge⟩, sa_TooLarge, xb_TooLarge, tc_TooLarge, kc_TooLarge⟩
  have E_TooLarge : DLX.ErrC K C_TooLarge C_StitchError := ⟨O_TooLarge, np_TooLarge, nn_TooLarge, su_TooLarge, is_TooLarge, iv_TooLarge⟩
  have I_TooLarge : DLX.ErrI K PySem.Challenge.rw_deafneedle_k01_whole_words_of_braids.prog.main.file "TooLarge.__init__" _ fi_TooLarge C_TooLarge := ⟨_, _, _, _, _, _, _, _, _, _, _, _, _, _, _, _, _, _, _, _, _, li_TooLarge, ci_TooLarge, lc_TooLarge, lv_TooLarge, ll_TooLarge, lk_TooLarge⟩
  have AD : AskDef K mg "_law_asked" "ask" [(C_InvalidBraid, "braid"), (C_TooLarge, "large"), (C_StitchError, "other")] := by
    refine ⟨f__law_asked, _, _, _, _, _, _, _, _, _, _, _, _, _, ["ask", "e"], PySem.W.mg_of X G a__law_asked, k__law_asked, l__law_asked, c_c__law_asked, (fun_mk (st := s__law_asked) l__law_asked c_c__law_asked k__law_asked).binds (ps := ["ask"]) fun _ _ _ _ _ _ us hl => (match us, hl with | [_], _ => rfl), ⟨rfl, rfl, rfl, by decide +kernel, rfl, by decide +kernel, by decide +kernel⟩, rfl, .inl rfl, ?_⟩
    rintro X0 rfl rfl q
    exact ask_gives (X := X0) (e := "e") (i := 1) (fun _ => rfl) (by decide +kernel) rfl rfl (fun Y h1 h2 h3 h4 => by
      rw [← h1]
      exact (asOk_cons (C := C_InvalidBraid) (i := 1) (by show Y.env.scope.names.lookup _ = _; rw [h4]; rfl) (by decide) (by rw [h2]; exact g_InvalidBraid) (by rw [h3]; rfl) (by rw [h4]; rfl) (by decide) (by decide) (asOk_cons (C := C_TooLarge) (i := 1) (by show Y.env.scope.names.lookup _ = _; rw [h4]; rfl) (by decide) (by rw [h2]; exact g_TooLarge) (by rw [h3]; rfl) (by rw [h4]; rfl) (by decide) (by decide) (asOk_cons (C := C_StitchError) (i := 1) (by show Y.env.scope.names.lookup _ = _; rw [h4]; rfl) (by decide) (by rw [h2]; exact g_StitchError) (by rw [h3]; rfl) (by rw [h4]; rfl) (by decide) (by decide) .nil))))
  have hpk : ∀ c tag C, askP c = some tag → mg c = some (.ref C) → askHit K C tag [(C_InvalidBraid, "braid"), (C_TooLarge, "large"), (C_StitchError, "other")] ∧ XfC K C ∧ PySem.W.findIn K (.ref C) "place" = some none := by
    intro c tag C h1 h2
    unfold askP at h1
    split at h1
    · rename_i hc
      subst hc
      cases h1
      rw [g_InvalidBraid] at h2
      cases h2
      exact ⟨.inl ⟨ex_0_0, rfl⟩, xfB_ok xf_InvalidBraid, np_InvalidBraid⟩
    split at h1
    · rename_i hc
      subst hc
      cases h1
      rw [g_TooLarge] at h2
      cases h2
      exact ⟨.inr ⟨ex_1_0, .inl ⟨ex_1_1, rfl⟩⟩, xfB_ok xf_TooLarge, np_TooLarge⟩
    split at h1
    · rename_i hc
      subst hc
      cases h1
      rw [g_StitchError] at h2
      cases h2
      exact ⟨.inr ⟨ex_2_0, .inr ⟨ex_2_1, .inl ⟨ex_2_2, rfl⟩⟩⟩, xfB_ok xf_StitchError, np_StitchError⟩
    cases h1
  refine lawAt (cs := [(c__law_refused, P__law_refused), (c_law, P_law)]) (T := [(P__law_refused, (("_law_refused" : Str) ++ (".<locals>." : Str) ++ ("<lambda>" : Str))), (P_law, (("law" : Str) ++ (".<locals>." : Str) ++ ("<lambda>" : Str)))]) (fd := PySem.W.fnOf "law" "law" (defArgs s_law) (defBody s_law) (defScope s_law) .none kV_law dc_law pm_law an_law (.ref c_law) ct_law) ?_ ?_ ?_ (fun s v => .of_eq rfl) ?_ (fun base KB GB TB => ?_) hm
  · intro p hp
    simp only [List.mem_cons, List.not_mem_nil, or_false] at hp
    rcases hp with rfl | rfl
    · exact xt__law_refused
    · exact xt_law
  · intro p hp
    simp only [List.mem_cons, List.not_mem_nil, or_false] at hp
    rcases hp with rfl | rfl
    · exact xn__law_refused
    · exact xn_law
  · intro p hp
    simp only [List.mem_cons, List.not_mem_nil, or_false] at hp
    rcases hp with rfl | rfl
    · exact PySem.W.codeHd_of_K X xh__law_refused
    · exact PySem.W.codeHd_of_K X xh_law
  · intro p hp
    simp only [List.mem_cons, List.not_mem_nil, or_false] at hp
    rcases hp with rfl | rfl
    · exact ⟨(c__law_refused, P__law_refused), by simp, rfl⟩
    · exact ⟨(c_law, P_law), by simp, rfl⟩
  · have X_InvalidBraid : ErrX K mg PySem.Challenge.rw_deafneedle_k01_whole_words_of_braids.prog w base "InvalidBraid" C_InvalidBraid := ⟨O_InvalidBraid, g_InvalidBraid, fi_InvalidBraid, "InvalidBraid", fi__InvalidBraid, ft_InvalidBraid, fun M A R s y t0 v kb hx hbx hroom hq => DLX.init2 st_InvalidBraid st_StitchError M hsu hthird htop I_InvalidBraid I_StitchError up_InvalidBraid ft_StitchError fn_StitchError me_InvalidBraid E_InvalidBraid kb hx hbx hroom hq⟩
    have F__law_next := fun_mk (st := s__law_next) l__law_next c_c__law_next k__law_next
    have D__law_next : DefK PySem.Challenge.rw_deafneedle_k01_whole_words_of_braids.prog w K mg base [(P__law_refused, (("_law_refused" : Str) ++ (".<locals>." : Str) ++ ("<lambda>" : Str))), (P_law, (("law" : Str) ++ (".<locals>." : Str) ++ ("<lambda>" : Str)))] "_law_next" 1 2 m__law_next := ⟨_, _, ["tape", "many"], rfl, ok__law_next T  F__law_next, PySem.W.mg_of X G a__law_next, k__law_next, (fun_mk (st := s__law_next) l__law_next c_c__law_next k__law_next).binds (ps := ["tape", "many"]) fun _ _ _ _ _ _ us hl => (match us, hl with | [_, _], _ => rfl)⟩
    have F__law_word := fun_mk (st := s__law_word) l__law_word c_c__law_word k__law_word
    have D__law_word : DefK PySem.Challenge.rw_deafneedle_k01_whole_words_of_braids.prog w K mg base [(P__law_refused, (("_law_refused" : Str) ++ (".<locals>." : Str) ++ ("<lambda>" : Str))), (P_law, (("law" : Str) ++ (".<locals>." : Str) ++ ("<lambda>" : Str)))] "_law_word" 2 3 m__law_word := ⟨_, _, ["tape", "n", "most"], rfl, ok__law_word T D__law_next F__law_word, PySem.W.mg_of X G a__law_word, k__law_word, (fun_mk (st := s__law_word) l__law_word c_c__law_word k__law_word).binds (ps := ["tape", "n", "most"]) fun _ _ _ _ _ _ us hl => (match us, hl with | [_, _, _], _ => rfl)⟩
    have F__law_size := fun_mk (st := s__law_size) l__law_size c_c__law_size k__law_size
    have D__law_size : DefK PySem.Challenge.rw_deafneedle_k01_whole_words_of_braids.prog w K mg base [(P__law_refused, (("_law_refused" : Str) ++ (".<locals>." : Str) ++ ("<lambda>" : Str))), (P_law, (("law" : Str) ++ (".<locals>." : Str) ++ ("<lambda>" : Str)))] "_law_size" 1 1 m__law_size := ⟨_, _, ["letter"], rfl, ok__law_size T  F__law_size, PySem.W.mg_of X G a__law_size, k__law_size, (fun_mk (st := s__law_size) l__law_size c_c__law_size k__law_size).binds (ps := ["letter"]) fun _ _ _ _ _ _ us hl => (match us, hl with | [_], _ => rfl)⟩
    have F__law_same := fun_mk (st := s__law_same) l__law_same c_c__law_same k__law_same
    have D__law_same : DefK PySem.Challenge.rw_deafneedle_k01_whole_words_of_braids.prog w K mg base [(P__law_refused, (("_law_refused" : Str) ++ (".<locals>." : Str) ++ ("<lambda>" : Str))), (P_law, (("law" : Str) ++ (".<locals>." : Str) ++ ("<lambda>" : Str)))] "_law_same" 8 2 (m__law_same 8) := ⟨_, _, ["told", "due"], rfl, ok__law_same T  F__law_same (PySem.W.mg_of X G a__law_same) k__law_same ((fun_mk (st := s__law_same) l__law_same c_c__law_same k__law_same).binds (ps := ["told", "due"]) fun _ _ _ _ _ _ us hl => (match us, hl with | [_, _], _ => rfl)) 8, PySem.W.mg_of X G a__law_same, k__law_same, (fun_mk (st := s__law_same) l__law_same c_c__law_same k__law_same).binds (ps := ["told", "due"]) fun _ _ _ _ _ _ us hl => (match us, hl with | [_, _], _ => rfl)⟩
    have F_is_integer := fun_mk (st := s_is_integer) l_is_integer c_c_is_integer k_is_integer
    have D_is_integer : DefK PySem.Challenge.rw_deafneedle_k01_whole_words_of_braids.prog w K mg base [(P__law_refused, (("_law_refused" : Str) ++ (".<locals>." : Str) ++ ("<lambda>" : Str))), (P_law, (("law" : Str) ++ (".<locals>." : Str) ++ ("<lambda>" : Str)))] "is_integer" 1 1 m_is_integer := ⟨_, _, ["value"], rfl, ok_is_integer T  F_is_integer, PySem.W.mg_of X G a_is_integer, k_is_integer, (fun_mk (st := s_is_integer) l_is_integer c_c_is_integer k_is_integer).binds (ps := ["value"]) fun _ _ _ _ _ _ us hl => (match us, hl with | [_], _ => rfl)⟩
    have F_is_strand_count := fun_mk (st := s_is_strand_count) l_is_strand_count c_c_is_strand_count k_is_strand_count
    have D_is_strand_count : DefK PySem.Challenge.rw_deafneedle_k01_whole_words_of_braids.prog w K mg base [(P__law_refused, (("_law_refused" : Str) ++ (".<locals>." : Str) ++ ("<lambda>" : Str))), (P_law, (("law" : Str) ++ (".<locals>." : Str) ++ ("<lambda>" : Str)))] "is_strand_count" 2 1 m_is_strand_count := ⟨_, _, ["n"], rfl, ok_is_strand_count T D_is_integer F_is_strand_count, PySem.W.mg_of X G a_is_strand_count, k_is_strand_count, (fun_mk (st := s_is_strand_count) l_is_strand_count c_c_is_strand_count k_is_strand_count).binds (ps := ["n"]) fun _ _ _ _ _ _ us hl => (match us, hl with | [_], _ => rfl)⟩
    have F_is_letter := fun_mk (st := s_is_letter) l_is_letter c_c_is_letter k_is_letter
    have D_is_letter : DefK PySem.Challenge.rw_deafneedle_k01_whole_words_of_braids.prog w K mg base [(P__law_refused, (("_law_refused" : Str) ++ (".<locals>." : Str) ++ ("<lambda>" : Str))), (P_law, (("law" : Str) ++ (".<locals>." : Str) ++ ("<lambda>" : Str)))] "is_letter" 2 2 m_is_letter := ⟨_, _, ["n", "value"], rfl, ok_is_letter T D_is_integer F_is_letter, PySem.W.mg_of X G a_is_letter, k_is_letter, (fun_mk (st := s_is_letter) l_is_letter c_c_is_letter k_is_letter).binds (ps := ["n", "value"]) fun _ _ _ _ _ _ us hl => (match us, hl with | [_, _], _ => rfl)⟩
    have F_check_braid := fun_mk (st := s_check_braid) l_check_braid c_c_check_braid k_check_braid
    have D_check_braid : DefK PySem.Challenge.rw_deafneedle_k01_whole_words_of_braids.prog w K mg base [(P__law_refused, (("_law_refused" : Str) ++ (".<locals>." : Str) ++ ("<lambda>" : Str))), (P_law, (("law" : Str) ++ (".<locals>." : Str) ++ ("<lambda>" : Str)))] "check_braid" 3 2 m_check_braid := ⟨_, _, ["n", "word"], rfl, ok_check_braid T D_is_strand_count D_is_letter X_InvalidBraid F_check_braid, PySem.W.mg_of X G a_check_braid, k_check_braid, (fun_mk (st := s_check_braid) l_check_braid c_c_check_braid k_check_braid).binds (ps := ["n", "word"]) fun _ _ _ _ _ _ us hl => (match us, hl with | [_, _], _ => rfl)⟩
    have F_standing := fun_mk (st := s_standing) l_standing c_c_standing k_standing
    have D_standing : DefK PySem.Challenge.rw_deafneedle_k01_whole_words_of_braids.prog w K mg base [(P__law_refused, (("_law_refused" : Str) ++ (".<locals>." : Str) ++ ("<lambda>" : Str))), (P_law, (("law" : Str) ++ (".<locals>." : Str) ++ ("<lambda>" : Str)))] "standing" 4 2 m_standing := ⟨_, _, ["n", "word"], rfl, ok_standing T D_check_braid F_standing, PySem.W.mg_of X G a_standing, k_standing, (fun_mk (st := s_standing) l_standing c_c_standing k_standing).binds (ps := ["n", "word"]) fun _ _ _ _ _ _ us hl => (match us, hl with | [_, _], _ => rfl)⟩
    have F_ends := fun_mk (st := s_ends) l_ends c_c_ends k_ends
    have D_ends : DefK PySem.Challenge.rw_deafneedle_k01_whole_words_of_braids.prog w K mg base [(P__law_refused, (("_law_refused" : Str) ++ (".<locals>." : Str) ++ ("<lambda>" : Str))), (P_law, (("law" : Str) ++ (".<locals>." : Str) ++ ("<lambda>" : Str)))] "ends" 5 2 m_ends := ⟨_, _, ["n", "word"], rfl, ok_ends T D_standing F_ends, PySem.W.mg_of X G a_ends, k_ends, (fun_mk (st := s_ends) l_ends c_c_ends k_ends).binds (ps := ["n", "word"]) fun _ _ _ _ _ _ us hl => (match us, hl with | [_, _], _ => rfl)⟩
    have F__law_bare := fun_mk (st := s__law_bare) l__law_bare c_c__law_bare k__law_bare
    have D__law_bare : DefK PySem.Challenge.rw_deafneedle_k01_whole_words_of_braids.prog w K mg base [(P__law_refused, (("_law_refused" : Str) ++ (".<locals>." : Str) ++ ("<lambda>" : Str))), (P_law, (("law" : Str) ++ (".<locals>." : Str) ++ ("<lambda>" : Str)))] "_law_bare" 1 1 m__law_bare := ⟨_, _, ["word"], rfl, ok__law_bare T  F__law_bare, PySem.W.mg_of X G a__law_bare, k__law_bare, (fun_mk (st := s__law_bare) l__law_bare c_c__law_bare k__law_bare).binds (ps := ["word"]) fun _ _ _ _ _ _ us hl => (match us, hl with | [_], _ => rfl)⟩
    have F_opposite := fun_mk (st := s_opposite) l_opposite c_c_opposite k_opposite
    have D_opposite : DefK PySem.Challenge.rw_deafneedle_k01_whole_words_of_braids.prog w K mg base [(P__law_refused, (("_law_refused" : Str) ++ (".<locals>." : Str) ++ ("<lambda>" : Str))), (P_law, (("law" : Str) ++ (".<locals>." : Str) ++ ("<lambda>" : Str)))] "opposite" 1 1 m_opposite := ⟨_, _, ["word"], rfl, ok_opposite T  F_opposite, PySem.W.mg_of X G a_opposite, k_opposite, (fun_mk (st := s_opposite) l_opposite c_c_opposite k_opposite).binds (ps := ["word"]) fun _ _ _ _ _ _ us hl => (match us, hl with | [_], _ => rfl)⟩
    have F_freed := fun_mk (st := s_freed) l_freed c_c_freed k_freed
    have D_freed : DefK PySem.Challenge.rw_deafneedle_k01_whole_words_of_braids.prog w K mg base [(P__law_refused, (("_law_refused" : Str) ++ (".<locals>." : Str) ++ ("<lambda>" : Str))), (P_law, (("law" : Str) ++ (".<locals>." : Str) ++ ("<lambda>" : Str)))] "freed" 1 1 m_freed := ⟨_, _, ["word"], rfl, ok_freed T  F_freed, PySem.W.mg_of X G a_freed, k_freed, (fun_mk (st := s_freed) l_freed c_c_freed k_freed).binds (ps := ["word"]) fun _ _ _ _ _ _ us hl => (match us, hl with | [_], _ => rfl)⟩
    have F_moved_by := fun_mk (st := s_moved_by) l_moved_by c_c_moved_by k_moved_by
    have D_moved_by : DefK PySem.Challenge.rw_deafneedle_k01_whole_words_of_braids.prog w K mg base [(P__law_refused, (("_law_refused" : Str) ++ (".<locals>." : Str) ++ ("<lambda>" : Str))), (P_law, (("law" : Str) ++ (".<locals>." : Str) ++ ("<lambda>" : Str)))] "moved_by" 1 2 m_moved_by := ⟨_, _, ["word", "many"], rfl, ok_moved_by T  F_moved_by, PySem.W.mg_of X G a_moved_by, k_moved_by, (fun_mk (st := s_moved_by) l_moved_by c_c_moved_by k_moved_by).binds (ps := ["word", "many"]) fun _ _ _ _ _ _ us hl => (match us, hl with | [_, _], _ => rfl)⟩
    have F_is_braid := fun_mk (st := s_is_braid) l_is_braid c_c_is_braid k_is_braid
    have D_is_braid : DefK PySem.Challenge.rw_deafneedle_k01_whole_words_of_braids.prog w K mg base [(P__law_refused, (("_law_refused" : Str) ++ (".<locals>." : Str) ++ ("<lambda>" : Str))), (P_law, (("law" : Str) ++ (".<locals>." : Str) ++ ("<lambda>" : Str)))] "is_braid" 3 2 m_is_braid := ⟨_, _, ["n", "value"], rfl, ok_is_braid T D_is_strand_count D_is_letter F_is_braid, PySem.W.mg_of X G a_is_braid, k_is_braid, (fun_mk (st := s_is_braid) l_is_braid c_c_is_braid k_is_braid).binds (ps := ["n", "value"]) fun _ _ _ _ _ _ us hl => (match us, hl with | [_, _], _ => rfl)⟩
    have F_letters_used := fun_mk (st := s_letters_used) l_letters_used c_c_letters_used k_letters_used
    have D_letters_used : DefK PySem.Challenge.rw_deafneedle_k01_whole_words_of_braids.prog w K mg base [(P__law_refused, (("_law_refused" : Str) ++ (".<locals>." : Str) ++ ("<lambda>" : Str))), (P_law, (("law" : Str) ++ (".<locals>." : Str) ++ ("<lambda>" : Str)))] "letters_used" 4 2 m_letters_used := ⟨_, _, ["n", "word"], rfl, ok_letters_used T D_check_braid F_letters_used, PySem.W.mg_of X G a_letters_used, k_letters_used, (fun_mk (st := s_letters_used) l_letters_used c_c_letters_used k_letters_used).binds (ps := ["n", "word"]) fun _ _ _ _ _ _ us hl => (match us, hl with | [_, _], _ => rfl)⟩
    have F_blocks := fun_mk (st := s_blocks) l_blocks c_c_blocks k_blocks
    have D_blocks : DefK PySem.Challenge.rw_deafneedle_k01_whole_words_of_braids.prog w K mg base [(P__law_refused, (("_law_refused" : Str) ++ (".<locals>." : Str) ++ ("<lambda>" : Str))), (P_law, (("law" : Str) ++ (".<locals>." : Str) ++ ("<lambda>" : Str)))] "blocks" 5 2 m_blocks := ⟨_, _, ["n", "word"], rfl, ok_blocks T D_letters_used F_blocks, PySem.W.mg_of X G a_blocks, k_blocks, (fun_mk (st := s_blocks) l_blocks c_c_blocks k_blocks).binds (ps := ["n", "word"]) fun _ _ _ _ _ _ us hl => (match us, hl with | [_, _], _ => rfl)⟩
    have F_block_word := fun_mk (st := s_block_word) l_block_word c_c_block_word k_block_word
    have D_block_word : DefK PySem.Challenge.rw_deafneedle_k01_whole_words_of_braids.prog w K mg base [(P__law_refused, (("_law_refused" : Str) ++ (".<locals>." : Str) ++ ("<lambda>" : Str))), (P_law, (("law" : Str) ++ (".<locals>." : Str) ++ ("<lambda>" : Str)))] "block_word" 5 4 m_block_word := ⟨_, _, ["n", "word", "first", "beyond"], rfl, ok_block_word T D_letters_used D_is_integer D_moved_by X_InvalidBraid F_block_word, PySem.W.mg_of X G a_block_word, k_block_word, (fun_mk (st := s_block_word) l_block_word c_c_block_word k_block_word).binds (ps := ["n", "word", "first", "beyond"]) fun _ _ _ _ _ _ us hl => (match us, hl with | [_, _, _, _], _ => rfl)⟩
    have D__law_refused : DefK PySem.Challenge.rw_deafneedle_k01_whole_words_of_braids.prog w K mg base [(P__law_refused, (("_law_refused" : Str) ++ (".<locals>." : Str) ++ ("<lambda>" : Str))), (P_law, (("law" : Str) ++ (".<locals>." : Str) ++ ("<lambda>" : Str)))] "_law_refused" 11 1 m__law_refused := ⟨_, _, ["tape"], rfl, ok__law_refused T D__law_next D_check_braid D_standing D_ends D_letters_used D_blocks D_block_word D_is_braid D__law_same AD hpk (TB (c__law_refused, P__law_refused) (by simp)) (by simp) (fun p hp e => by
      simp only [List.mem_cons, List.not_mem_nil, or_false] at hp
      rcases hp with rfl | rfl
      · rfl
      · exact absurd e (Ne.symm ne__law_refused_law)) l__law_refused c_c__law_refused, PySem.W.mg_of X G a__law_refused, k__law_refused, (fun_mk (st := s__law_refused) l__law_refused c_c__law_refused k__law_refused).binds (ps := ["tape"]) fun _ _ _ _ _ _ us hl => (match us, hl with | [_], _ => rfl)⟩
    exact ok_law T D__law_next D__law_word D__law_size D__law_same D_standing D_ends D__law_bare D_opposite D_freed D_moved_by D_is_braid D_letters_used D_blocks D_block_word D__law_refused AD hpk (TB (c_law, P_law) (by simp)) (by simp) (fun p hp e => by
      simp only [List.mem_cons, List.not_mem_nil, or_false] at hp
      rcases hp with rfl | rfl
      · exact absurd e ne__law_refused_law
      · rfl) l_law c_c_law
end DL

end
section
set_option Elab.async false
set_option linter.all false
set_option maxRecDepth 100000
set_option maxHeartbeats 4000000
namespace DL
open PySem PySem.Spec PyProof.Rows L2
theorem is_integer_int (i : Int) (S : Sto) : m_is_integer [.d (.int i)] S = .rt (.bool true) S := by
  refine ev_mk rfl (es_ret (ev_and (ev_un (ev_var rfl) rfl (isi_int_int i)) (ev_not (ev_un (ev_var rfl) rfl (isi_int_bool i))))) ?_
  simp
theorem is_integer_bool (i : Bool) (S : Sto) : m_is_integer [.d (.bool i)] S = .rt (.bool false) S := by
  refine ev_mk rfl (es_ret (ev_and (ev_un (ev_var rfl) rfl (isi_bool_int i)) (ev_not (ev_un (ev_var rfl) rfl (isi_bool_bool i))))) ?_
  simp
theorem is_integer_str (i : Str) (S : Sto) : m_is_integer [.d (.str i)] S = .rt (.bool false) S := by
  refine ev_mk rfl (es_ret (ev_andF (ev_un (ev_var rfl) rfl (isi_str_int i)))) ?_
  simp
theorem is_integer_flat (d : D) (h : flatI d = true) (S : Sto) : m_is_integer [.d d] S = .rt (.bool (isIntD d)) S := by
  cases d <;> first
    | exact is_integer_int _ S
    | exact is_integer_bool _ S
    | exact is_integer_str _ S
    | cases h
theorem next_ok {S : Sto} {j : Nat} {c : Cell} {many : Nat} (hj : S[j]? = some c) (hc : TapeOk c) (hm : 1 ≤ many) (hm2 : many ≤ 100) :
    ∃ v c', m__law_next [.m j, .d (.int (many : Int))] S = .rt (.int ((v : Nat) : Int)) (S.set j c') ∧ v < many ∧ TapeOk c' := by
  obtain ⟨ns, pos, rest, h, rfl⟩ := hc
  have hjl : j < S.length := (List.getElem?_eq_some_iff.mp hj).1
  by_cases hr : rest = 0
  · subst hr
    -- the cell
    have key : ∀ (S1 : Sto) (pos1 cell : Nat), S1[j]? = some (.lst [.list (zd ns), .int (pos1 : Int), .int ((0 : Nat) : Int), .int (h : Int)]) → S1.length = S.length → (∀ x, S1.set j x = S.set j x) →
        ∃ v c', (sSeq (sSeq (sAsg 2 (eVar 3))
  (sIf (eOp dLt (eVar 3) (eOp dPow (eC (.int 10)) (eC (.int 18)))) (sSeq (sSub1 (eVar 0) (eC (.int 3)) (eOp dMod (eCallV (v1 dInt) (aCons (eOp dAdd (eOp dAdd (eOp dMul (eOp dIx (eVar 0) (eC (.int 3))) (eC (.int 69621))) (eOp dMul (eVar 3) (eC (.int 40692)))) (eC (.int 17))) aNil)) (eC (.int 2147483647))))
  (sRet (eOp dMod (eOp dMod (eCallV (v1 dInt) (aCons (eOp dMul (eCallV (v1 dInt) (aCons (eOp dFdiv (eOp dIx (eVar 0) (eC (.int 3))) (eC (.int 5))) aNil)) (eC (.int 48271))) aNil)) (eC (.int 2147483647))) (eVar 1)))) sNil))
  (sSeq (sSub1 (eVar 0) (eC (.int 2)) (eOp dFdiv (eVar 2) (eVar 1)))
  (sRet (eOp dMod (eCallV (v1 dInt) (aCons (eVar 2) aNil)) (eVar 1))))) S.length [some (.m j), some (.d (.int (many : Int))), some (.d (.int ((0 : Nat) : Int))), some (.d (.int (cell : Int)))] S1 = .rt (.int ((v : Nat) : Int)) ((S.set j c').take S.length) ∧ v < many ∧ TapeOk c' := by
      intro S1 pos1 cell h1 hl hs
      by_cases hcell : cell < 1000000000000000000
      · refine ⟨((((h * 69621 + cell * 40692 + 17) % 2147483647) / 5 * 48271) % 2147483647) % many, .lst [.list (zd ns), .int (pos1 : Int), .int ((0 : Nat) : Int), .int (((h * 69621 + cell * 40692 + 17) % 2147483647 : Nat) : Int)], ?_, Nat.mod_lt _ (by omega), ⟨_, _, _, _, rfl⟩⟩
        refine es_seqR ?_
        refine (es_seq (es_asg (ev_var rfl))).trans ?_
        refine (es_ifT (ev_op (ev_var rfl) (pow18 _ _) rfl rfl ((dLt_int _ _).trans (by rw [decide_eq_true (by omega)])))).trans ?_
        refine (es_seq (es_sub1 (i := 3) (ev_op (ev_cv (ev_a1 (ev_op (ev_op (ev_op (ix_tape (i := 3) rfl h1 rfl) (ev_c _ _ _) rfl rfl (dMul_nat h (b := 69621) (by omega))) (ev_op (ev_var rfl) (ev_c _ _ _) rfl rfl (dMul_nat cell (b := 40692) (by omega))) rfl rfl (dAdd_nat _ _)) (ev_c _ _ _) rfl rfl (dAdd_nat _ 17))) rfl) (ev_c _ _ _) rfl rfl (dMod_nat (b := 2147483647) (by omega))) (ev_var rfl) (ev_c _ _ _) h1 (show 3 < 4 from by decide))).trans ?_
        have h2 : (S1.set j (.lst [.list (zd ns), .int (pos1 : Int), .int ((0 : Nat) : Int), .int (((h * 69621 + cell * 40692 + 17) % 2147483647 : Nat) : Int)]))[j]? = some (.lst [.list (zd ns), .int (pos1 : Int), .int ((0 : Nat) : Int), .int (((h * 69621 + cell * 40692 + 17) % 2147483647 : Nat) : Int)]) := List.getElem?_set_self (by omega)
        refine (es_ret (ev_op (ev_op (ev_cv (ev_a1 (ev_op (ev_cv (ev_a1 (ev_op (ix_tape (i := 3) rfl h2 rfl) (ev_c _ _ _) rfl rfl (dFdiv_nat (b := 5) (by omega) (by omega)))) rfl) (ev_c _ _ _) rfl rfl (dMul_nat _ (b := 48271) (by omega)))) rfl) (ev_c _ _ _) rfl rfl (dMod_nat (b := 2147483647) (by omega))) (ev_var rfl) rfl rfl (dMod_nat (by omega)))).trans ?_
        rw [hs]
      · refine ⟨cell % many, _, ?_, Nat.mod_lt _ (by omega), ⟨ns, pos1, cell / many, h, rfl⟩⟩
        refine (es_seq (ρ' := [some (.m j), some (.d (.int (many : Int))), some (.d (.int (cell : Int))), some (.d (.int (cell : Int)))]) (S' := S1) ?_).trans ?_
        · refine (es_seq (es_asg (ev_var rfl))).trans ?_
          refine (es_ifF (ev_op (ev_var rfl) (pow18 _ _) rfl rfl ((dLt_int _ _).trans (by rw [decide_eq_false (by omega)])))).trans (es_nil _ _ _)
        · rw [next_tail hm hm2 h1, hs]
    have fin : ∃ v c', b__law_next S.length (envOf 4 [.m j, .d (.int (many : Int))]) S = .rt (.int ((v : Nat) : Int)) ((S.set j c').take S.length) ∧ v < many ∧ TapeOk c' := by
      by_cases hp : pos < ns.length
      · obtain ⟨v, c', e, hv, hc⟩ := key (S.set j (.lst [.list (zd ns), .int ((pos + 1 : Nat) : Int), .int ((0 : Nat) : Int), .int (h : Int)])) (pos + 1) ns[pos].natAbs (List.getElem?_set_self hjl) (by simp) (by intro x; simp)
        refine ⟨v, c', ?_, hv, hc⟩
        refine Eq.trans ?_ e
        refine (es_seq (es_asg (ix_tape (i := 2) rfl hj rfl))).trans ?_
        refine es_seq_congr ?_
        refine (es_ifT (ev_op (ev_var rfl) (ev_c _ _ _) rfl rfl ((dEq_int _ _).trans (by simp)))).trans ?_
        refine (es_seq (es_asg (ev_c _ _ _))).trans ?_
        refine (es_seq ((es_ifT (ev_op (ix_tape (i := 1) rfl hj rfl) (ev_cv (c := .int (ns.length : Int)) (ev_a1 (ix_tape (i := 0) rfl hj rfl)) (by show some (PyData.int ((zd ns).length : Int)) = _; rw [zd_len])) rfl rfl ((dLt_int _ _).trans (by rw [decide_eq_true (by omega)])))).trans ?_)).trans rfl
        refine (es_seq (es_asg (ev_cv (ev_a1 (ev_cv (ev_a1 (ev_op (ix_tape (i := 0) rfl hj rfl) (ix_tape (i := 1) rfl hj rfl) rfl rfl (c := .int ns[pos]) ((dIx_nat (by simp [zd, hp])).2))) rfl)) (abs_nat _)))).trans ?_
        refine (es_sub1 (i := 1) (ev_op (ix_tape (i := 1) rfl hj rfl) (ev_c _ _ _) rfl rfl (dAdd_nat pos 1)) (ev_var rfl) (ev_c _ _ _) hj (show 1 < 4 from by decide)).trans ?_
        rfl
      · obtain ⟨v, c', e, hv, hc⟩ := key S pos 0 hj rfl (fun _ => rfl)
        refine ⟨v, c', ?_, hv, hc⟩
        refine Eq.trans ?_ e
        refine (es_seq (es_asg (ix_tape (i := 2) rfl hj rfl))).trans ?_
        refine es_seq_congr ?_
        refine (es_ifT (ev_op (ev_var rfl) (ev_c _ _ _) rfl rfl ((dEq_int _ _).trans (by simp)))).trans ?_
        refine (es_seq (es_asg (ev_c _ _ _))).trans ?_
        refine (es_seq ((es_ifF (ev_op (ix_tape (i := 1) rfl hj rfl) (ev_cv (c := .int (ns.length : Int)) (ev_a1 (ix_tape (i := 0) rfl hj rfl)) (by show some (PyData.int ((zd ns).length : Int)) = _; rw [zd_len])) rfl rfl ((dLt_int _ _).trans (by rw [decide_eq_false (by omega)])))).trans (es_nil _ _ _))).trans rfl
    obtain ⟨v, c', e, hv, hc⟩ := fin
    exact ⟨v, c', ev_mk2 rfl e (by rw [List.take_take, Nat.min_self, len_set]), hv, hc⟩
  · refine ⟨rest % many, .lst [.list (zd ns), .int (pos : Int), .int ((rest / many : Nat) : Int), .int (h : Int)], ?_, Nat.mod_lt _ (by omega), ⟨_, _, _, _, rfl⟩⟩
    refine ev_mk2 rfl ?_ (len_set j _)
    refine (es_seq (es_asg (ix_tape (i := 2) rfl hj rfl))).trans ?_
    refine (es_seq ((es_ifF (ev_op (ev_var rfl) (ev_c _ _ _) rfl rfl ((dEq_int _ _).trans (by rw [show ((rest : Int) == 0) = false from by simp [hr]])))).trans (es_nil _ _ _))).trans ?_
    refine (next_tail hm hm2 hj S.length none).trans ?_
    rw [len_set]
theorem same_row {k : Nat} {ds : List D} {d : D} {S : Sto} (hd : d = .list ds ∨ d = .tuple ds) (hl : ds.length ≤ 100000) (h : ∀ x ∈ ds, m__law_same k [.d x, .d x] S = .rt (.bool true) S) :
    (sRet (eAnd (eOp dEq (eCallV vLen (aCons (eVar 0) aNil)) (eCallV vLen (aCons (eVar 1) aNil))) (eOp dEq (eFz (eComp (iRange1 (aCons (eCallV vLen (aCons (eVar 1) aNil)) aNil)) (.nm 2) (eNot (eCall (m__law_same k) (aCons (eOp dIx (eVar 0) (eVar 2)) (aCons (eOp dIx (eVar 1) (eVar 2)) aNil)))) (eC (.int 1)) [2])) (eFz (eLst aNil))))) S.length [some (.d d), some (.d d), none] S = .rt (.bool true) (S.take S.length) := by
  have hlen : vLen S [.d d] = some (.int (ds.length : Int)) := by rcases hd with rfl | rfl <;> rfl
  have hix : ∀ i (hi : i < ds.length), dIx d (.int (i : Int)) = some ds[i] := by
    intro i hi
    rcases hd with rfl | rfl
    · exact (dIx_nat (List.getElem?_eq_getElem hi)).2
    · exact (dIx_nat (List.getElem?_eq_getElem hi)).1
  refine es_ret ((ev_andT (ev_op (ev_cv (ev_a1 (ev_var rfl)) hlen) (ev_cv (ev_a1 (ev_var rfl)) hlen) rfl rfl ((dEq_int _ _).trans (by simp)))).trans (ev_op (a := .list []) (b := .list []) (ev_fz (ev_comp (fun _ => false) (fun _ => .none) (ev_rg1 (ev_a1 (ev_cv (ev_a1 (ev_var rfl)) hlen)) (Nat.le_trans hl (by decide))) (fun x hx => ?_) ?_)) (ev_fz (ev_lst (show aNil _ _ = _ from rfl) rfl (by decide))) ?_ rfl ?_))
  · obtain ⟨i, hi, rfl⟩ := mem_nd hx
    rw [List.mem_range] at hi
    refine ⟨?_, fun q => by cases q⟩
    exact ev_not (ev_call (ev_ac (ev_op (ev_var rfl) (ev_var rfl) rfl rfl (hix i hi)) (ev_a1 (ev_op (ev_var rfl) (ev_var rfl) rfl rfl (hix i hi)))) (h _ (List.getElem_mem hi)))
  · rw [nd_len, List.length_range]
    exact big_line (by omega)
  · simp [val_d]
  · exact (dEq_zd [] []).1
theorem same_refl : ∀ (k : Nat) (d : D), okd k d = true → ∀ S, m__law_same (k + 1) [.d d, .d d] S = .rt (.bool true) S := by
  intro k
  induction k with
  | zero =>
    intro d h S
    cases d with
    | none =>
      refine ev_mk (S' := S) rfl ?_ (by simp)
      exact (es_seqR ((es_ifT (ev_op (ev_var rfl) (ev_c _ _ _) rfl rfl rfl)).trans (es_ret (ev_op (ev_var rfl) (ev_c _ _ _) rfl rfl rfl)))).trans (by simp)
    | bool b =>
      refine ev_mk (S' := S) rfl ?_ (by simp)
      refine (es_seq ((es_ifF (ev_op (ev_var rfl) (ev_c _ _ _) rfl rfl rfl)).trans (es_nil _ _ _))).trans ?_
      exact (es_seqR ((es_ifT (ev_un (ev_var rfl) rfl (isi_bool_bool b))).trans (es_ret ((ev_andT (ev_un (ev_var rfl) rfl (isi_bool_bool b))).trans (ev_op (ev_var rfl) (ev_var rfl) rfl rfl (flat_eq (d := .bool b) rfl)))))).trans (by simp)
    | int b =>
      refine ev_mk (S' := S) rfl ?_ (by simp)
      refine (es_seq ((es_ifF (ev_op (ev_var rfl) (ev_c _ _ _) rfl rfl rfl)).trans (es_nil _ _ _))).trans ?_
      refine (es_seq ((es_ifF (ev_un (ev_var rfl) rfl (isi_int_bool b))).trans (es_nil _ _ _))).trans ?_
      exact (es_seqR ((es_ifT (ev_un (ev_var rfl) rfl (isi_int_int b))).trans (es_ret ((ev_andT (ev_un (ev_var rfl) rfl (isi_int_int b))).trans ((ev_andT (ev_not (ev_un (ev_var rfl) rfl (isi_int_bool b)))).trans (ev_op (ev_var rfl) (ev_var rfl) rfl rfl (flat_eq (d := .int b) rfl))))))).trans (by simp)
    | str b =>
      refine ev_mk (S' := S) rfl ?_ (by simp)
      refine (es_seq ((es_ifF (ev_op (ev_var rfl) (ev_c _ _ _) rfl rfl rfl)).trans (es_nil _ _ _))).trans ?_
      refine (es_seq ((es_ifF (ev_un (ev_var rfl) rfl (isi_str_bool b))).trans (es_nil _ _ _))).trans ?_
      refine (es_seq ((es_ifF (ev_un (ev_var rfl) rfl (isi_str_int b))).trans (es_nil _ _ _))).trans ?_
      exact (es_seqR ((es_ifT (ev_un (ev_var rfl) rfl (isi_str_str b))).trans (es_ret ((ev_andT (ev_un (ev_var rfl) rfl (isi_str_str b))).trans (ev_op (ev_var rfl) (ev_var rfl) rfl rfl (flat_eq (d := .str b) h)))))).trans (by simp)
    | list b => cases h
    | tuple b => cases h
    | dict b => cases h
  | succ k ih =>
    intro d h S
    cases d with
    | none =>
      refine ev_mk (S' := S) rfl ?_ (by simp)
      exact (es_seqR ((es_ifT (ev_op (ev_var rfl) (ev_c _ _ _) rfl rfl rfl)).trans (es_ret (ev_op (ev_var rfl) (ev_c _ _ _) rfl rfl rfl)))).trans (by simp)
    | bool b =>
      refine ev_mk (S' := S) rfl ?_ (by simp)
      refine (es_seq ((es_ifF (ev_op (ev_var rfl) (ev_c _ _ _) rfl rfl rfl)).trans (es_nil _ _ _))).trans ?_
      exact (es_seqR ((es_ifT (ev_un (ev_var rfl) rfl (isi_bool_bool b))).trans (es_ret ((ev_andT (ev_un (ev_var rfl) rfl (isi_bool_bool b))).trans (ev_op (ev_var rfl) (ev_var rfl) rfl rfl (flat_eq (d := .bool b) rfl)))))).trans (by simp)
    | int b =>
      refine ev_mk (S' := S) rfl ?_ (by simp)
      refine (es_seq ((es_ifF (ev_op (ev_var rfl) (ev_c _ _ _) rfl rfl rfl)).trans (es_nil _ _ _))).trans ?_
      refine (es_seq ((es_ifF (ev_un (ev_var rfl) rfl (isi_int_bool b))).trans (es_nil _ _ _))).trans ?_
      exact (es_seqR ((es_ifT (ev_un (ev_var rfl) rfl (isi_int_int b))).trans (es_ret ((ev_andT (ev_un (ev_var rfl) rfl (isi_int_int b))).trans ((ev_andT (ev_not (ev_un (ev_var rfl) rfl (isi_int_bool b)))).trans (ev_op (ev_var rfl) (ev_var rfl) rfl rfl (flat_eq (d := .int b) rfl))))))).trans (by simp)
    | str b =>
      refine ev_mk (S' := S) rfl ?_ (by simp)
      refine (es_seq ((es_ifF (ev_op (ev_var rfl) (ev_c _ _ _) rfl rfl rfl)).trans (es_nil _ _ _))).trans ?_
      refine (es_seq ((es_ifF (ev_un (ev_var rfl) rfl (isi_str_bool b))).trans (es_nil _ _ _))).trans ?_
      refine (es_seq ((es_ifF (ev_un (ev_var rfl) rfl (isi_str_int b))).trans (es_nil _ _ _))).trans ?_
      exact (es_seqR ((es_ifT (ev_un (ev_var rfl) rfl (isi_str_str b))).trans (es_ret ((ev_andT (ev_un (ev_var rfl) rfl (isi_str_str b))).trans (ev_op (ev_var rfl) (ev_var rfl) rfl rfl (flat_eq (d := .str b) h)))))).trans (by simp)
    | list b =>
      have h' : (decide (b.length ≤ 100000) && b.all (okd k)) = true := h
      rw [Bool.and_eq_true, decide_eq_true_eq, List.all_eq_true] at h'
      refine ev_mk (S' := S.take S.length) rfl ?_ (by simp)
      refine (es_seq ((es_ifF (ev_op (ev_var rfl) (ev_c _ _ _) rfl rfl rfl)).trans (es_nil _ _ _))).trans ?_
      refine (es_seq ((es_ifF (ev_un (ev_var rfl) rfl (isi_list_bool b))).trans (es_nil _ _ _))).trans ?_
      refine (es_seq ((es_ifF (ev_un (ev_var rfl) rfl (isi_list_int b))).trans (es_nil _ _ _))).trans ?_
      refine (es_seq ((es_ifF (ev_un (ev_var rfl) rfl (isi_list_str b))).trans (es_nil _ _ _))).trans ?_
      refine (es_seq ((es_ifF ((ev_orF ((ev_andT (ev_un (ev_var rfl) rfl (isi_list_list b))).trans (ev_not (ev_un (ev_var rfl) rfl (isi_list_list b))))).trans (ev_andF (ev_un (ev_var rfl) rfl (isi_list_tuple b))))).trans (es_nil _ _ _))).trans ?_
      exact same_row (Or.inl rfl) h'.1 (fun x hx => ih x (h'.2 x hx) S)
    | tuple b =>
      have h' : (decide (b.length ≤ 100000) && b.all (okd k)) = true := h
      rw [Bool.and_eq_true, decide_eq_true_eq, List.all_eq_true] at h'
      refine ev_mk (S' := S.take S.length) rfl ?_ (by simp)
      refine (es_seq ((es_ifF (ev_op (ev_var rfl) (ev_c _ _ _) rfl rfl rfl)).trans (es_nil _ _ _))).trans ?_
      refine (es_seq ((es_ifF (ev_un (ev_var rfl) rfl (isi_tuple_bool b))).trans (es_nil _ _ _))).trans ?_
      refine (es_seq ((es_ifF (ev_un (ev_var rfl) rfl (isi_tuple_int b))).trans (es_nil _ _ _))).trans ?_
      refine (es_seq ((es_ifF (ev_un (ev_var rfl) rfl (isi_tuple_str b))).trans (es_nil _ _ _))).trans ?_
      refine (es_seq ((es_ifF ((ev_orF (ev_andF (ev_un (ev_var rfl) rfl (isi_tuple_list b)))).trans ((ev_andT (ev_un (ev_var rfl) rfl (isi_tuple_tuple b))).trans (ev_not (ev_un (ev_var rfl) rfl (isi_tuple_tuple b)))))).trans (es_nil _ _ _))).trans ?_
      exact same_row (Or.inr rfl) h'.1 (fun x hx => ih x (h'.2 x hx) S)
    | dict b => cases h
end DL

end
section
set_option Elab.async false
set_option linter.all false
set_option maxRecDepth 100000
set_option maxHeartbeats 4000000
namespace DL
open PySem PySem.Spec PyProof.Rows L2 FG
theorem freed_ok {l : List Int} (hl : l.length ≤ 1000000) (S : Sto) : m_freed [.d (.tuple (zd l))] S = .rt (.tuple (zd (fr l))) S := by
  obtain ⟨r, e⟩ := free_loop (fneg := eUn dNeg (eVar 2)) (b := S.length) (fun a j x S => ev_un (ev_var rfl) rfl rfl) hl (some (.d (.tuple (zd l)))) none S
  refine ev_mk (S' := S) rfl ?_ (by simp)
  refine (es_seq (es_asg (ev_new (ev_lst (show aNil _ _ = _ from rfl) rfl (Nat.zero_le _))))).trans ?_
  refine (es_seq ((es_for (ev_seqT (ev_var rfl))).trans e)).trans ?_
  refine (es_ret (d := .tuple (zd (fr l))) (ev_cv (ev_a1 (ev_var rfl)) ?_)).trans ?_
  · show (val _ (.m S.length)).bind dTuple = _
    rw [val_m (store_at _ _)]
    rfl
  · rw [store_take]
theorem opposite_ok {l : List Int} (hl : l.length ≤ 1000000) (S : Sto) : m_opposite [.d (.tuple (zd l))] S = .rt (.tuple (zd (inv l))) S := by
  refine ev_mk (S' := S) rfl ?_ (by simp)
  refine (es_ret (S' := S) (d := .tuple (zd (inv l))) (ev_cv (ev_a1 (ev_fz (ev_compM (fun d => .int (-(iOf d))) (ds := zd l.reverse) ?_ (fun d hd => ?_) (by rw [zd_len, List.length_reverse]; exact mill_line hl)))) ?_)).trans (by simp)
  · unfold iRev
    rw [ev_var rfl]
    simp only [zd_rev]
  · obtain ⟨i, _, rfl⟩ := mem_zd hd
    exact ev_un (ev_var rfl) rfl rfl
  · rw [map_zd (fun i => -i) _ _ (fun i => rfl)]
    rfl
theorem size_ok (x : Int) (S : Sto) : m__law_size [.d (.int x)] S = .rt (.int (x.natAbs : Int)) S := by
  refine ev_mk (S' := S) rfl ?_ (by simp)
  refine (es_ret (S' := S) (d := .int (x.natAbs : Int)) ?_).trans (by simp)
  unfold eIf
  rw [ev_b (ev_op (ev_var rfl) (ev_c _ _ _) rfl rfl (show dGt (.int x) (.int 0) = some (.bool (decide (x > 0))) from rfl))]
  by_cases h : x > 0
  · rw [decide_eq_true h]
    show eVar 0 _ _ = _
    rw [ev_var rfl]
    congr 3
    omega
  · rw [decide_eq_false h]
    refine (ev_op (ev_c _ _ _) (ev_var rfl) rfl rfl (c := .int (x.natAbs : Int)) ?_)
    show some (PyData.int (0 - x)) = _
    congr 2
    omega
theorem is_letter_int (n : Nat) (x : Int) (S : Sto) : m_is_letter [.d (.int (n : Int)), .d (.int x)] S = .rt (.bool (decide (Let n x))) S := by
  refine ev_mk (S' := S) rfl ?_ (by simp)
  exact (es_ret (S' := S) ((ev_andT (ev_call (ev_a1 (ev_var rfl)) (is_integer_int _ S))).trans (chain_let n x (ev_cv (ev_a1 (ev_var rfl)) (abs_nat _)) (ev_var rfl)))).trans (by simp)
theorem strands_int (n : Nat) (S : Sto) : m_is_strand_count [.d (.int (n : Int))] S = .rt (.bool (decide (1 ≤ n) && decide ((n : Int) ≤ 60))) S := by
  refine ev_mk (S' := S) rfl ?_ (by simp)
  exact (es_ret (S' := S) ((ev_andT (ev_call (ev_a1 (ev_var rfl)) (is_integer_int _ S))).trans (chain2 n (g := eC .none) (ev_var rfl)))).trans (by simp)
theorem strands_ok {n : Nat} (h1 : 1 ≤ n) (h2 : n ≤ 60) (S : Sto) : m_is_strand_count [.d (.int (n : Int))] S = .rt (.bool true) S := by
  rw [strands_int, decide_eq_true h1, decide_eq_true (by omega)]
  rfl
theorem check_head {n : Nat} (h1 : 1 ≤ n) (h2 : n ≤ 60) {ds : List D} (hl : ds.length ≤ 4000) (S : Sto) {s : SDen} {b : Nat} :
    (sSeq (sIf (eNot (eCall m_is_strand_count (aCons (eVar 0) aNil))) (sRaise "InvalidBraid" (eC (.str "strands"))) sNil)
  (sSeq (sIf (eOr (eNot (eIsi "tuple" (eVar 1))) (eOp dGt (eCallV vLen (aCons (eVar 1) aNil)) (eC (.int 4000)))) (sRaise "InvalidBraid" (eC (.str "word"))) sNil) s)) b [some (.d (.int (n : Int))), some (.d (.tuple ds)), none] S = s b [some (.d (.int (n : Int))), some (.d (.tuple ds)), none] S := by
  refine (es_seq ((es_ifF (ev_not (ev_call (ev_a1 (ev_var rfl)) (strands_ok h1 h2 S)))).trans (es_nil _ _ _))).trans ?_
  refine (es_seq ((es_ifF (S' := S) ((ev_orF (ev_not (ev_un (ev_var rfl) rfl (isi_tuple_tuple ds)))).trans (ev_op (a := .int (ds.length : Int)) (b := .int 4000) (ev_cv (ev_a1 (ev_var rfl)) rfl) (ev_c _ _ _) rfl rfl ?_))).trans (es_nil _ _ _))).trans rfl
  show some (PyData.bool (decide ((ds.length : Int) > 4000))) = _
  rw [decide_eq_false (by omega)]
theorem check_ok {n : Nat} (h1 : 1 ≤ n) (h2 : n ≤ 60) {w : List Int} (hl : w.length ≤ 4000) (hw : ∀ x ∈ w, Let n x) (S : Sto) : m_check_braid [.d (.int (n : Int)), .d (.tuple (zd w))] S = .rt .none S := by
  obtain ⟨ρ', S', e, ⟨r, rfl⟩, hS⟩ := loopF_inv (j := 2) (b := S.length) (s := sIf (eNot (eCall m_is_letter (aCons (eVar 0) (aCons (eOp dIx (eVar 1) (eVar 2)) aNil)))) (sRaise "InvalidBraid" (eVar 2)) sNil) (src := none) (all := nd (List.range w.length)) (ds := nd (List.range w.length)) (i := 0)
    (ρ := [some (.d (.int (n : Int))), some (.d (.tuple (zd w))), none]) (S := S)
    (fun i ρ T => (∃ r, ρ = [some (.d (.int (n : Int))), some (.d (.tuple (zd w))), r]) ∧ T = S) ⟨⟨_, rfl⟩, rfl⟩ (by
      rintro k d ρ T hd ⟨⟨r, rfl⟩, rfl⟩
      have hk : k < w.length := by
        have := (List.getElem?_eq_some_iff.mp hd).1
        rwa [nd_len, List.length_range] at this
      have ed : d = .int (k : Int) := by
        rw [nd_get (by simpa using hk)] at hd
        simpa using hd.symm
      subst ed
      refine ⟨_, _, (es_ifF (ev_not (ev_call (ev_ac (ev_var rfl) (ev_a1 (ev_op (ev_var rfl) (ev_var rfl) rfl rfl (dIx_nat (zd_ix hk)).1))) ((is_letter_int n _ T).trans (by rw [decide_eq_true (hw _ (List.getElem_mem hk))]))))).trans (es_nil _ _ _), rfl, ⟨_, rfl⟩, rfl⟩)
  rw [hS] at e
  refine ev_mkN (S' := S) rfl ((check_head h1 h2 (by rw [zd_len]; exact hl) S).trans ((es_for (ev_rg1 (n := w.length) (ev_a1 (ev_cv (ev_a1 (ev_var rfl)) (show some (PyData.int ((zd w).length : Int)) = _ from by rw [zd_len]))) (by omega))).trans e)) (by simp)
theorem check_bad {n : Nat} (h1 : 1 ≤ n) (h2 : n ≤ 60) {w : List Int} {x : Int} {u : List Int} (hl : (w ++ x :: u).length ≤ 4000) (hw : ∀ x ∈ w, Let n x) (hx : ¬ Let n x) (S : Sto) : m_check_braid [.d (.int (n : Int)), .d (.tuple (zd (w ++ x :: u)))] S = .exc "InvalidBraid" (.int (w.length : Int)) S := by
  have key : ∀ (ks : List Nat) (a : Nat) (r : Option RV) (all : List D), a ≤ w.length → ks = List.range' a (w.length + 1 - a) → ∀ more, ∃ ρ', loopF (.nm 2) (sIf (eNot (eCall m_is_letter (aCons (eVar 0) (aCons (eOp dIx (eVar 1) (eVar 2)) aNil)))) (sRaise "InvalidBraid" (eVar 2)) sNil) S.length none all (nd (ks ++ more)) [some (.d (.int (n : Int))), some (.d (.tuple (zd (w ++ x :: u)))), r] S = .exc "InvalidBraid" (.int (w.length : Int)) ρ' S := by
    intro ks
    induction ks with
    | nil =>
      intro a r all ha hks
      have := congrArg List.length hks
      simp at this
      omega
    | cons k ks ih =>
      intro a r all ha hks more
      rw [show w.length + 1 - a = (w.length - a) + 1 from by omega, List.range'_succ] at hks
      obtain ⟨rfl, hks⟩ := List.cons.inj hks
      have hk : k < (w ++ x :: u).length := by simp; omega
      have hix := (dIx_nat (zd_ix hk)).1
      by_cases hlt : k < w.length
      · obtain ⟨ρ', e⟩ := ih (k + 1) (some (.d (.int (k : Int)))) all (by omega) (by rw [hks]; congr 1; omega) more
        refine ⟨ρ', ?_⟩
        rw [List.getElem_append_left hlt] at hix
        have e1 : (sIf (eNot (eCall m_is_letter (aCons (eVar 0) (aCons (eOp dIx (eVar 1) (eVar 2)) aNil)))) (sRaise "InvalidBraid" (eVar 2)) sNil) S.length [some (.d (.int (n : Int))), some (.d (.tuple (zd (w ++ x :: u)))), some (.d (.int (k : Int)))] S = .nx [some (.d (.int (n : Int))), some (.d (.tuple (zd (w ++ x :: u)))), some (.d (.int (k : Int)))] S :=
          (es_ifF (ev_not (ev_call (ev_ac (ev_var rfl) (ev_a1 (ev_op (ev_var rfl) (ev_var rfl) rfl rfl hix))) ((is_letter_int n _ S).trans (by rw [decide_eq_true (hw _ (List.getElem_mem hlt))]))))).trans (es_nil _ _ _)
        show loopF _ _ _ _ _ (.int (k : Int) :: nd (ks ++ more)) _ _ = _
        unfold loopF
        simp only [setP, List.set_cons_succ, List.set_cons_zero, e1]
        exact e
      · have ek : k = w.length := by omega
        subst ek
        rw [List.getElem_append_right (Nat.le_refl _)] at hix
        simp only [Nat.sub_self, List.getElem_cons_zero] at hix
        have e1 : (sIf (eNot (eCall m_is_letter (aCons (eVar 0) (aCons (eOp dIx (eVar 1) (eVar 2)) aNil)))) (sRaise "InvalidBraid" (eVar 2)) sNil) S.length [some (.d (.int (n : Int))), some (.d (.tuple (zd (w ++ x :: u)))), some (.d (.int (w.length : Int)))] S = .exc "InvalidBraid" (.int (w.length : Int)) [some (.d (.int (n : Int))), some (.d (.tuple (zd (w ++ x :: u)))), some (.d (.int (w.length : Int)))] S :=
          (es_ifT (ev_not (ev_call (ev_ac (ev_var rfl) (ev_a1 (ev_op (ev_var rfl) (ev_var rfl) rfl rfl hix))) ((is_letter_int n _ S).trans (by rw [decide_eq_false hx]))))).trans (es_raise (ev_var rfl))
        refine ⟨[some (.d (.int (n : Int))), some (.d (.tuple (zd (w ++ x :: u)))), some (.d (.int (w.length : Int)))], ?_⟩
        show loopF _ _ _ _ _ (.int (w.length : Int) :: nd (ks ++ more)) _ _ = _
        unfold loopF
        simp only [setP, List.set_cons_succ, List.set_cons_zero, e1]
  obtain ⟨ρ', e⟩ := key (List.range' 0 (w.length + 1)) 0 none (nd (List.range (w ++ x :: u).length)) (Nat.zero_le _) rfl (List.range' (w.length + 1) u.length)
  have er : List.range' 0 (w.length + 1) ++ List.range' (w.length + 1) u.length = List.range (w ++ x :: u).length := by
    rw [List.range_eq_range']
    have := List.range'_append (s := 0) (m := w.length + 1) (n := u.length) (step := 1)
    simp at this
    simp
    rw [show w.length + (u.length + 1) = w.length + 1 + u.length from by omega]
    exact this
  rw [er] at e
  refine ev_mkX (S' := S) rfl ((check_head h1 h2 (by rw [zd_len]; exact hl) S).trans ((es_for (ev_rg1 (n := (w ++ x :: u).length) (ev_a1 (ev_cv (ev_a1 (ev_var rfl)) (show some (PyData.int ((zd (w ++ x :: u)).length : Int)) = _ from by rw [zd_len]))) (by omega))).trans e)) (by simp)
theorem draw_letter {ρ : Env} {S : Sto} {j n : Nat} {c : Cell} (h0 : ρ[0]? = some (some (.m j))) (h1 : ρ[1]? = some (some (.d (.int (n : Int))))) (hj : S[j]? = some c) (hc : TapeOk c) (hn : 2 ≤ n) (hn2 : n ≤ 60) :
    ∃ x c', eOp dMul (eOp dAdd (eC (.int 1)) (eCall m__law_next (aCons (eVar 0) (aCons (eOp dSub (eVar 1) (eC (.int 1))) aNil)))) (eOp dSub (eC (.int 1)) (eOp dMul (eC (.int 2)) (eCall m__law_next (aCons (eVar 0) (aCons (eC (.int 2)) aNil))))) ρ S = .ok (.d (.int x)) (S.set j c') ∧ TapeOk c' ∧ Let n x := by
  have hjl : j < S.length := (List.getElem?_eq_some_iff.mp hj).1
  obtain ⟨v, c1, e1, hv, hc1⟩ := next_ok (many := n - 1) hj hc (by omega) (by omega)
  obtain ⟨u, c2, e2, hu, hc2⟩ := next_ok (many := 2) (S := S.set j c1) (j := j) (List.getElem?_set_self hjl) hc1 (by omega) (by omega)
  rw [List.set_set] at e2
  refine ⟨((1 + v : Nat) : Int) * (1 - 2 * (u : Int)), c2, ev_op2 (ev_op2 (ev_c _ _ _) (ev_call (ev_ac (ev_var h0) (ev_a1 (ev_op (ev_var h1) (ev_c _ _ _) rfl rfl (dSub1 (by omega))))) e1) rfl rfl (dAdd_nat 1 v)) (ev_op2 (ev_c _ _ _) (ev_op2 (ev_c _ _ _) (ev_call (ev_ac (ev_var h0) (ev_a1 (ev_c _ _ _))) e2) rfl rfl (dMul_s (by omega) (by omega))) rfl rfl rfl) rfl rfl (dMul_s (by omega) (by omega)), hc2, ?_⟩
  have : u = 0 ∨ u = 1 := by omega
  unfold Let
  rcases this with rfl | rfl
  · simp
    omega
  · simp
    omega
theorem word_ok {S : Sto} {j n most : Nat} {c : Cell} (hj : S[j]? = some c) (hc : TapeOk c) (hn2 : n ≤ 60) (hm : most < 60) :
    ∃ w c', m__law_word [.m j, .d (.int (n : Int)), .d (.int (most : Int))] S = .rt (.tuple (zd w)) (S.set j c') ∧ TapeOk c' ∧ w.length ≤ most ∧ ∀ x ∈ w, Let n x := by
  have hjl : j < S.length := (List.getElem?_eq_some_iff.mp hj).1
  by_cases h : n < 2
  · refine ⟨[], c, ?_, hc, by simp, by simp⟩
    have es : S.set j c = S := by
      rw [List.getElem?_eq_some_iff] at hj
      rw [← hj.2, List.set_getElem_self]
    rw [es]
    refine ev_mk (S' := S) rfl ?_ (by simp)
    refine es_seqR ((es_ifT (ev_op (ev_var rfl) (ev_c _ _ _) rfl rfl ((dLt_int _ _).trans (by rw [decide_eq_true (by omega)])))).trans ((es_ret (ev_tup (show aNil _ _ = _ from rfl) rfl (Nat.zero_le _))).trans (by simp; rfl)))
  · obtain ⟨m, c1, e1, hm1, hc1⟩ := next_ok (many := most + 1) hj hc (by omega) (by omega)
    obtain ⟨out, S', el, ⟨w, c2, rfl, rfl, hc2, hw⟩, hlen⟩ := loopC_st (j := 3) (f := (eOp dMul (eOp dAdd (eC (.int 1)) (eCall m__law_next (aCons (eVar 0) (aCons (eOp dSub (eVar 1) (eC (.int 1))) aNil)))) (eOp dSub (eC (.int 1)) (eOp dMul (eC (.int 2)) (eCall m__law_next (aCons (eVar 0) (aCons (eC (.int 2)) aNil))))))) (ρw := wipeE [some (.m j), some (.d (.int (n : Int))), some (.d (.int (most : Int))), none] [3])
      (fun acc S1 => ∃ w c, acc = zd w ∧ S1 = S.set j c ∧ TapeOk c ∧ ∀ x ∈ w, Let n x) (ds := nd (List.range m)) (acc := []) (S := S.set j c1) ⟨[], c1, rfl, rfl, hc1, by simp⟩ (by
        rintro d hd acc S1 ⟨w, c, rfl, rfl, hc, hw⟩
        obtain ⟨x, c', e, hc', hx⟩ := draw_letter (ρ := (wipeE [some (.m j), some (.d (.int (n : Int))), some (.d (.int (most : Int))), none] [3]).set 3 (some (.d d))) (S := S.set j c) (j := j) (n := n) rfl rfl (List.getElem?_set_self hjl) hc (by omega) hn2
        rw [List.set_set] at e
        refine ⟨_, _, e, w ++ [x], c', zd_snoc w x, rfl, hc', ?_⟩
        intro y hy
        rcases List.mem_append.mp hy with hy | hy
        · exact hw y hy
        · rw [List.mem_singleton.mp hy]
          exact hx) (by rw [nd_len, List.length_range]; exact le_line (by simp; omega))
    refine ⟨w, c2, ?_, hc2, ?_, hw⟩
    · refine ev_mk2 (S' := S.set j c2) rfl ?_ (len_set j c2)
      refine (es_seq ((es_ifF (ev_op (ev_var rfl) (ev_c _ _ _) rfl rfl ((dLt_int _ _).trans (by rw [decide_eq_false (by omega)])))).trans (es_nil _ _ _))).trans ?_
      refine (es_ret (d := .tuple (zd w)) (ev_cv (ev_a1 (ev_fz (ev_compS (ev_rg1 (ev_a1 (ev_call (ev_ac (ev_var rfl) (ev_a1 (ev_op (ev_var rfl) (ev_c _ _ _) rfl rfl (dAdd_nat most 1)))) e1)) (by omega)) el))) rfl)).trans ?_
      rw [len_set]
    · rw [zd_len, nd_len, List.length_range] at hlen
      simp at hlen
      omega
theorem same_ev {f g : Den} {ρ : Env} {S : Sto} {d : D} (h1 : f ρ S = .ok (.d d) S) (h2 : g ρ S = .ok (.d d) S) (h : okd 7 d = true) : eCall (m__law_same 8) (aCons f (aCons g aNil)) ρ S = .ok (.d (.bool true)) S :=
  ev_call (ev_ac h1 (ev_a1 h2)) (same_refl 7 d h S)
theorem ask_braid {f : Den} {ρ : Env} {S : Sto} {p : D} (h : f ρ S = .exc "InvalidBraid" p S) : eAsk askP f ρ S = .ok (.d (.tuple [.str "braid", p])) S := by
  unfold eAsk
  rw [h]
  have : askP "InvalidBraid" = some ("braid" : Str) := by
    unfold askP
    rw [if_pos rfl]
  simp only [this]
theorem ask_told {f : Den} {ρ : Env} {S : Sto} {d : D} (h : f ρ S = .ok (.d d) S) : eAsk askP f ρ S = .ok (.d (.tuple [.str "told", d])) S := by
  unfold eAsk
  rw [h]
end DL

end
section
set_option Elab.async false
set_option linter.all false
set_option maxRecDepth 100000
set_option maxHeartbeats 4000000
namespace DL
open PySem PySem.Spec PyProof.Rows L2 FG
theorem asg_row {ρ : Env} {i a n b : Nat} {S : Sto} (h : ρ[a]? = some (some (.d (.int (n : Int))))) (hn : n ≤ 100) : sAsg i (eNew (eUn (dRg1 false) (eVar a))) b ρ S = .nx (ρ.set i (some (.m S.length))) (S ++ [.lst (nd (List.range n))]) := es_asg (ev_new (ev_un (ev_var h) rfl (list_rg1 hn)))
theorem standing_ok {n : Nat} (h1 : 1 ≤ n) (h2 : n ≤ 60) {w : List Int} (hl : w.length ≤ 4000) (hw : ∀ x ∈ w, Let n x) (S : Sto) : m_standing [.d (.int (n : Int)), .d (.tuple (zd w))] S = .rt (tN (rowN (List.range n) w)) S := by
  obtain ⟨ρ', S', el, ⟨r3, r4, rfl⟩, hS⟩ := loopF_inv (j := 3) (b := S.length) (s := sSeq (sAsg 4 (eCallV (v1 dAbs) (aCons (eVar 3) aNil)))
  (sSubs [((eVar 2), (eOp dSub (eVar 4) (eC (.int 1)))), ((eVar 2), (eVar 4))] (eTup (aCons (eOp dIx (eVar 2) (eVar 4)) (aCons (eOp dIx (eVar 2) (eOp dSub (eVar 4) (eC (.int 1)))) aNil))))) (src := none) (all := zd w) (ds := zd w) (i := 0)
    (ρ := [some (.d (.int (n : Int))), some (.d (.tuple (zd w))), some (.m S.length), none, none]) (S := S ++ [.lst (nd (List.range n))])
    (fun i ρ S1 => (∃ r3 r4, ρ = [some (.d (.int (n : Int))), some (.d (.tuple (zd w))), some (.m S.length), r3, r4]) ∧ S1 = S ++ [.lst (nd (rowN (List.range n) (w.take i)))]) ⟨⟨none, none, rfl⟩, rfl⟩ (by
      rintro k d ρ S1 hd ⟨⟨r3, r4, rfl⟩, rfl⟩
      obtain ⟨hk, rfl⟩ := zd_get hd
      rw [Nat.zero_add]
      have hx := hw _ (List.getElem_mem hk)
      have hlen : (rowN (List.range n) (w.take k)).length = n := row_len (by simp) fun x hx => hw x (List.mem_of_mem_take hx)
      refine ⟨[some (.d (.int (n : Int))), some (.d (.tuple (zd w))), some (.m S.length), some (.d (.int w[k])), some (.d (.int (w[k].natAbs : Int)))], S ++ [.lst (nd (rowN (List.range n) (w.take (k + 1))))], ?_, rfl, ⟨_, _, rfl⟩, rfl⟩
      refine (es_seq (es_asg (ev_cv (ev_a1 (ev_var rfl)) (abs_nat _)))).trans ?_
      refine (es_swap (a := 2) (c := 4) (j := S.length) (k := w[k].natAbs) rfl rfl (store_at _ _) hx.1 (by rw [hlen]; exact hx.2)).trans ?_
      rw [store_last, row_take hk]
      rfl)
  refine ev_mk (S' := S) rfl ?_ (by simp)
  refine (es_seq (es_expr (ev_call (ev_ac (ev_var rfl) (ev_a1 (ev_var rfl))) (check_ok h1 h2 hl hw S)))).trans ?_
  refine (es_seq (asg_row (a := 0) (n := n) rfl (by omega))).trans ?_
  refine (es_seq ((es_for (ev_seqT (ev_var rfl))).trans el)).trans ?_
  rw [hS, zd_len, Nat.zero_add, List.take_length]
  refine (es_ret (d := tN (rowN (List.range n) w)) (ev_cv (ev_a1 (ev_var rfl)) ?_)).trans ?_
  · show (val _ (.m S.length)).bind dTuple = _
    rw [val_m (store_at _ _)]
    rfl
  · rw [store_take]
def endsN (n : Nat) (w : List Int) : List Nat := (List.range n).map fun p => (rowN (List.range n) w).idxOf p
theorem mem_row {n : Nat} {w : List Int} (hw : ∀ x ∈ w, Let n x) {p : Nat} (h : p < n) : p ∈ rowN (List.range n) w := (row_perm w (n := n) (by simp) hw).mem_iff.mpr (List.mem_range.mpr h)
theorem ends_ok {n : Nat} (h1 : 1 ≤ n) (h2 : n ≤ 60) {w : List Int} (hl : w.length ≤ 4000) (hw : ∀ x ∈ w, Let n x) (S : Sto) : m_ends [.d (.int (n : Int)), .d (.tuple (zd w))] S = .rt (tN (endsN n w)) S := by
  refine ev_mk (S' := S) rfl ?_ (by simp)
  refine (es_seq (es_asg (ev_call (ev_ac (ev_var rfl) (ev_a1 (ev_var rfl))) (standing_ok h1 h2 hl hw S)))).trans ?_
  refine (es_ret (S' := S) (d := tN (endsN n w)) (ev_cv (ev_a1 (ev_fz (ev_compM (fun d => .int ((rowN (List.range n) w).idxOf (nOf d) : Int)) (ev_rg1 (n := n) (ev_a1 (ev_var rfl)) (by omega)) (fun d hd => ?_) (by rw [nd_len, List.length_range]; exact line2 h2)))) ?_)).trans (by simp)
  · obtain ⟨i, hi, rfl⟩ := mem_nd hd
    rw [List.mem_range] at hi
    rw [nOf_int]
    exact ev_index (ev_var rfl) (ev_var rfl) rfl (mem_row hw hi)
  · show some (PyData.tuple _) = _
    rw [nd_map_nOf (fun i => (rowN (List.range n) w).idxOf i)]
    rfl
/-- a word for strands further to the right -/
def movI (m : Int) (l : Int) : Int := if 0 < l then l + m else l - m
theorem mov_elt {a b : Nat} {ρ : Env} {S : Sto} {x m : Int} (ha : ρ[a]? = some (some (.d (.int x)))) (hb : ρ[b]? = some (some (.d (.int m)))) : eIf (eOp dGt (eVar a) (eC (.int 0))) (eOp dAdd (eVar a) (eVar b)) (eOp dSub (eVar a) (eVar b)) ρ S = .ok (.d (.int (movI m x))) S := by
  rw [eif_b (gtI (ev_var ha))]
  unfold movI
  by_cases h : 0 < x
  · rw [decide_eq_true h, if_pos rfl, if_pos h]
    exact ev_op (ev_var ha) (ev_var hb) rfl rfl rfl
  · rw [decide_eq_false h, if_neg Bool.false_ne_true, if_neg h]
    exact ev_op (ev_var ha) (ev_var hb) rfl rfl rfl
theorem moved_ok {c : Bool} {w : List Int} (hl : w.length ≤ 1000000) (m : Int) (S : Sto) : m_moved_by [.d (cc c (zd w)), .d (.int m)] S = .rt (.tuple (zd (w.map (movI m)))) S := by
  refine ev_mk (S' := S) rfl ?_ (by simp)
  have hi : iSeq (eVar 0) (envOf 3 [.d (cc c (zd w)), .d (.int m)]) S = .ok none (zd w) S := by
    cases c
    · exact ev_seqL (ev_var rfl)
    · exact ev_seqT (ev_var rfl)
  refine (es_ret (S' := S) (d := .tuple (zd (w.map (movI m)))) (ev_cv (ev_a1 (ev_fz (ev_compM (fun d => .int (movI m (iOf d))) hi (fun d hd => ?_) (by rw [zd_len]; exact mill_line hl)))) ?_)).trans (by simp)
  · obtain ⟨i, _, rfl⟩ := mem_zd hd
    exact mov_elt rfl rfl
  · show some (PyData.tuple _) = _
    rw [map_zd (movI m) _ _ (fun i => rfl)]
/-- the numbers of a word's letters -/
def usedN (n : Nat) (w : List Int) : List Nat := (List.range' 1 (n - 1)).filter fun k => decide (k ∈ w.map Int.natAbs)
theorem used_sort {n : Nat} {w : List Int} (hw : ∀ x ∈ w, Let n x) : sortI (dedI (w.map fun x => (x.natAbs : Int))) = (usedN n w).map fun (k : Nat) => (k : Int) := by
  refine sort_ded ?_ ?_
  · rw [List.pairwise_map]
    exact (List.Pairwise.filter _ (List.pairwise_lt_range' (s := 1) (n := n - 1))).imp fun h => by omega
  · intro x
    unfold usedN
    simp only [List.mem_map, List.mem_filter, decide_eq_true_eq, List.mem_range'_1]
    constructor
    · rintro ⟨k, ⟨hk, y, hy, rfl⟩, rfl⟩
      exact ⟨y, hy, rfl⟩
    · rintro ⟨y, hy, rfl⟩
      have := hw y hy
      unfold Let at this
      exact ⟨y.natAbs, ⟨by omega, y, hy, rfl⟩, rfl⟩
theorem used_len (n : Nat) (w : List Int) : (usedN n w).length ≤ n := by
  unfold usedN
  refine Nat.le_trans (List.length_filter_le _ _) ?_
  rw [List.length_range']
  omega
theorem letters_ok {n : Nat} (h1 : 1 ≤ n) (h2 : n ≤ 60) {w : List Int} (hl : w.length ≤ 4000) (hw : ∀ x ∈ w, Let n x) (S : Sto) : m_letters_used [.d (.int (n : Int)), .d (.tuple (zd w))] S = .rt (tN (usedN n w)) S := by
  refine ev_mk (S' := S) rfl ?_ (by simp)
  refine (es_seq (es_expr (ev_call (ev_ac (ev_var rfl) (ev_a1 (ev_var rfl))) (check_ok h1 h2 hl hw S)))).trans ?_
  have hs := used_sort hw
  have hd : (dedI (w.map fun x => (x.natAbs : Int))).length < 64 := by
    have a := congrArg List.length hs
    rw [(sortI_perm _).length_eq, List.length_map] at a
    have := used_len n w
    omega
  refine (es_ret (S' := S) (d := tN (usedN n w)) (ev_cv (ev_a1 (ev_fz (ev_srtK (fun x => (x.natAbs : Int)) (ev_seqT (ev_var rfl)) (fun i hi => ⟨ev_cv (ev_a1 (ev_var rfl)) (abs_nat i), _, ev_c _ _ _⟩) (by omega) hd))) ?_)).trans (by simp)
  show some (PyData.tuple _) = _
  rw [hs]
  unfold tN
  rw [nd_zd]
end DL

end
section
set_option Elab.async false
set_option linter.all false
set_option maxRecDepth 100000
set_option maxHeartbeats 4000000
namespace DL
open PySem PySem.Spec PyProof.Rows L2 FG
/-! ### stretches -/
def pr (a b : Nat) : D := .tuple [.int (a : Int), .int (b : Int)]
def prs : Nat → List Nat → List D
  | _, [] => []
  | a, b :: l => pr a b :: prs b l
def lastN : Nat → List Nat → Nat
  | a, [] => a
  | _, b :: l => lastN b l
theorem prs_snoc : ∀ (a : Nat) (l : List Nat) (x : Nat), prs a (l ++ [x]) = prs a l ++ [pr (lastN a l) x]
  | a, [], x => rfl
  | a, b :: l, x => by
    show pr a b :: prs b (l ++ [x]) = pr a b :: (prs b l ++ [pr (lastN b l) x])
    rw [prs_snoc b l x]
theorem last_snoc : ∀ (a : Nat) (l : List Nat) (x : Nat), lastN a (l ++ [x]) = x
  | _, [], _ => rfl
  | _, b :: l, x => last_snoc b l x
theorem prs_len : ∀ (a : Nat) (l : List Nat), (prs a l).length = l.length
  | _, [] => rfl
  | _, b :: l => by
    show (prs b l).length + 1 = _
    rw [prs_len b l]
    rfl
theorem prs_range : ∀ (a : Nat) (l : List Nat), (List.range l.length).map (fun k => pr (at0 (a :: l) k) (at0 (a :: l) (k + 1))) = prs a l
  | _, [] => rfl
  | a, b :: l => by
    rw [List.length_cons, List.range_succ_eq_map, List.map_cons, List.map_map]
    show pr a b :: _ = pr a b :: prs b l
    rw [← prs_range b l]
    congr 1
def gapB (n : Nat) (w : List Int) (k : Nat) : Bool := decide (k = n) || !decide (k ∈ w.map Int.natAbs)
def gaps (n : Nat) (w : List Int) (i : Nat) : List Nat := (List.range' 1 i).filter (gapB n w)
theorem range'_snoc (i : Nat) : List.range' 1 (i + 1) = List.range' 1 i ++ [i + 1] := by
  have := List.range'_append (s := 1) (m := i) (n := 1) (step := 1)
  simp at this
  rw [← this, Nat.add_comm 1 i]
theorem gaps_succ (n : Nat) (w : List Int) (i : Nat) : gaps n w (i + 1) = gaps n w i ++ (if gapB n w (i + 1) then [i + 1] else []) := by
  unfold gaps
  rw [range'_snoc, List.filter_append]
  congr 1
  rw [List.filter_cons, List.filter_nil]
theorem used_mem {n : Nat} {w : List Int} {k : Nat} (h1 : 1 ≤ k) (h2 : k < n) : k ∈ usedN n w ↔ k ∈ w.map Int.natAbs := by
  unfold usedN
  rw [List.mem_filter, List.mem_range'_1, decide_eq_true_eq]
  constructor
  · exact fun h => h.2
  · exact fun h => ⟨by omega, h⟩
theorem bord_eq {n : Nat} (h1 : 1 ≤ n) (w : List Int) : (List.range' 1 (n - 1)).filter (fun k => !decide (k ∈ usedN n w)) ++ [n] = gaps n w n := by
  obtain ⟨m, rfl⟩ : ∃ m, n = m + 1 := ⟨n - 1, by omega⟩
  rw [gaps_succ]
  congr 1
  · unfold gaps
    rw [Nat.add_sub_cancel]
    refine List.filter_congr fun k hk => ?_
    rw [List.mem_range'_1] at hk
    unfold gapB
    rw [decide_eq_false (show ¬ k = m + 1 by omega), Bool.false_or]
    congr 1
    exact decide_eq_decide.mpr (used_mem (by omega) (by omega))
  · unfold gapB
    simp
theorem len_gaps (n : Nat) (w : List Int) (i : Nat) : (gaps n w i).length ≤ i := by
  unfold gaps
  refine Nat.le_trans (List.length_filter_le _ _) ?_
  rw [List.length_range']
  exact Nat.le_refl _
theorem nd_app (a b : List Nat) : nd a ++ nd b = nd (a ++ b) := by simp [nd]
theorem add_n {a b : List Nat} (h : a.length + b.length ≤ 1000) : dAdd (.list (nd a)) (.list (nd b)) = some (.list (nd (a ++ b))) := by
  have := mill_line (n := a.length + b.length) (by omega)
  simp only [dAdd]
  rw [if_pos (by rw [nd_len, nd_len]; exact this), nd_app]
theorem blocks_ok {n : Nat} (h1 : 1 ≤ n) (h2 : n ≤ 60) {w : List Int} (hl : w.length ≤ 4000) (hw : ∀ x ∈ w, Let n x) (S : Sto) : m_blocks [.d (.int (n : Int)), .d (.tuple (zd w))] S = .rt (.tuple (prs 0 (gaps n w n))) S := by
  have hg := len_gaps n w n
  have hb := bord_eq h1 w
  have eb : eOp dAdd (eOp dAdd (eFz (eLst (aCons (eC (.int 0)) aNil))) (eFz (eComp (iRange2 (aCons (eC (.int 1)) (aCons (eVar 0) aNil))) (.nm 4) (eOp dNotIn (eVar 4) (eVar 2)) (eVar 4) [4]))) (eFz (eLst (aCons (eVar 0) aNil))) [some (.d (.int (n : Int))), some (.d (.tuple (zd w))), some (.d (tN (usedN n w))), none, none] S = .ok (.d (.list (nd (0 :: gaps n w n)))) S := by
    have ec : eComp (iRange2 (aCons (eC (.int 1)) (aCons (eVar 0) aNil))) (.nm 4) (eOp dNotIn (eVar 4) (eVar 2)) (eVar 4) [4] [some (.d (.int (n : Int))), some (.d (.tuple (zd w))), some (.d (tN (usedN n w))), none, none] S = .ok (.d (.list (nd ((List.range' 1 (n - 1)).filter (fun k => !decide (k ∈ usedN n w)))))) S := by
      rw [ev_comp (fun d => !decide (nOf d ∈ usedN n w)) (fun d => .int (nOf d : Int)) (ev_rg2 (n := n) (ev_ac (ev_c _ _ _) (ev_a1 (ev_var rfl))) (by omega)) (fun d hd => ?_) (by rw [nd_len, List.length_range']; exact line2 (by omega))]
      · have e := nd_filter_nOf (fun k => !decide (k ∈ usedN n w)) (List.range' 1 (n - 1))
        rw [e, nd_map_nOf (fun k => k)]
        simp
      · obtain ⟨k, hk, rfl⟩ := mem_nd hd
        rw [nOf_int]
        exact ⟨ev_op (ev_var rfl) (ev_var rfl) rfl rfl (nin_nd _ _).1, fun _ => ev_var rfl⟩
    have hlen : ((List.range' 1 (n - 1)).filter (fun k => !decide (k ∈ usedN n w))).length ≤ n := by
      have := congrArg List.length hb
      rw [List.length_append] at this
      simp at this
      omega
    refine (ev_op (ev_op (a := .list (nd [0])) (ev_fz (ev_lst (ds := nd [0]) (ev_a1 (ev_c _ _ _)) rfl (le_line (show 1 ≤ 100 from by decide)))) (ev_fz ec) rfl rfl (add_n (by simp only [List.length_singleton]; omega))) (b := .list (nd [n])) (ev_fz (ev_lst (ds := nd [n]) (ev_a1 (ev_var rfl)) rfl (le_line (show 1 ≤ 100 from by decide)))) rfl rfl (add_n (by simp only [List.length_append, List.length_singleton]; omega))).trans ?_
    rw [List.append_assoc, hb]
    rfl
  refine ev_mk (S' := S) rfl ?_ (by simp)
  refine (es_seq (es_asg (ev_call (ev_ac (ev_var rfl) (ev_a1 (ev_var rfl))) (letters_ok h1 h2 hl hw S)))).trans ?_
  refine (es_seq (es_asg eb)).trans ?_
  refine (es_ret (S' := S) (d := .tuple (prs 0 (gaps n w n))) (ev_cv (ev_a1 (ev_fz (ev_compM (fun d => pr (at0 (0 :: gaps n w n) (nOf d)) (at0 (0 :: gaps n w n) (nOf d + 1))) (ev_rg1 (n := (gaps n w n).length) (ev_a1 (ev_op (ev_cv (ev_a1 (ev_var rfl)) (vLen_list _ _)) (ev_c _ _ _) rfl rfl ?_)) (by omega)) (fun d hd => ?_) (by rw [nd_len, List.length_range]; exact line2 (by omega))))) ?_)).trans (by simp)
  · rw [nd_len, List.length_cons]
    exact congrArg (fun x : Int => some (PyData.int x)) (by omega)
  · obtain ⟨k, hk, rfl⟩ := mem_nd hd
    rw [List.mem_range] at hk
    rw [nOf_int]
    exact ev_tup (ev_ac (ev_op (ev_var rfl) (ev_var rfl) rfl rfl (ix_lN (by simp; omega))) (ev_a1 (ev_op (ev_var rfl) (ev_op (ev_var rfl) (ev_c _ _ _) rfl rfl (dAdd_nat k 1)) rfl rfl (ix_lN (by simp; omega))))) rfl (le_line (show 2 ≤ 100 from by decide))
  · show some (PyData.tuple _) = _
    refine congrArg (fun x : List D => some (PyData.tuple x)) ?_
    rw [← prs_range]
    unfold nd
    rw [List.map_map]
    refine List.map_congr_left fun k _ => ?_
    simp only [Function.comp_apply, nOf_int]
/-! ### the word of a stretch -/
def badBlk (n : Nat) (w : List Int) (a b : Nat) : Bool := !(decide (a < b) && decide (b ≤ n)) || (decide (a ∈ usedN n w) || decide (b ∈ usedN n w))
def inBlk (a b : Nat) (x : Int) : Bool := decide (a < x.natAbs) && decide (x.natAbs < b)
theorem blk_chain {n a b : Nat} {f g h : Den} {ρ : Env} {S : Sto} (hf : f ρ S = .ok (.d (.int (a : Int))) S) (hg : g ρ S = .ok (.d (.int (b : Int))) S) (hh : h ρ S = .ok (.d (.int (n : Int))) S) : eChain (eC (.int 0)) [(dLe, f), (dLt, g), (dLe, h)] ρ S = .ok (.d (.bool (decide (a < b) && decide (b ≤ n)))) S := by
  refine (ev_chain3 (ev_c _ _ _) hf hg hh (show dLe (.int 0) (.int (a : Int)) = some (.bool (decide ((0 : Int) ≤ a))) from rfl) (dLt_int _ _) (show dLe (.int (b : Int)) (.int (n : Int)) = some (.bool (decide ((b : Int) ≤ n))) from rfl)).trans ?_
  rw [decide_eq_true (show (0 : Int) ≤ a by omega), Bool.true_and, show decide ((a : Int) < b) = decide (a < b) from decide_eq_decide.mpr (by omega), show decide ((b : Int) ≤ n) = decide (b ≤ n) from decide_eq_decide.mpr (by omega)]
theorem in_chain {a b : Nat} {x : Int} {f g h : Den} {ρ : Env} {S : Sto} (hf : f ρ S = .ok (.d (.int (a : Int))) S) (hg : g ρ S = .ok (.d (.int (x.natAbs : Int))) S) (hh : h ρ S = .ok (.d (.int (b : Int))) S) : eChain f [(dLt, g), (dLt, h)] ρ S = .ok (.d (.bool (inBlk a b x))) S := by
  refine (ev_chain2 hf hg hh (dLt_int _ _) (dLt_int _ _)).trans ?_
  unfold inBlk
  rw [show decide ((a : Int) < (x.natAbs : Int)) = decide (a < x.natAbs) from decide_eq_decide.mpr (by omega), show decide ((x.natAbs : Int) < (b : Int)) = decide (x.natAbs < b) from decide_eq_decide.mpr (by omega)]
theorem blk_test1 {n a b : Nat} {ρ : Env} {S : Sto} (h0 : ρ[0]? = some (some (.d (.int (n : Int))))) (h2 : ρ[2]? = some (some (.d (.int (a : Int))))) (h3 : ρ[3]? = some (some (.d (.int (b : Int))))) : eOr (eNot (eCall m_is_integer (aCons (eVar 2) aNil))) (eOr (eNot (eCall m_is_integer (aCons (eVar 3) aNil))) (eNot (eChain (eC (.int 0)) [(dLe, (eVar 2)), (dLt, (eVar 3)), (dLe, (eVar 0))]))) ρ S = .ok (.d (.bool (!(decide (a < b) && decide (b ≤ n))))) S :=
  (ev_orF (ev_not (ev_call (ev_a1 (ev_var h2)) (is_integer_int _ S)))).trans ((ev_orF (ev_not (ev_call (ev_a1 (ev_var h3)) (is_integer_int _ S)))).trans (ev_not (blk_chain (ev_var h2) (ev_var h3) (ev_var h0))))
theorem ev_or {f g : Den} {ρ : Env} {S S' : Sto} {a b : Bool} (h : f ρ S = .ok (.d (.bool a)) S') (hg : g ρ S' = .ok (.d (.bool b)) S') : eOr f g ρ S = .ok (.d (.bool (a || b))) S' := by
  cases a with
  | true => exact ev_orT h
  | false => rw [ev_orF h, hg]; rfl
theorem block_bad {n : Nat} (h1 : 1 ≤ n) (h2 : n ≤ 60) {w : List Int} (hl : w.length ≤ 4000) (hw : ∀ x ∈ w, Let n x) {a b : Nat} (hb : badBlk n w a b = true) (S : Sto) : m_block_word [.d (.int (n : Int)), .d (.tuple (zd w)), .d (.int (a : Int)), .d (.int (b : Int))] S = .exc "InvalidBraid" (.str "block") S := by
  refine ev_mkX (S' := S) (ρ := [some (.d (.int (n : Int))), some (.d (.tuple (zd w))), some (.d (.int (a : Int))), some (.d (.int (b : Int))), some (.d (tN (usedN n w))), none, none]) rfl ((es_seq (es_asg (ev_call (ev_ac (ev_var rfl) (ev_a1 (ev_var rfl))) (letters_ok h1 h2 hl hw S)))).trans ?_) (by simp)
  unfold badBlk at hb
  cases hc : !(decide (a < b) && decide (b ≤ n)) with
  | true => exact es_seqX ((es_ifT ((blk_test1 (n := n) (a := a) (b := b) rfl rfl rfl).trans (by rw [hc]))).trans (es_raise (ev_c _ _ _)))
  | false =>
    rw [hc, Bool.false_or] at hb
    refine (es_seq ((es_ifF ((blk_test1 (n := n) (a := a) (b := b) rfl rfl rfl).trans (by rw [hc]))).trans (es_nil _ _ _))).trans ?_
    exact es_seqX ((es_ifT ((ev_or (ev_op (ev_var rfl) (ev_var rfl) rfl rfl (in_nd _ _).1) (ev_op (ev_var rfl) (ev_var rfl) rfl rfl (in_nd _ _).1)).trans (by rw [hb]))).trans (es_raise (ev_c _ _ _)))
theorem filt_zd (t : D → Bool) (p : Int → Bool) (h : ∀ i, t (.int i) = p i) (l : List Int) : (zd l).filter t = zd (l.filter p) := by
  unfold zd
  rw [List.filter_map]
  congr 1
  refine List.filter_congr fun i _ => ?_
  exact h i
theorem block_ok {n : Nat} (h1 : 1 ≤ n) (h2 : n ≤ 60) {w : List Int} (hl : w.length ≤ 4000) (hw : ∀ x ∈ w, Let n x) {a b : Nat} (hb : badBlk n w a b = false) (S : Sto) : m_block_word [.d (.int (n : Int)), .d (.tuple (zd w)), .d (.int (a : Int)), .d (.int (b : Int))] S = .rt (.tuple (zd ((w.filter (inBlk a b)).map (movI (-(a : Int)))))) S := by
  refine ev_mk (S' := S) rfl ((es_seq (es_asg (ev_call (ev_ac (ev_var rfl) (ev_a1 (ev_var rfl))) (letters_ok h1 h2 hl hw S)))).trans ?_) (by simp)
  unfold badBlk at hb
  rw [Bool.or_eq_false_iff] at hb
  refine (es_seq ((es_ifF ((blk_test1 (n := n) (a := a) (b := b) rfl rfl rfl).trans (by rw [hb.1]))).trans (es_nil _ _ _))).trans ?_
  refine (es_seq ((es_ifF ((ev_or (ev_op (ev_var rfl) (ev_var rfl) rfl rfl (in_nd _ _).1) (ev_op (ev_var rfl) (ev_var rfl) rfl rfl (in_nd _ _).1)).trans (by rw [hb.2]))).trans (es_nil _ _ _))).trans ?_
  have hfl : (w.filter (inBlk a b)).length ≤ w.length := List.length_filter_le _ _
  refine (es_seq (es_asg (r := .d (.list (zd (w.filter (inBlk a b))))) (S' := S) ?_)).trans ?_
  · refine ev_fz ?_
    rw [ev_comp (fun d => inBlk a b (iOf d)) (fun d => .int (iOf d)) (ev_seqT (ev_var rfl)) (fun d hd => ?_) (by rw [zd_len]; exact mill_line (by omega)), filt_zd _ (inBlk a b) (fun i => rfl), map_zd (fun i => i) _ _ (fun i => rfl), List.map_id']
    obtain ⟨i, _, rfl⟩ := mem_zd hd
    exact ⟨in_chain (ev_var rfl) (ev_cv (ev_a1 (ev_var rfl)) (abs_nat i)) (ev_var rfl), fun _ => ev_var rfl⟩
  · have em : m_moved_by [.d (.list (zd (w.filter (inBlk a b)))), .d (.int (-(a : Int)))] S = .rt (.tuple (zd ((w.filter (inBlk a b)).map (movI (-(a : Int)))))) S := moved_ok (c := false) (w := w.filter (inBlk a b)) (by omega) (-(a : Int)) S
    have en : eUn dNeg (eVar 2) [some (.d (.int (n : Int))), some (.d (.tuple (zd w))), some (.d (.int (a : Int))), some (.d (.int (b : Int))), some (.d (tN (usedN n w))), some (.d (.list (zd (w.filter (inBlk a b))))), none] S = .ok (.d (.int (-(a : Int)))) S := ev_un (ev_var rfl) rfl rfl
    exact (es_ret (S' := S) (ev_call (ev_ac (ev_var rfl) (ev_a1 en)) em)).trans (by simp)
end DL

end
section
set_option Elab.async false
set_option linter.all false
set_option maxRecDepth 100000
set_option maxHeartbeats 4000000
namespace DL
open PySem PySem.Spec PyProof.Rows L2 FG
/-! ### without a letter and its opposite, the first pair first -/
theorem red_take1 (l : List Int) : Red (l.take 1) := by
  cases l <;> trivial
theorem bare_step {l : List Int} {k : Nat} (h : k + 1 < l.length) (hr : Red (l.take (k + 1))) (hne : ¬ l[k] = 0 - l[k + 1]) : Red (l.take (k + 1 + 1)) := by
  have e1 : l.take (k + 1) = l.take k ++ [l[k]] := List.take_succ_eq_append_getElem (by omega)
  have e2 : l.take (k + 1 + 1) = l.take k ++ [l[k], l[k + 1]] := by
    rw [List.take_succ_eq_append_getElem h, e1, List.append_assoc]
    rfl
  rw [e1] at hr
  rw [e2]
  exact red_snoc _ _ _ hr (by omega)
theorem bare_pair {l : List Int} {k : Nat} (h : k + 1 < l.length) (he : l[k] = 0 - l[k + 1]) : Eqv (l.take k ++ l.drop (k + 2)) l := by
  have z : Eqv (l.take k ++ [l[k], l[k + 1]] ++ l.drop (k + 2)) (l.take k ++ [] ++ l.drop (k + 2)) := Eqv.app (Eqv.app Eqv.rfl (eqv_pair' (by omega))) Eqv.rfl
  rw [← split2 h, List.append_nil] at z
  exact z.symm
theorem bare_ok {w : List Int} (hl : w.length ≤ 14) (S : Sto) : m__law_bare [.d (.tuple (zd w))] S = .rt (.tuple (zd (fr w))) S := by
  obtain ⟨ρ', S', el, e', rfl⟩ := loopW_inv (b := S.length) (t := eOp dLt (eOp dAdd (eVar 2) (eC (.int 1))) (eCallV vLen (aCons (eVar 1) aNil))) (s := sIf (eOp dEq (eOp dIx (eVar 1) (eVar 2)) (eOp dSub (eC (.int 0)) (eOp dIx (eVar 1) (eOp dAdd (eVar 2) (eC (.int 1)))))) (sPar 1 2 (aCons (eOp dAdd (eSlice (eVar 1) none (some (eVar 2))) (eSlice (eVar 1) (some (eOp dAdd (eVar 2) (eC (.int 2)))) none)) (aCons (eC (.int 0)) aNil))) (sAsg 2 (eOp dAdd (eVar 2) (eC (.int 1)))))
    (fun m ρ S1 => S1 = S ∧ ∃ (l : List Int) (k : Nat), ρ = [some (.d (.tuple (zd w))), some (.d (.list (zd l))), some (.d (.int (k : Int)))] ∧ Eqv l w ∧ Red (l.take (k + 1)) ∧ l.length ≤ 14 ∧ k ≤ l.length ∧ m + k = l.length * 20 + 20)
    (fun ρ S1 => ρ[1]? = some (some (.d (.list (zd (fr w))))) ∧ S1 = S)
    (by
      rintro m ρ S1 ⟨rfl, l, k, rfl, he, hr, h14, hk, hm⟩
      have tst : eOp dLt (eOp dAdd (eVar 2) (eC (.int 1))) (eCallV vLen (aCons (eVar 1) aNil)) [some (.d (.tuple (zd w))), some (.d (.list (zd l))), some (.d (.int (k : Int)))] S1 = .ok (.d (.bool (decide (((k + 1 : Nat) : Int) < l.length)))) S1 := ltI (ev_op (ev_var rfl) (ev_c _ _ _) rfl rfl (dAdd_nat k 1)) (lenL rfl)
      by_cases h : k + 1 < l.length
      · refine .inr ⟨S1, ?_⟩
        rw [decide_eq_true (by omega)] at tst
        have ce : eOp dEq (eOp dIx (eVar 1) (eVar 2)) (eOp dSub (eC (.int 0)) (eOp dIx (eVar 1) (eOp dAdd (eVar 2) (eC (.int 1))))) [some (.d (.tuple (zd w))), some (.d (.list (zd l))), some (.d (.int (k : Int)))] S1 = .ok (.d (.bool (decide (l[k] = 0 - l[k + 1])))) S1 :=
          eqI (ixL rfl (ev_var rfl) (by omega)) (ev_op (ev_c _ _ _) (ixL (i := k + 1) rfl (ev_op (ev_var rfl) (ev_c _ _ _) rfl rfl (dAdd_nat k 1)) h) rfl rfl rfl)
        by_cases hc : l[k] = 0 - l[k + 1]
        · rw [decide_eq_true hc] at ce
          have hl2 : (l.take k ++ l.drop (k + 2)).length = l.length - 2 := by simp; omega
          refine ⟨[some (.d (.tuple (zd w))), some (.d (.list (zd (l.take k ++ l.drop (k + 2))))), some (.d (.int ((0 : Nat) : Int)))], S1, (l.length - 2) * 20 + 20, tst, (es_ifT ce).trans (es_par (ev_ac (ev_op (sl_lo (l := l) (k := k) (ev_var rfl) (ev_var rfl)) (sl_hi (l := l) (k := k + 2) (ev_var rfl) (ev_op (ev_var rfl) (ev_c _ _ _) rfl rfl (dAdd_nat k 2))) rfl rfl (add_z (by simp; omega))) (ev_a1 (ev_c _ _ _)))), by omega, rfl, _, 0, rfl, (bare_pair h hc).trans he, red_take1 _, by omega, by omega, by omega⟩
        · rw [decide_eq_false hc] at ce
          exact ⟨[some (.d (.tuple (zd w))), some (.d (.list (zd l))), some (.d (.int ((k + 1 : Nat) : Int)))], S1, m - 1, tst, (es_ifF ce).trans (es_asg (ev_op (ev_var rfl) (ev_c _ _ _) rfl rfl (dAdd_nat k 1))), by omega, rfl, l, k + 1, rfl, he, bare_step h hr hc, h14, by omega, by omega⟩
      · refine .inl ⟨S1, ?_, ?_, rfl⟩
        · rw [decide_eq_false (by omega)] at tst
          exact tst
        · rw [List.take_of_length_le (by omega)] at hr
          rw [← fr_unique he hr]
          rfl) fuel (w.length * 20 + 20) [some (.d (.tuple (zd w))), some (.d (.list (zd w))), some (.d (.int ((0 : Nat) : Int)))] S (by have := fuel_big; omega) ⟨rfl, w, 0, rfl, Eqv.rfl, red_take1 w, hl, Nat.zero_le _, by omega⟩
  refine ev_mk (S' := S') rfl ?_ (by simp)
  refine (es_seq (es_par (ev_ac (ev_fz (ds := zd w) (ev_cv (ev_a1 (ev_var rfl)) rfl)) (ev_a1 (ev_c _ _ _))))).trans ?_
  refine (es_seq el).trans ?_
  exact (es_ret (S' := S') (d := .tuple (zd (fr w))) (ev_cv (ev_a1 (ev_var e')) rfl)).trans (by simp)
/-! ### what is no braid -/
theorem is_integer_tuple (ds : List D) (S : Sto) : m_is_integer [.d (.tuple ds)] S = .rt (.bool false) S := by
  refine ev_mk rfl (es_ret (ev_andF (ev_un (ev_var rfl) rfl (isi_tuple_int ds)))) ?_
  simp
theorem is_integer_none (S : Sto) : m_is_integer [.d .none] S = .rt (.bool false) S := by
  refine ev_mk rfl (es_ret (ev_andF (ev_un (ev_var rfl) rfl isi_none_int))) ?_
  simp
def letD (n : Nat) : D → Bool
  | .int x => decide (Let n x)
  | _ => false
def kindL : D → Bool
  | .int _ => true
  | .bool _ => true
  | .str _ => true
  | .tuple _ => true
  | _ => false
theorem is_letter_no {d : D} (n : Nat) {S : Sto} (h : m_is_integer [.d d] S = .rt (.bool false) S) : m_is_letter [.d (.int (n : Int)), .d d] S = .rt (.bool false) S :=
  ev_mk rfl (es_ret (ev_andF (ev_call (ev_a1 (ev_var rfl)) h))) (by simp)
theorem is_letter_d (n : Nat) (d : D) (h : kindL d = true) (S : Sto) : m_is_letter [.d (.int (n : Int)), .d d] S = .rt (.bool (letD n d)) S := by
  cases d <;> first
    | exact is_letter_int n _ S
    | exact is_letter_no n (is_integer_bool _ S)
    | exact is_letter_no n (is_integer_str _ S)
    | exact is_letter_no n (is_integer_tuple _ S)
    | cases h
theorem is_braid_d {n : Nat} (h1 : 1 ≤ n) (h2 : n ≤ 60) {ds : List D} (hl : ds.length ≤ 4000) (hk : ∀ d ∈ ds, kindL d = true) (S : Sto) : m_is_braid [.d (.int (n : Int)), .d (.tuple ds)] S = .rt (.bool (ds.all (letD n))) S := by
  refine ev_mk (S' := S) rfl ?_ (by simp)
  refine (es_seq ((es_ifF ((ev_orF (ev_not (ev_call (ev_a1 (ev_var rfl)) (strands_ok h1 h2 S)))).trans ((ev_orF (ev_not (ev_un (ev_var rfl) rfl (isi_tuple_tuple ds)))).trans (ev_op (a := .int (ds.length : Int)) (b := .int 4000) (c := .bool false) (ev_cv (ev_a1 (ev_var rfl)) rfl) (ev_c _ _ _) rfl rfl ?_)))).trans (es_nil _ _ _))).trans ?_
  · show some (PyData.bool (decide ((ds.length : Int) > 4000))) = _
    rw [decide_eq_false (by omega)]
  · refine (es_ret (S' := S) (d := .bool (ds.all (letD n))) (ev_cv (ev_a1 (ev_fz (ev_compM (fun d => .bool (letD n d)) (ev_seqT (ev_var rfl)) (fun d hd => ev_call (ev_ac (ev_var rfl) (ev_a1 (ev_var rfl))) (is_letter_d n d (hk d hd) S)) (mill_line (by omega))))) ?_)).trans (by simp)
    show dAll (.list (ds.map fun d => .bool (letD n d))) = _
    simp only [dAll, boolsD_mapD (letD n), Option.map_some, List.all_map, Function.comp_def, id]
theorem check_badD {n : Nat} (h1 : 1 ≤ n) (h2 : n ≤ 60) {w u : List D} {x : D} (hl : (w ++ x :: u).length ≤ 4000) (hk : ∀ d ∈ w ++ x :: u, kindL d = true) (hw : ∀ x ∈ w, letD n x = true) (hx : letD n x = false) (S : Sto) : m_check_braid [.d (.int (n : Int)), .d (.tuple (w ++ x :: u))] S = .exc "InvalidBraid" (.int (w.length : Int)) S := by
  have key : ∀ (ks : List Nat) (a : Nat) (r : Option RV) (all : List D), a ≤ w.length → ks = List.range' a (w.length + 1 - a) → ∀ more, ∃ ρ', loopF (.nm 2) (sIf (eNot (eCall m_is_letter (aCons (eVar 0) (aCons (eOp dIx (eVar 1) (eVar 2)) aNil)))) (sRaise "InvalidBraid" (eVar 2)) sNil) S.length none all (nd (ks ++ more)) [some (.d (.int (n : Int))), some (.d (.tuple (w ++ x :: u))), r] S = .exc "InvalidBraid" (.int (w.length : Int)) ρ' S := by
    intro ks
    induction ks with
    | nil =>
      intro a r all ha hks
      have := congrArg List.length hks
      simp at this
      omega
    | cons k ks ih =>
      intro a r all ha hks more
      rw [show w.length + 1 - a = (w.length - a) + 1 from by omega, List.range'_succ] at hks
      obtain ⟨rfl, hks⟩ := List.cons.inj hks
      have hkl : k < (w ++ x :: u).length := by simp; omega
      have hix := (dIx_nat (List.getElem?_eq_getElem hkl)).1
      have hkd := hk _ (List.getElem_mem hkl)
      by_cases hlt : k < w.length
      · obtain ⟨ρ', e⟩ := ih (k + 1) (some (.d (.int (k : Int)))) all (by omega) (by rw [hks]; congr 1; omega) more
        refine ⟨ρ', ?_⟩
        simp only [List.getElem_append_left hlt] at hix hkd
        have e1 : (sIf (eNot (eCall m_is_letter (aCons (eVar 0) (aCons (eOp dIx (eVar 1) (eVar 2)) aNil)))) (sRaise "InvalidBraid" (eVar 2)) sNil) S.length [some (.d (.int (n : Int))), some (.d (.tuple (w ++ x :: u))), some (.d (.int (k : Int)))] S = .nx [some (.d (.int (n : Int))), some (.d (.tuple (w ++ x :: u))), some (.d (.int (k : Int)))] S :=
          (es_ifF (ev_not (ev_call (ev_ac (ev_var rfl) (ev_a1 (ev_op (ev_var rfl) (ev_var rfl) rfl rfl hix))) ((is_letter_d n _ hkd S).trans (by rw [hw _ (List.getElem_mem hlt)]))))).trans (es_nil _ _ _)
        show loopF _ _ _ _ _ (.int (k : Int) :: nd (ks ++ more)) _ _ = _
        unfold loopF
        simp only [setP, List.set_cons_succ, List.set_cons_zero, e1]
        exact e
      · have ek : k = w.length := by omega
        subst ek
        simp only [List.getElem_append_right (Nat.le_refl _), Nat.sub_self, List.getElem_cons_zero] at hix hkd
        have e1 : (sIf (eNot (eCall m_is_letter (aCons (eVar 0) (aCons (eOp dIx (eVar 1) (eVar 2)) aNil)))) (sRaise "InvalidBraid" (eVar 2)) sNil) S.length [some (.d (.int (n : Int))), some (.d (.tuple (w ++ x :: u))), some (.d (.int (w.length : Int)))] S = .exc "InvalidBraid" (.int (w.length : Int)) [some (.d (.int (n : Int))), some (.d (.tuple (w ++ x :: u))), some (.d (.int (w.length : Int)))] S :=
          (es_ifT (ev_not (ev_call (ev_ac (ev_var rfl) (ev_a1 (ev_op (ev_var rfl) (ev_var rfl) rfl rfl hix))) ((is_letter_d n _ hkd S).trans (by rw [hx]))))).trans (es_raise (ev_var rfl))
        refine ⟨[some (.d (.int (n : Int))), some (.d (.tuple (w ++ x :: u))), some (.d (.int (w.length : Int)))], ?_⟩
        show loopF _ _ _ _ _ (.int (w.length : Int) :: nd (ks ++ more)) _ _ = _
        unfold loopF
        simp only [setP, List.set_cons_succ, List.set_cons_zero, e1]
  obtain ⟨ρ', e⟩ := key (List.range' 0 (w.length + 1)) 0 none (nd (List.range (w ++ x :: u).length)) (Nat.zero_le _) rfl (List.range' (w.length + 1) u.length)
  have er : List.range' 0 (w.length + 1) ++ List.range' (w.length + 1) u.length = List.range (w ++ x :: u).length := by
    rw [List.range_eq_range']
    have := List.range'_append (s := 0) (m := w.length + 1) (n := u.length) (step := 1)
    simp at this
    simp
    rw [show w.length + (u.length + 1) = w.length + 1 + u.length from by omega]
    exact this
  rw [er] at e
  refine ev_mkX (S' := S) rfl ((check_head h1 h2 hl S).trans ((es_for (ev_rg1 (n := (w ++ x :: u).length) (ev_a1 (ev_cv (ev_a1 (ev_var rfl)) rfl)) (by omega))).trans e)) (by simp)
/-- told as no braid, and where -/
structure Rfd (n w p : D) : Prop where
  chk : ∀ S, m_check_braid [.d n, .d w] S = .exc "InvalidBraid" p S
  isb : ∀ S, m_is_braid [.d n, .d w] S = .rt (.bool false) S
  oky : okd 5 p = true
theorem rfd_strands {n : D} (w : D) (h : ∀ S, m_is_strand_count [.d n] S = .rt (.bool false) S) : Rfd n w (.str "strands") :=
  ⟨fun S => ev_mkX (S' := S) rfl (es_seqX ((es_ifT (ev_not (ev_call (ev_a1 (ev_var rfl)) (h S)))).trans (es_raise (ev_c _ _ _)))) (by simp),
   fun S => ev_mk (S' := S) rfl (es_seqR ((es_ifT (ev_orT (ev_not (ev_call (ev_a1 (ev_var rfl)) (h S))))).trans ((es_ret (ev_c _ _ _)).trans (by simp)))) (by simp), ok_strands⟩
theorem rfd_word {w : D} (h : ∀ (S : Sto) (ρ : Env), ρ[1]? = some (some (.d w)) → eOr (eNot (eIsi "tuple" (eVar 1))) (eOp dGt (eCallV vLen (aCons (eVar 1) aNil)) (eC (.int 4000))) ρ S = .ok (.d (.bool true)) S) : Rfd (.int 3) w (.str "word") :=
  ⟨fun S => ev_mkX (S' := S) rfl ((es_seq ((es_ifF (ev_not (ev_call (ev_a1 (ev_var rfl)) (strands_ok (n := 3) (by decide) (by decide) S)))).trans (es_nil _ _ _))).trans (es_seqX ((es_ifT (h S _ rfl)).trans (es_raise (ev_c _ _ _))))) (by simp),
   fun S => ev_mk (S' := S) rfl (es_seqR ((es_ifT ((ev_orF (ev_not (ev_call (ev_a1 (ev_var rfl)) (strands_ok (n := 3) (by decide) (by decide) S)))).trans (h S _ rfl))).trans ((es_ret (ev_c _ _ _)).trans (by simp)))) (by simp), ok_word⟩
theorem rfd_letter (n : Nat) (h1 : 1 ≤ n) (h2 : n ≤ 60) (w u : List D) (x : D) (hl : (w ++ x :: u).length ≤ 4000) (hk : (w ++ x :: u).all kindL = true) (hw : w.all (letD n) = true) (hx : letD n x = false) : Rfd (.int (n : Int)) (.tuple (w ++ x :: u)) (.int (w.length : Int)) :=
  ⟨fun S => check_badD h1 h2 hl (List.all_eq_true.mp hk) (List.all_eq_true.mp hw) hx S,
   fun S => by
    rw [is_braid_d h1 h2 hl (List.all_eq_true.mp hk) S, List.all_append, List.all_cons, hx, Bool.false_and, Bool.and_false], rfl⟩
end DL

end
section
set_option Elab.async false
set_option linter.all false
set_option maxRecDepth 100000
set_option maxHeartbeats 4000000
namespace DL
open PySem PySem.Spec PyProof.Rows L2 FG
theorem es_asgX {i : Nat} {f : Den} {b : Nat} {ρ : Env} {S S' : Sto} {c : Str} {p : D} (h : f ρ S = .exc c p S') : sAsg i f b ρ S = .exc c p ρ S' := by
  unfold sAsg
  exact es_bX h
theorem standing_bad {n w p : D} (h : Rfd n w p) (S : Sto) : m_standing [.d n, .d w] S = .exc "InvalidBraid" p S :=
  ev_mkX rfl (es_seqX (es_exprX (ev_callX (ev_ac (ev_var rfl) (ev_a1 (ev_var rfl))) (h.chk S)))) (by simp)
theorem ends_bad {n w p : D} (h : Rfd n w p) (S : Sto) : m_ends [.d n, .d w] S = .exc "InvalidBraid" p S :=
  ev_mkX rfl (es_seqX (es_asgX (ev_callX (ev_ac (ev_var rfl) (ev_a1 (ev_var rfl))) (standing_bad h S)))) (by simp)
theorem letters_bad {n w p : D} (h : Rfd n w p) (S : Sto) : m_letters_used [.d n, .d w] S = .exc "InvalidBraid" p S :=
  ev_mkX rfl (es_seqX (es_exprX (ev_callX (ev_ac (ev_var rfl) (ev_a1 (ev_var rfl))) (h.chk S)))) (by simp)
theorem blocks_bad {n w p : D} (h : Rfd n w p) (S : Sto) : m_blocks [.d n, .d w] S = .exc "InvalidBraid" p S :=
  ev_mkX rfl (es_seqX (es_asgX (ev_callX (ev_ac (ev_var rfl) (ev_a1 (ev_var rfl))) (letters_bad h S)))) (by simp)
theorem bword_bad {n w p a b : D} (h : Rfd n w p) (S : Sto) : m_block_word [.d n, .d w, .d a, .d b] S = .exc "InvalidBraid" p S :=
  ev_mkX rfl (es_seqX (es_asgX (ev_callX (ev_ac (ev_var rfl) (ev_a1 (ev_var rfl))) (letters_bad h S)))) (by simp)
def ones : List D := (List.replicate 4001 [PyData.int 1]).flatten
theorem ones_len : ones.length = 4001 := by
  unfold ones
  simp
def t3 (a b c : D) : D := .tuple [a, b, c]
def odd1 : List D := [t3 (.int 0) (.tuple []) (.str "strands"), t3 (.int 61) (.tuple []) (.str "strands"), t3 (.bool true) (.tuple []) (.str "strands"), t3 (.str "3") (.tuple []) (.str "strands"), t3 .none (.tuple []) (.str "strands")]
def odd2 : List D := [t3 (.int 3) (.list [.int 1]) (.str "word"), t3 (.int 3) .none (.str "word"), t3 (.int 3) (.tuple ones) (.str "word"), t3 (.int 3) (.tuple [.int 1, .int 3]) (.int 1), t3 (.int 3) (.tuple [.int 0]) (.int 0)]
def odd3 : List D := [t3 (.int 3) (.tuple [.int 1, .bool true]) (.int 1), t3 (.int 3) (.tuple [.str "1"]) (.int 0), t3 (.int 3) (.tuple [.int 1, .int 2, .int (-3)]) (.int 2), t3 (.int 1) (.tuple [.int 1]) (.int 0), t3 (.int 3) (.tuple [.int 1, .tuple [.int 1]]) (.int 1)]
theorem sc_0 (S : Sto) : m_is_strand_count [.d (.int 0)] S = .rt (.bool false) S := strands_int 0 S
theorem sc_61 (S : Sto) : m_is_strand_count [.d (.int 61)] S = .rt (.bool false) S := strands_int 61 S
theorem sc_no {d : D} {S : Sto} (h : m_is_integer [.d d] S = .rt (.bool false) S) : m_is_strand_count [.d d] S = .rt (.bool false) S :=
  ev_mk (S' := S) rfl ((es_ret (ev_andF (ev_call (ev_a1 (ev_var rfl)) h))).trans (by simp)) (by simp)
theorem odd_rfd : ∀ d ∈ odd1 ++ odd2 ++ odd3, ∃ n w p, d = t3 n w p ∧ Rfd n w p := by
  intro d hd
  simp only [odd1, odd2, odd3, List.mem_append, List.mem_cons, List.not_mem_nil, or_false] at hd
  rcases hd with ((rfl | rfl | rfl | rfl | rfl) | (rfl | rfl | rfl | rfl | rfl)) | (rfl | rfl | rfl | rfl | rfl)
  · exact ⟨_, _, _, rfl, rfd_strands _ sc_0⟩
  · exact ⟨_, _, _, rfl, rfd_strands _ sc_61⟩
  · exact ⟨_, _, _, rfl, rfd_strands _ fun S => sc_no (is_integer_bool _ S)⟩
  · exact ⟨_, _, _, rfl, rfd_strands _ fun S => sc_no (is_integer_str _ S)⟩
  · exact ⟨_, _, _, rfl, rfd_strands _ fun S => sc_no (is_integer_none S)⟩
  · exact ⟨_, _, _, rfl, rfd_word fun S ρ h => ev_orT (ev_not (ev_un (ev_var h) rfl (isi_list_tuple _)))⟩
  · exact ⟨_, _, _, rfl, rfd_word fun S ρ h => ev_orT (ev_not (ev_un (ev_var h) rfl isi_none_tuple))⟩
  · refine ⟨_, _, _, rfl, rfd_word fun S ρ h => (ev_orF (ev_not (ev_un (ev_var h) rfl (isi_tuple_tuple _)))).trans (ev_op (a := .int (ones.length : Int)) (b := .int 4000) (ev_cv (ev_a1 (ev_var h)) rfl) (ev_c _ _ _) rfl rfl ?_)⟩
    rw [ones_len]
    rfl
  · exact ⟨_, _, _, rfl, rfd_letter 3 (by decide) (by decide) [.int 1] [] (.int 3) (by decide) rfl (by decide) (by decide)⟩
  · exact ⟨_, _, _, rfl, rfd_letter 3 (by decide) (by decide) [] [] (.int 0) (by decide) rfl rfl (by decide)⟩
  · exact ⟨_, _, _, rfl, rfd_letter 3 (by decide) (by decide) [.int 1] [] (.bool true) (by decide) rfl (by decide) rfl⟩
  · exact ⟨_, _, _, rfl, rfd_letter 3 (by decide) (by decide) [] [] (.str "1") (by decide) rfl rfl rfl⟩
  · exact ⟨_, _, _, rfl, rfd_letter 3 (by decide) (by decide) [.int 1, .int 2] [] (.int (-3)) (by decide) rfl (by decide) (by decide)⟩
  · exact ⟨_, _, _, rfl, rfd_letter 1 (by decide) (by decide) [] [] (.int 1) (by decide) rfl rfl (by decide)⟩
  · exact ⟨_, _, _, rfl, rfd_letter 3 (by decide) (by decide) [.int 1] [] (.tuple [.int 1]) (by decide) rfl (by decide) rfl⟩
theorem add_ds {a b : List D} (h : a.length + b.length ≤ 1000000) : dAdd (.list a) (.list b) = some (.list (a ++ b)) := by
  simp only [dAdd]
  rw [if_pos (mill_line h)]
theorem l1s : (1 : Nat) ≤ sizeLine := le_line (by decide)
theorem l2s : (2 : Nat) ≤ sizeLine := le_line (by decide)
theorem l3s : (3 : Nat) ≤ sizeLine := le_line (by decide)
theorem l5s : (5 : Nat) ≤ sizeLine := le_line (by decide)
theorem enil (ρ : Env) (S : Sto) : eTup aNil ρ S = .ok (.d (.tuple [])) S := ev_tup (show aNil _ _ = _ from rfl) rfl (Nat.zero_le _)
theorem tup1 {f : Den} {ρ : Env} {S : Sto} {a : D} (h : f ρ S = .ok (.d a) S) : eTup (aCons f aNil) ρ S = .ok (.d (.tuple [a])) S := ev_tup (ev_a1 h) rfl l1s
theorem tup2 {f g : Den} {ρ : Env} {S : Sto} {a b : D} (h : f ρ S = .ok (.d a) S) (h2 : g ρ S = .ok (.d b) S) : eTup (aCons f (aCons g aNil)) ρ S = .ok (.d (.tuple [a, b])) S := ev_tup (ev_ac h (ev_a1 h2)) rfl l2s
theorem tup3 {f g k : Den} {ρ : Env} {S : Sto} {a b c : D} (h : f ρ S = .ok (.d a) S) (h2 : g ρ S = .ok (.d b) S) (h3 : k ρ S = .ok (.d c) S) : eTup (aCons f (aCons g (aCons k aNil))) ρ S = .ok (.d (t3 a b c)) S := ev_tup (ev_ac h (ev_ac h2 (ev_a1 h3))) rfl l3s
theorem odd1_ev (ρ : Env) (S : Sto) : eFz (eLst (aCons (eTup (aCons (eC (.int 0)) (aCons (eTup aNil) (aCons (eC (.str "strands")) aNil)))) (aCons (eTup (aCons (eC (.int 61)) (aCons (eTup aNil) (aCons (eC (.str "strands")) aNil)))) (aCons (eTup (aCons (eC (.bool true)) (aCons (eTup aNil) (aCons (eC (.str "strands")) aNil)))) (aCons (eTup (aCons (eC (.str "3")) (aCons (eTup aNil) (aCons (eC (.str "strands")) aNil)))) (aCons (eTup (aCons (eC .none) (aCons (eTup aNil) (aCons (eC (.str "strands")) aNil)))) aNil)))))) ρ S = .ok (.d (.list odd1)) S :=
  ev_fz (ev_lst (ev_ac (tup3 (ev_c _ _ _) (enil _ _) (ev_c _ _ _)) (ev_ac (tup3 (ev_c _ _ _) (enil _ _) (ev_c _ _ _)) (ev_ac (tup3 (ev_c _ _ _) (enil _ _) (ev_c _ _ _)) (ev_ac (tup3 (ev_c _ _ _) (enil _ _) (ev_c _ _ _)) (ev_a1 (tup3 (ev_c _ _ _) (enil _ _) (ev_c _ _ _))))))) rfl l5s)
theorem ones_ev : dMul (.tuple [.int 1]) (.int 4001) = some (.tuple ones) := by
  show (if ([PyData.int 1] : List D) ≠ [] ∧ (2 : Int) ≤ 4001 ∧ (4001 : Int) ≤ 1000000 ∧ ([PyData.int 1] : List D).length * (4001 : Int).toNat ≤ 1000000 then some (PyData.tuple (List.replicate (4001 : Int).toNat [PyData.int 1]).flatten) else none) = _
  rw [if_pos ⟨by simp, by decide, by decide, by decide⟩]
  rfl
theorem odd2_ev (ρ : Env) (S : Sto) : eFz (eLst (aCons (eTup (aCons (eC (.int 3)) (aCons (eFz (eLst (aCons (eC (.int 1)) aNil))) (aCons (eC (.str "word")) aNil)))) (aCons (eTup (aCons (eC (.int 3)) (aCons (eC .none) (aCons (eC (.str "word")) aNil)))) (aCons (eTup (aCons (eC (.int 3)) (aCons (eOp dMul (eTup (aCons (eC (.int 1)) aNil)) (eC (.int 4001))) (aCons (eC (.str "word")) aNil)))) (aCons (eTup (aCons (eC (.int 3)) (aCons (eTup (aCons (eC (.int 1)) (aCons (eC (.int 3)) aNil))) (aCons (eC (.int 1)) aNil)))) (aCons (eTup (aCons (eC (.int 3)) (aCons (eTup (aCons (eC (.int 0)) aNil)) (aCons (eC (.int 0)) aNil)))) aNil)))))) ρ S = .ok (.d (.list odd2)) S :=
  ev_fz (ev_lst (ev_ac (tup3 (ev_c _ _ _) (ev_fz (ev_lst (ev_a1 (ev_c _ _ _)) rfl l1s)) (ev_c _ _ _)) (ev_ac (tup3 (ev_c _ _ _) (ev_c _ _ _) (ev_c _ _ _)) (ev_ac (tup3 (ev_c _ _ _) (ev_op (tup1 (ev_c _ _ _)) (ev_c _ _ _) rfl rfl ones_ev) (ev_c _ _ _)) (ev_ac (tup3 (ev_c _ _ _) (tup2 (ev_c _ _ _) (ev_c _ _ _)) (ev_c _ _ _)) (ev_a1 (tup3 (ev_c _ _ _) (tup1 (ev_c _ _ _)) (ev_c _ _ _))))))) rfl l5s)
theorem odd3_ev (ρ : Env) (S : Sto) : eFz (eLst (aCons (eTup (aCons (eC (.int 3)) (aCons (eTup (aCons (eC (.int 1)) (aCons (eC (.bool true)) aNil))) (aCons (eC (.int 1)) aNil)))) (aCons (eTup (aCons (eC (.int 3)) (aCons (eTup (aCons (eC (.str "1")) aNil)) (aCons (eC (.int 0)) aNil)))) (aCons (eTup (aCons (eC (.int 3)) (aCons (eTup (aCons (eC (.int 1)) (aCons (eC (.int 2)) (aCons (eOp dSub (eC (.int 0)) (eC (.int 3))) aNil)))) (aCons (eC (.int 2)) aNil)))) (aCons (eTup (aCons (eC (.int 1)) (aCons (eTup (aCons (eC (.int 1)) aNil)) (aCons (eC (.int 0)) aNil)))) (aCons (eTup (aCons (eC (.int 3)) (aCons (eTup (aCons (eC (.int 1)) (aCons (eTup (aCons (eC (.int 1)) aNil)) aNil))) (aCons (eC (.int 1)) aNil)))) aNil)))))) ρ S = .ok (.d (.list odd3)) S :=
  ev_fz (ev_lst (ev_ac (tup3 (ev_c _ _ _) (tup2 (ev_c _ _ _) (ev_c _ _ _)) (ev_c _ _ _)) (ev_ac (tup3 (ev_c _ _ _) (tup1 (ev_c _ _ _)) (ev_c _ _ _)) (ev_ac (tup3 (ev_c _ _ _) (tup3 (ev_c _ _ _) (ev_c _ _ _) (ev_op (ev_c _ _ _) (ev_c _ _ _) rfl rfl rfl)) (ev_c _ _ _)) (ev_ac (tup3 (ev_c _ _ _) (tup1 (ev_c _ _ _)) (ev_c _ _ _)) (ev_a1 (tup3 (ev_c _ _ _) (tup2 (ev_c _ _ _) (tup1 (ev_c _ _ _))) (ev_c _ _ _))))))) rfl l5s)
theorem refused_ok {S : Sto} {j : Nat} {c : Cell} (hj : S[j]? = some c) (hc : TapeOk c) : ∃ S', m__law_refused [.m j] S = .rt (.bool true) S' := by
  obtain ⟨v, c', en, hv, hc'⟩ := next_ok (many := 15) hj hc (by decide) (by decide)
  have hl : (odd1 ++ odd2 ++ odd3).length = 15 := rfl
  obtain ⟨n, w, p, ed, hb⟩ := odd_rfd ((odd1 ++ odd2 ++ odd3)[v]'(by omega)) (List.getElem_mem _)
  have hix : dIx (.list (odd1 ++ odd2 ++ odd3)) (.int (v : Int)) = some (t3 n w p) := by
    rw [← ed]
    exact (dIx_nat (List.getElem?_eq_getElem (by omega))).2
  refine ⟨((S.set j c').take S.length).take S.length, ev_mk2 (S' := (S.set j c').take S.length) rfl ?_ rfl⟩
  refine (es_seq (es_asg (odd1_ev _ _))).trans ?_
  refine (es_seq (es_asg (ev_op (ev_var rfl) (odd2_ev _ _) rfl rfl (add_ds (by decide))))).trans ?_
  refine (es_seq (es_asg (ev_op (ev_var rfl) (odd3_ev _ _) rfl rfl (add_ds (by decide))))).trans ?_
  have hp : sAsgP (.tup [(.nm 3), (.nm 4), (.nm 5)]) (eOp dIx (eVar 1) (eCall m__law_next (aCons (eVar 0) (aCons (eCallV vLen (aCons (eVar 1) aNil)) aNil)))) S.length [some (.m j), some (.d (.list (odd1 ++ odd2 ++ odd3))), none, none, none, none] S = .nx [some (.m j), some (.d (.list (odd1 ++ odd2 ++ odd3))), none, some (.d n), some (.d w), some (.d p)] (S.set j c') := by
    unfold sAsgP
    rw [es_b (ev_op2 (ev_var rfl) (ev_call (ev_ac (ev_var rfl) (ev_a1 (ev_cv (c := .int ((15 : Nat) : Int)) (ev_a1 (ev_var rfl)) rfl))) en) rfl rfl hix)]
    rfl
  refine (es_seq hp).trans ?_
  refine (es_seq (es_asg (ev_fz (ev_lst (ds := List.replicate 6 (.tuple [.str "braid", p]))
    (ev_ac (ask_braid (ev_callX (ev_ac (ev_var rfl) (ev_a1 (ev_var rfl))) (hb.chk _)))
    (ev_ac (ask_braid (ev_callX (ev_ac (ev_var rfl) (ev_a1 (ev_var rfl))) (standing_bad hb _)))
    (ev_ac (ask_braid (ev_callX (ev_ac (ev_var rfl) (ev_a1 (ev_var rfl))) (ends_bad hb _)))
    (ev_ac (ask_braid (ev_callX (ev_ac (ev_var rfl) (ev_a1 (ev_var rfl))) (letters_bad hb _)))
    (ev_ac (ask_braid (ev_callX (ev_ac (ev_var rfl) (ev_a1 (ev_var rfl))) (blocks_bad hb _)))
    (ev_a1 (ask_braid (ev_callX (ev_ac (ev_var rfl) (ev_ac (ev_var rfl) (ev_ac (ev_c _ _ _) (ev_a1 (ev_c _ _ _))))) (bword_bad hb _))))))))) rfl (le_line (show 6 ≤ 100 from by decide)))))).trans ?_
  have hrep : dRep (.list [.tuple [.str "braid", p]]) (.int 6) = some (.list (List.replicate 6 (.tuple [.str "braid", p]))) := by
    unfold dRep
    simp only
    rw [if_pos]
    · rfl
    · exact ⟨by decide, by decide, le_line (show 1 * 6 ≤ 100 from by decide)⟩
  have hok : okd 7 (.list (List.replicate 6 (.tuple [.str "braid", p]))) = true := okd_lstm 6 (by simp) fun d hd => by
    rw [(List.mem_replicate.mp hd).2]
    refine okd_tupm 5 (by simp) fun d hd => ?_
    simp only [List.mem_cons, List.not_mem_nil, or_false] at hd
    rcases hd with rfl | rfl
    · exact ok_braid
    · exact hb.oky
  refine es_ret (S' := S.set j c') ((ev_andT (ev_op (c := .bool true) (ev_call (ev_ac (ev_var rfl) (ev_a1 (ev_var rfl))) (hb.isb _)) (ev_c _ _ _) rfl rfl rfl)).trans (same_ev (ev_var rfl) (ev_fz (ev_op (ev_fz (ev_lst (ev_a1 (tup2 (ev_c _ _ _) (ev_var rfl))) rfl l1s)) (ev_c _ _ _) rfl rfl hrep)) hok))
end DL

end
section
set_option Elab.async false
set_option linter.all false
set_option maxRecDepth 100000
set_option maxHeartbeats 4000000
namespace DL
open PySem PySem.Spec PyProof.Rows L2 FG
/-! ### the law's loops -/
abbrev vEnv (ns : List Int) (n : Nat) (w : List Int) (r4 r5 r6 r7 r8 r9 r10 r11 r12 r13 r14 r15 : Option RV) : Env :=
  [some (.s ns), some (.m 0), some (.d (.int (n : Int))), some (.d (.tuple (zd w))), r4, r5, r6, r7, r8, r9, r10, r11, r12, r13, r14, r15]
def sizN (w : List Int) : List Nat := w.map Int.natAbs
theorem row_loop {ns : List Int} {n b : Nat} {w : List Int} {c : Cell} {r4 r5 r6 r7 r8 r11 r12 r13 r14 r15 : Option RV} (hn : n ≤ 60) (hl : w.length ≤ 14) (hw : ∀ x ∈ w, Let n x) : ∃ q4 q7,
    loopF (.nm 4) (sSeq (sAsg 7 (eCall m__law_size (aCons (eVar 4) aNil)))
  (sSeq (sSubs [((eVar 9), (eOp dSub (eVar 7) (eC (.int 1)))), ((eVar 9), (eVar 7))] (eTup (aCons (eOp dIx (eVar 9) (eVar 7)) (aCons (eOp dIx (eVar 9) (eOp dSub (eVar 7) (eC (.int 1)))) aNil))))
  (sAsg 10 (eOp dAdd (eVar 10) (eFz (eLst (aCons (eVar 7) aNil))))))) b none (zd w) (zd w) (vEnv ns n w r4 r5 r6 r7 r8 (some (.m 1)) (some (.d (.list (nd [])))) r11 r12 r13 r14 r15) [c, .lst (nd (List.range n))]
      = .nx (vEnv ns n w q4 r5 r6 q7 r8 (some (.m 1)) (some (.d (.list (nd (sizN w))))) r11 r12 r13 r14 r15) [c, .lst (nd (rowN (List.range n) w))] := by
  obtain ⟨ρ', S', el, ⟨q4, q7, rfl⟩, rfl⟩ := loopF_inv (j := 4) (b := b) (s := sSeq (sAsg 7 (eCall m__law_size (aCons (eVar 4) aNil)))
  (sSeq (sSubs [((eVar 9), (eOp dSub (eVar 7) (eC (.int 1)))), ((eVar 9), (eVar 7))] (eTup (aCons (eOp dIx (eVar 9) (eVar 7)) (aCons (eOp dIx (eVar 9) (eOp dSub (eVar 7) (eC (.int 1)))) aNil))))
  (sAsg 10 (eOp dAdd (eVar 10) (eFz (eLst (aCons (eVar 7) aNil))))))) (src := none) (all := zd w) (ds := zd w) (i := 0)
    (ρ := vEnv ns n w r4 r5 r6 r7 r8 (some (.m 1)) (some (.d (.list (nd [])))) r11 r12 r13 r14 r15) (S := [c, .lst (nd (List.range n))])
    (fun i ρ S1 => (∃ q4 q7, ρ = vEnv ns n w q4 r5 r6 q7 r8 (some (.m 1)) (some (.d (.list (nd (sizN (w.take i)))))) r11 r12 r13 r14 r15) ∧ S1 = [c, .lst (nd (rowN (List.range n) (w.take i)))]) ⟨⟨r4, r7, rfl⟩, rfl⟩ (by
      rintro k d ρ S1 hd ⟨⟨q4, q7, rfl⟩, rfl⟩
      obtain ⟨hk, rfl⟩ := zd_get hd
      rw [Nat.zero_add]
      have hx := hw _ (List.getElem_mem hk)
      have hlen : (rowN (List.range n) (w.take k)).length = n := row_len (by simp) fun x hx => hw x (List.mem_of_mem_take hx)
      have es : sizN (w.take (k + 1)) = sizN (w.take k) ++ [w[k].natAbs] := by
        unfold sizN
        rw [List.take_succ_eq_append_getElem hk, List.map_append]
        rfl
      refine ⟨vEnv ns n w (some (.d (.int w[k]))) r5 r6 (some (.d (.int (w[k].natAbs : Int)))) r8 (some (.m 1)) (some (.d (.list (nd (sizN (w.take (k + 1))))))) r11 r12 r13 r14 r15, [c, .lst (nd (rowN (List.range n) (w.take (k + 1))))], ?_, rfl, ⟨_, _, rfl⟩, rfl⟩
      refine (es_seq (es_asg (ev_call (ev_a1 (ev_var rfl)) (size_ok _ _)))).trans ?_
      refine (es_seq ((es_swap (a := 9) (c := 7) (j := 1) (k := w[k].natAbs) (l := rowN (List.range n) (w.take k)) rfl rfl rfl hx.1 (by rw [hlen]; exact hx.2)))).trans ?_
      rw [row_take hk, es]
      refine (es_asg (ev_op (b := .list (nd [w[k].natAbs])) (ev_var rfl) (ev_fz (ev_lst (ds := nd [w[k].natAbs]) (ev_a1 (ev_var rfl)) rfl l1s)) rfl rfl (add_n (by simp [sizN]; omega)))).trans rfl)
  refine ⟨q4, q7, ?_⟩
  rw [el, zd_len, Nat.zero_add, List.take_length]
theorem gap_loop {ns : List Int} {n b : Nat} {w : List Int} {S : Sto} {r4 r5 r6 r7 r8 r9 r13 r14 r15 : Option RV} (h1 : 1 ≤ n) (hn : n ≤ 60) : ∃ q7,
    loopF (.nm 7) (sIf (eOr (eOp dEq (eVar 7) (eVar 2)) (eOp dNotIn (eVar 7) (eVar 10))) (sPar 11 12 (aCons (eOp dAdd (eVar 11) (eFz (eLst (aCons (eTup (aCons (eVar 12) (aCons (eVar 7) aNil))) aNil)))) (aCons (eVar 7) aNil))) sNil) b none (nd (List.range' 1 n)) (nd (List.range' 1 n))
      (vEnv ns n w r4 r5 r6 r7 r8 r9 (some (.d (.list (nd (sizN w))))) (some (.d (.list []))) (some (.d (.int 0))) r13 r14 r15) S
      = .nx (vEnv ns n w r4 r5 r6 q7 r8 r9 (some (.d (.list (nd (sizN w))))) (some (.d (.list (prs 0 (gaps n w n))))) (some (.d (.int (lastN 0 (gaps n w n) : Int)))) r13 r14 r15) S := by
  obtain ⟨ρ', S', el, ⟨q7, rfl⟩, hS⟩ := loopF_inv (j := 7) (b := b) (s := sIf (eOr (eOp dEq (eVar 7) (eVar 2)) (eOp dNotIn (eVar 7) (eVar 10))) (sPar 11 12 (aCons (eOp dAdd (eVar 11) (eFz (eLst (aCons (eTup (aCons (eVar 12) (aCons (eVar 7) aNil))) aNil)))) (aCons (eVar 7) aNil))) sNil) (src := none) (all := nd (List.range' 1 n)) (ds := nd (List.range' 1 n)) (i := 0)
    (ρ := vEnv ns n w r4 r5 r6 r7 r8 r9 (some (.d (.list (nd (sizN w))))) (some (.d (.list []))) (some (.d (.int 0))) r13 r14 r15) (S := S)
    (fun i ρ S1 => (∃ q7, ρ = vEnv ns n w r4 r5 r6 q7 r8 r9 (some (.d (.list (nd (sizN w))))) (some (.d (.list (prs 0 (gaps n w i))))) (some (.d (.int (lastN 0 (gaps n w i) : Int)))) r13 r14 r15) ∧ S1 = S) ⟨⟨r7, rfl⟩, rfl⟩ (by
      rintro k d ρ S1 hd ⟨⟨q7, rfl⟩, rfl⟩
      have hk : k < n := by
        have := (List.getElem?_eq_some_iff.mp hd).1
        rwa [nd_len, List.length_range'] at this
      have ed : d = .int ((k + 1 : Nat) : Int) := by
        rw [nd_get (by rw [List.length_range']; exact hk)] at hd
        simp at hd
        rw [← hd]
        exact congrArg PyData.int (by omega)
      subst ed
      rw [Nat.zero_add]
      have tst : eOr (eOp dEq (eVar 7) (eVar 2)) (eOp dNotIn (eVar 7) (eVar 10)) (vEnv ns n w r4 r5 r6 (some (.d (.int ((k + 1 : Nat) : Int)))) r8 r9 (some (.d (.list (nd (sizN w))))) (some (.d (.list (prs 0 (gaps n w k))))) (some (.d (.int (lastN 0 (gaps n w k) : Int)))) r13 r14 r15) S1 = .ok (.d (.bool (gapB n w (k + 1)))) S1 := by
        refine (ev_or (eqI (ev_var rfl) (ev_var rfl)) (ev_op (ev_var rfl) (ev_var rfl) rfl rfl (nin_nd (sizN w) (k + 1)).2)).trans ?_
        unfold gapB sizN
        rw [show decide (((k + 1 : Nat) : Int) = (n : Int)) = decide (k + 1 = n) from decide_eq_decide.mpr (by omega)]
      have hle := len_gaps n w k
      cases hg : gapB n w (k + 1) with
      | true =>
        rw [hg] at tst
        have eg : gaps n w (k + 1) = gaps n w k ++ [k + 1] := by rw [gaps_succ, hg]; rfl
        refine ⟨vEnv ns n w r4 r5 r6 (some (.d (.int ((k + 1 : Nat) : Int)))) r8 r9 (some (.d (.list (nd (sizN w))))) (some (.d (.list (prs 0 (gaps n w (k + 1)))))) (some (.d (.int (lastN 0 (gaps n w (k + 1)) : Int)))) r13 r14 r15, S1, ?_, rfl, ⟨_, rfl⟩, rfl⟩
        rw [eg, prs_snoc, last_snoc]
        exact (es_ifT tst).trans ((es_par (ev_ac (ev_op (ev_var rfl) (ev_fz (ev_lst (ds := [pr (lastN 0 (gaps n w k)) (k + 1)]) (ev_a1 (tup2 (ev_var rfl) (ev_var rfl))) rfl l1s)) rfl rfl (add_ds (by rw [prs_len]; simp; omega))) (ev_a1 (ev_var rfl)))).trans rfl)
      | false =>
        rw [hg] at tst
        have eg : gaps n w (k + 1) = gaps n w k := by rw [gaps_succ, hg]; simp
        refine ⟨vEnv ns n w r4 r5 r6 (some (.d (.int ((k + 1 : Nat) : Int)))) r8 r9 (some (.d (.list (nd (sizN w))))) (some (.d (.list (prs 0 (gaps n w k))))) (some (.d (.int (lastN 0 (gaps n w k) : Int)))) r13 r14 r15, S1, (es_ifF tst).trans (es_nil _ _ _), rfl, ⟨some (.d (.int ((k + 1 : Nat) : Int))), ?_⟩, rfl⟩
        rw [eg])
  refine ⟨q7, ?_⟩
  rw [el, hS, nd_len, List.length_range', Nat.zero_add]
theorem used_mem' {n : Nat} {w : List Int} (hw : ∀ x ∈ w, Let n x) (k : Nat) : k ∈ usedN n w ↔ k ∈ sizN w := by
  unfold usedN sizN
  rw [List.mem_filter, List.mem_range'_1, decide_eq_true_eq]
  constructor
  · exact fun h => h.2
  · intro h
    refine ⟨?_, h⟩
    obtain ⟨x, hx, rfl⟩ := List.mem_map.mp h
    have := hw x hx
    unfold Let at this
    omega
theorem mem_prs : ∀ {a : Nat} {l : List Nat} {d : D}, d ∈ prs a l → ∃ x y, d = pr x y
  | _, [], _, h => by cases h
  | a, b :: l, d, h => by
    rcases List.mem_cons.mp h with rfl | h
    · exact ⟨a, b, rfl⟩
    · exact mem_prs h
theorem okd_prs (k : Nat) {a : Nat} {l : List Nat} (h : l.length ≤ 1000) : okd (k + 2) (.tuple (prs a l)) = true := by
  refine okd_tupm (k + 1) (by rw [prs_len]; omega) fun d hd => ?_
  obtain ⟨x, y, rfl⟩ := mem_prs hd
  refine okd_tupm k (by simp) fun d hd => ?_
  simp only [List.mem_cons, List.not_mem_nil, or_false] at hd
  rcases hd with rfl | rfl
  · exact okd_int k _
  · exact okd_int k _
end DL

end
section
set_option Elab.async false
set_option linter.all false
set_option maxRecDepth 100000
set_option maxHeartbeats 4000000
namespace DL
open PySem PySem.Spec PyProof.Rows L2 FG
theorem okd_tN (k : Nat) {l : List Nat} (h : l.length ≤ 1000) : okd (k + 1) (tN l) = true := (okd_nd k (by omega)).1
theorem same_lst {f g : Den} {ρ : Env} {S : Sto} {ds : List D} (h1 : f ρ S = .ok (.d (.list ds)) S) (h2 : g ρ S = .ok (.d (.list ds)) S) (hl : ds.length ≤ 1000) (h : ∀ d ∈ ds, okd 6 d = true) : eNot (eCall (m__law_same 8) (aCons f (aCons g aNil))) ρ S = .ok (.d (.bool false)) S :=
  ev_not (b := true) (same_ev h1 h2 (okd_lstm 6 (by omega) h))
section
variable {ns : List Int} {n : Nat} {w : List Int} {r4 r5 r6 r7 r8 r9 r10 r11 r12 r13 r14 r15 : Option RV} {c : Cell} (h1 : 1 ≤ n) (h8 : n ≤ 8) (hl : w.length ≤ 14) (hw : ∀ x ∈ w, Let n x)
include h1 h8 hl hw
theorem v_one : eNot (eCall (m__law_same 8) (aCons (eFz (eLst (aCons (eCall m_standing (aCons (eVar 2) (aCons (eVar 3) aNil))) (aCons (eCall m_ends (aCons (eVar 2) (aCons (eVar 3) aNil))) aNil)))) (aCons (eFz (eLst (aCons (eCallV (v1 dTuple) (aCons (eVar 9) aNil)) (aCons (eCallV (v1 dTuple) (aCons (eFz (eComp (iRange1 (aCons (eVar 2) aNil)) (.nm 15) tYesD (eIndex (eVar 9) (eVar 15)) [15])) aNil)) aNil)))) aNil))) (vEnv ns n w r4 r5 r6 r7 r8 (some (.m 1)) r10 r11 r12 r13 r14 r15) [c, .lst (nd (rowN (List.range n) w))] = .ok (.d (.bool false)) [c, .lst (nd (rowN (List.range n) w))] := by
  refine same_lst (ds := [tN (rowN (List.range n) w), tN (endsN n w)]) (ev_fz (ev_lst (ev_ac (ev_call (ev_ac (ev_var rfl) (ev_a1 (ev_var rfl))) (standing_ok h1 (by omega) (by omega) hw _)) (ev_a1 (ev_call (ev_ac (ev_var rfl) (ev_a1 (ev_var rfl))) (ends_ok h1 (by omega) (by omega) hw _)))) rfl l2s)) (ev_fz (ev_lst (ev_ac (ev_cv (ev_a1 (ev_var rfl)) ?_) (ev_a1 (ev_cv (c := tN (endsN n w)) (ev_a1 (ev_fz (ev_compM (fun d => .int ((rowN (List.range n) w).idxOf (nOf d) : Int)) (ev_rg1 (n := n) (ev_a1 (ev_var rfl)) (by omega)) (fun d hd => ?_) (by rw [nd_len, List.length_range]; exact line2 (by omega))))) ?_))) rfl l2s)) (show 2 ≤ 1000 by decide) (fun d hd => ?_)
  · rfl
  · obtain ⟨i, hi, rfl⟩ := mem_nd hd
    rw [List.mem_range] at hi
    rw [nOf_int]
    exact ev_indexM (j := 1) (ev_var rfl) rfl (ev_var rfl) rfl (mem_row hw hi)
  · show some (PyData.tuple _) = _
    rw [nd_map_nOf (fun i => (rowN (List.range n) w).idxOf i)]
    rfl
  · simp only [List.mem_cons, List.not_mem_nil, or_false] at hd
    rcases hd with rfl | rfl
    · exact okd_tN 5 (by rw [row_len (n := n) (by simp) hw]; omega)
    · exact okd_tN 5 (by unfold endsN; simp; omega)
theorem v_due {S : Sto} {m : Nat} : eFz (eLst (aCons (eCallV (v1 dTuple) (aCons (eFz (eComp (iSeq (eUn dRev (eVar 3))) (.nm 4) tYesD (eOp dSub (eC (.int 0)) (eVar 4)) [4])) aNil)) (aCons (eCall m__law_bare (aCons (eVar 3) aNil)) (aCons (eCallV (v1 dTuple) (aCons (eFz (eComp (iSeq (eVar 3)) (.nm 4) tYesD (eIf (eOp dGt (eVar 4) (eC (.int 0))) (eOp dAdd (eVar 4) (eVar 5)) (eOp dSub (eVar 4) (eVar 5))) [4])) aNil)) aNil)))) (vEnv ns n w r4 (some (.d (.int (m : Int)))) r6 r7 r8 r9 r10 r11 r12 r13 r14 r15) S
    = .ok (.d (.list [.tuple (zd (inv w)), .tuple (zd (fr w)), .tuple (zd (w.map (movI m)))])) S := by
  refine ev_fz (ev_lst (ev_ac (ev_cv (c := .tuple (zd (inv w))) (ev_a1 (ev_fz (ev_compM (fun d => .int (0 - iOf d)) (ds := zd w.reverse) (ev_seqT (ev_un (ev_var rfl) rfl (by show some (PyData.tuple (zd w).reverse) = _; rw [zd_rev]))) (fun d hd => ?_) (by rw [zd_len, List.length_reverse]; exact mill_line (by omega))))) ?_) (ev_ac (ev_call (ev_a1 (ev_var rfl)) (bare_ok hl S)) (ev_a1 (ev_cv (c := .tuple (zd (w.map (movI m)))) (ev_a1 (ev_fz (ev_compM (fun d => .int (movI m (iOf d))) (ev_seqT (ev_var rfl)) (fun d hd => ?_) (by rw [zd_len]; exact mill_line (by omega))))) ?_)))) rfl l3s)
  · obtain ⟨i, _, rfl⟩ := mem_zd hd
    exact ev_op (ev_c _ _ _) (ev_var rfl) rfl rfl rfl
  · show some (PyData.tuple _) = _
    rw [map_zd (fun i => 0 - i) _ _ (fun i => rfl)]
    refine congrArg (fun x => some (PyData.tuple (zd x))) ?_
    unfold inv
    exact List.map_congr_left fun i _ => by omega
  · obtain ⟨i, _, rfl⟩ := mem_zd hd
    exact mov_elt rfl rfl
  · show some (PyData.tuple _) = _
    rw [map_zd (movI m) _ _ (fun i => rfl)]
theorem v_two {S : Sto} {m : Nat} : eNot (eCall (m__law_same 8) (aCons (eFz (eLst (aCons (eCall m_opposite (aCons (eVar 3) aNil)) (aCons (eCall m_freed (aCons (eVar 3) aNil)) (aCons (eCall m_moved_by (aCons (eVar 3) (aCons (eVar 5) aNil))) (aCons (eCall m_freed (aCons (eOp dAdd (eVar 3) (eCall m_opposite (aCons (eVar 3) aNil))) aNil)) aNil)))))) (aCons (eOp dAdd (eVar 6) (eFz (eLst (aCons (eTup aNil) aNil)))) aNil))) (vEnv ns n w r4 (some (.d (.int (m : Int)))) (some (.d (.list [.tuple (zd (inv w)), .tuple (zd (fr w)), .tuple (zd (w.map (movI m)))]))) r7 r8 r9 r10 r11 r12 r13 r14 r15) S
    = .ok (.d (.bool false)) S := by
  have hin : (inv w).length = w.length := inv_len w
  have e4 : m_freed [.d (.tuple (zd (w ++ inv w)))] S = .rt (.tuple []) S := by
    rw [freed_ok (by rw [List.length_append, hin]; omega) S]
    have : fr (w ++ inv w) = [] := by
      have := fr_eq (mul_inv w)
      rw [this]
      rfl
    rw [this]
    rfl
  have em : m_moved_by [.d (.tuple (zd w)), .d (.int (m : Int))] S = .rt (.tuple (zd (w.map (movI m)))) S := moved_ok (c := true) (by omega) (m : Int) S
  refine same_lst (ds := [.tuple (zd (inv w)), .tuple (zd (fr w)), .tuple (zd (w.map (movI m))), .tuple []]) (ev_fz (ev_lst (ev_ac (ev_call (ev_a1 (ev_var rfl)) (opposite_ok (by omega) S)) (ev_ac (ev_call (ev_a1 (ev_var rfl)) (freed_ok (by omega) S)) (ev_ac (ev_call (ev_ac (ev_var rfl) (ev_a1 (ev_var rfl))) em) (ev_a1 (ev_call (ev_a1 (ev_op (ev_var rfl) (ev_call (ev_a1 (ev_var rfl)) (opposite_ok (by omega) S)) rfl rfl (add_c true (by rw [hin]; omega)))) e4))))) rfl (le_line (show 4 ≤ 100 from by decide)))) (ev_op (ev_var rfl) (ev_fz (ev_lst (ds := [.tuple []]) (ev_a1 (enil _ _)) rfl l1s)) rfl rfl (add_ds (by simp))) (by simp) (fun d hd => ?_)
  simp only [List.mem_cons, List.not_mem_nil, or_false] at hd
  have hf := fr_len w
  rcases hd with rfl | rfl | rfl | rfl
  · exact okd_zd 5 (by omega)
  · exact okd_zd 5 (by omega)
  · exact okd_zd 5 (by rw [List.length_map]; omega)
  · exact okd_zd 5 (l := []) (by simp)
theorem isb_ok {n : Nat} (h1 : 1 ≤ n) (h2 : n ≤ 60) {w : List Int} (hl : w.length ≤ 4000) (hw : ∀ x ∈ w, Let n x) (S : Sto) : m_is_braid [.d (.int (n : Int)), .d (.tuple (zd w))] S = .rt (.bool true) S := by
  rw [is_braid_d h1 h2 (by rw [zd_len]; exact hl) (fun d hd => by obtain ⟨i, _, rfl⟩ := mem_zd hd; rfl) S]
  have : (zd w).all (letD n) = true := List.all_eq_true.mpr fun d hd => by
    obtain ⟨i, hi, rfl⟩ := mem_zd hd
    exact decide_eq_true (hw i hi)
  rw [this]
theorem v_three {S : Sto} : eNot (eCall (m__law_same 8) (aCons (eFz (eLst (aCons (eCall m_is_braid (aCons (eVar 2) (aCons (eVar 3) aNil))) (aCons (eCall m_letters_used (aCons (eVar 2) (aCons (eVar 3) aNil))) aNil)))) (aCons (eFz (eLst (aCons (eC (.bool true)) (aCons (eCallV (v1 dTuple) (aCons (eFz (eComp (iRange2 (aCons (eC (.int 1)) (aCons (eVar 2) aNil))) (.nm 7) (eOp dIn (eVar 7) (eVar 10)) (eVar 7) [7])) aNil)) aNil)))) aNil))) (vEnv ns n w r4 r5 r6 r7 r8 r9 (some (.d (.list (nd (sizN w))))) r11 r12 r13 r14 r15) S
    = .ok (.d (.bool false)) S := by
  have hu := used_len n w
  refine same_lst (ds := [.bool true, tN (usedN n w)]) (ev_fz (ev_lst (ev_ac (ev_call (ev_ac (ev_var rfl) (ev_a1 (ev_var rfl))) (isb_ok h1 h8 hl hw h1 (by omega) (by omega) hw S)) (ev_a1 (ev_call (ev_ac (ev_var rfl) (ev_a1 (ev_var rfl))) (letters_ok h1 (by omega) (by omega) hw S)))) rfl l2s)) (ev_fz (ev_lst (ev_ac (ev_c _ _ _) (ev_a1 (ev_cv (c := tN (usedN n w)) (ev_a1 (ev_fz (ev_comp (fun d => decide (nOf d ∈ sizN w)) (fun d => .int (nOf d : Int)) (ev_rg2 (n := n) (ev_ac (ev_c _ _ _) (ev_a1 (ev_var rfl))) (by omega)) (fun d hd => ?_) (by rw [nd_len, List.length_range']; exact line2 (by omega))))) ?_))) rfl l2s)) (show 2 ≤ 1000 by decide) (fun d hd => ?_)
  · obtain ⟨k, hk, rfl⟩ := mem_nd hd
    rw [nOf_int]
    exact ⟨ev_op (ev_var rfl) (ev_var rfl) rfl rfl (in_nd _ _).2, fun _ => ev_var rfl⟩
  · show some (PyData.tuple _) = _
    have e := nd_filter_nOf (fun k => decide (k ∈ sizN w)) (List.range' 1 (n - 1))
    rw [e, nd_map_nOf (fun k => k), List.map_id']
    rfl
  · simp only [List.mem_cons, List.not_mem_nil, or_false] at hd
    rcases hd with rfl | rfl
    · rfl
    · exact okd_tN 5 (by omega)
theorem v_four {S : Sto} : eNot (eCall (m__law_same 8) (aCons (eCall m_blocks (aCons (eVar 2) (aCons (eVar 3) aNil))) (aCons (eCallV (v1 dTuple) (aCons (eVar 11) aNil)) aNil))) (vEnv ns n w r4 r5 r6 r7 r8 r9 r10 (some (.d (.list (prs 0 (gaps n w n))))) r12 r13 r14 r15) S = .ok (.d (.bool false)) S :=
  ev_not (b := true) (same_ev (ev_call (ev_ac (ev_var rfl) (ev_a1 (ev_var rfl))) (blocks_ok h1 (by omega) (by omega) hw S)) (ev_cv (ev_a1 (ev_var rfl)) rfl) (okd_prs 5 (by have := len_gaps n w n; omega)))
/-- the last question -/
theorem v_five {S : Sto} {a b bb : Nat} : ∃ t, eAsk askP (eCall m_block_word (aCons (eVar 2) (aCons (eVar 3) (aCons (eVar 13) (aCons (eVar 14) aNil))))) (vEnv ns n w r4 r5 r6 r7 r8 r9 (some (.d (.list (nd (sizN w))))) r11 r12 (some (.d (.int (a : Int)))) (some (.d (.int (b : Int)))) r15) S = .ok (.d t) S ∧
    sIf (eOr (eNot (eChain (eC (.int 0)) [(dLe, (eVar 13)), (dLt, (eVar 14)), (dLe, (eVar 2))])) (eOr (eOp dIn (eVar 13) (eVar 10)) (eOp dIn (eVar 14) (eVar 10)))) (sIf (eOp dNe (eVar 8) (eTup (aCons (eC (.str "braid")) (aCons (eC (.str "block")) aNil)))) (sRet (eC (.bool false))) sNil) (sIf (eNot (eCall (m__law_same 8) (aCons (eVar 8) (aCons (eTup (aCons (eC (.str "told")) (aCons (eCallV (v1 dTuple) (aCons (eFz (eComp (iSeq (eVar 3)) (.nm 4) (eChain (eVar 13) [(dLt, (eCall m__law_size (aCons (eVar 4) aNil))), (dLt, (eVar 14))]) (eIf (eOp dGt (eVar 4) (eC (.int 0))) (eOp dSub (eVar 4) (eVar 13)) (eOp dAdd (eVar 4) (eVar 13))) [4])) aNil)) aNil))) aNil)))) (sRet (eC (.bool false))) sNil) bb
      (vEnv ns n w r4 r5 r6 r7 (some (.d t)) r9 (some (.d (.list (nd (sizN w))))) r11 r12 (some (.d (.int (a : Int)))) (some (.d (.int (b : Int)))) r15) S
      = .nx (vEnv ns n w r4 r5 r6 r7 (some (.d t)) r9 (some (.d (.list (nd (sizN w))))) r11 r12 (some (.d (.int (a : Int)))) (some (.d (.int (b : Int)))) r15) S := by
  have tst : ∀ {q8 : Option RV}, eOr (eNot (eChain (eC (.int 0)) [(dLe, (eVar 13)), (dLt, (eVar 14)), (dLe, (eVar 2))])) (eOr (eOp dIn (eVar 13) (eVar 10)) (eOp dIn (eVar 14) (eVar 10))) (vEnv ns n w r4 r5 r6 r7 q8 r9 (some (.d (.list (nd (sizN w))))) r11 r12 (some (.d (.int (a : Int)))) (some (.d (.int (b : Int)))) r15) S = .ok (.d (.bool (badBlk n w a b))) S := by
    intro q8
    refine (ev_or (ev_not (blk_chain (ev_var rfl) (ev_var rfl) (ev_var rfl))) (ev_or (ev_op (ev_var rfl) (ev_var rfl) rfl rfl (in_nd (sizN w) a).2) (ev_op (ev_var rfl) (ev_var rfl) rfl rfl (in_nd (sizN w) b).2))).trans ?_
    unfold badBlk
    rw [show decide (a ∈ usedN n w) = decide (a ∈ sizN w) from decide_eq_decide.mpr (used_mem' hw a), show decide (b ∈ usedN n w) = decide (b ∈ sizN w) from decide_eq_decide.mpr (used_mem' hw b)]
  cases hb : badBlk n w a b with
  | true =>
    refine ⟨.tuple [.str "braid", .str "block"], ask_braid (ev_callX (ev_ac (ev_var rfl) (ev_ac (ev_var rfl) (ev_ac (ev_var rfl) (ev_a1 (ev_var rfl))))) (block_bad h1 (by omega) (by omega) hw hb S)), ?_⟩
    refine (es_ifT (tst.trans (by rw [hb]))).trans ?_
    refine (es_ifF (ev_op (ev_var rfl) (tup2 (ev_c _ _ _) (ev_c _ _ _)) rfl rfl ?_)).trans (es_nil _ _ _)
    have hn : nice 1 (.tuple [.str "braid", .str "block"]) = true := by
      show (([PyData.str "braid", PyData.str "block"] : List D).all (nice 0)) = true
      have b2 : PyData.strOk "block" = true := by kernel_rfl
      simp [nice, ok_braid, b2]
    unfold dNe
    rw [nice_shaped hn (by decide), nice_eqv 1 _ hn]
    rfl
  | false =>
    refine ⟨.tuple [.str "told", .tuple (zd ((w.filter (inBlk a b)).map (movI (-(a : Int)))))], ask_told (ev_call (ev_ac (ev_var rfl) (ev_ac (ev_var rfl) (ev_ac (ev_var rfl) (ev_a1 (ev_var rfl))))) (block_ok h1 (by omega) (by omega) hw hb S)), ?_⟩
    refine (es_ifF (tst.trans (by rw [hb]))).trans ?_
    have hfl : (w.filter (inBlk a b)).length ≤ w.length := List.length_filter_le _ _
    refine (es_ifF (ev_not (b := true) (same_ev (ev_var rfl) (tup2 (ev_c _ _ _) (ev_cv (c := .tuple (zd ((w.filter (inBlk a b)).map (movI (-(a : Int)))))) (ev_a1 (ev_fz (ev_comp (fun d => inBlk a b (iOf d)) (fun d => .int (movI (-(a : Int)) (iOf d))) (ev_seqT (ev_var rfl)) (fun d hd => ?_) (by rw [zd_len]; exact mill_line (by omega))))) ?_)) ?_))).trans (es_nil _ _ _)
    · obtain ⟨i, _, rfl⟩ := mem_zd hd
      refine ⟨in_chain (ev_var rfl) (ev_call (ev_a1 (ev_var rfl)) (size_ok i S)) (ev_var rfl), fun _ => ?_⟩
      rw [eif_b (gtI (ev_var rfl))]
      show _ = EOut.ok (.d (.int (movI (-(a : Int)) i))) S
      unfold movI
      by_cases h : 0 < i
      · rw [decide_eq_true h, if_pos rfl, if_pos h]
        exact ev_op (ev_var rfl) (ev_var rfl) rfl rfl rfl
      · rw [decide_eq_false h, if_neg Bool.false_ne_true, if_neg h]
        exact ev_op (ev_var rfl) (ev_var rfl) rfl rfl (by show some (PyData.int (i + (a : Int))) = _; exact congrArg (fun x : Int => some (PyData.int x)) (by omega))
    · show some (PyData.tuple _) = _
      rw [filt_zd _ (inBlk a b) (fun i => rfl), map_zd (movI (-(a : Int))) _ _ (fun i => rfl)]
    · refine okd_tupm 6 (by simp) fun d hd => ?_
      simp only [List.mem_cons, List.not_mem_nil, or_false] at hd
      rcases hd with rfl | rfl
      · exact ok_told
      · exact okd_zd 5 (by rw [List.length_map]; omega)
end
end DL

end
section
set_option Elab.async false
set_option linter.all false
set_option maxRecDepth 100000
set_option maxHeartbeats 4000000
namespace DL
open PySem PySem.Spec PyProof.Rows L2 FG
theorem gaps_ne {n : Nat} (h1 : 1 ≤ n) (w : List Int) : ∃ l x, gaps n w n = l ++ [x] := by
  rw [← bord_eq h1 w]
  exact ⟨_, _, rfl⟩
theorem last_prs {a : Nat} {l : List Nat} {x : Nat} : dIx (.list (prs a (l ++ [x]))) (.int (-1)) = some (pr (lastN a l) x) := by
  rw [prs_snoc]
  show atI (prs a l ++ [pr (lastN a l) x]) (-1) = _
  unfold atI ixN
  rw [if_neg (by omega), if_pos (by simp; omega)]
  have e2 : (-1 + ((prs a l).length + 1 : Int)).toNat = (prs a l).length := by omega
  simp [e2]
/-- a and b as they are asked in the end -/
theorem v_ab {ns : List Int} {n b : Nat} {w : List Int} {row : Cell} {c : Cell} {r4 r5 r6 r7 r8 r9 r10 r12 r13 r14 r15 : Option RV} (h1 : 1 ≤ n) (h8 : n ≤ 8) (hc : TapeOk c) : ∃ x y c', TapeOk c' ∧ ∀ t : SDen,
    (sSeq (sParT [13, 14] (aCons (eCall m__law_next (aCons (eVar 1) (aCons (eOp dAdd (eVar 2) (eC (.int 1))) aNil))) (aCons (eCall m__law_next (aCons (eVar 1) (aCons (eOp dAdd (eVar 2) (eC (.int 2))) aNil))) aNil)))
  (sSeq (sIf (eOp dEq (eCall m__law_next (aCons (eVar 1) (aCons (eC (.int 2)) aNil))) (eC (.int 0))) (sParT [13, 14] (aCons (eOp dIx (eOp dIx (eVar 11) (eCall m__law_next (aCons (eVar 1) (aCons (eCallV vLen (aCons (eVar 11) aNil)) aNil)))) (eC (.int 0))) (aCons (eOp dIx (eOp dIx (eVar 11) (eUn dNeg (eC (.int 1)))) (eC (.int 1))) aNil))) sNil) t)) b
      (vEnv ns n w r4 r5 r6 r7 r8 r9 r10 (some (.d (.list (prs 0 (gaps n w n))))) r12 r13 r14 r15) [c, row]
      = t b (vEnv ns n w r4 r5 r6 r7 r8 r9 r10 (some (.d (.list (prs 0 (gaps n w n))))) r12 (some (.d (.int ((x : Nat) : Int)))) (some (.d (.int ((y : Nat) : Int)))) r15) [c', row] := by
  obtain ⟨x, c1, e1, hx, hc1⟩ := next_ok (S := [c, row]) (j := 0) (many := n + 1) rfl hc (by omega) (by omega)
  obtain ⟨y, c2, e2, hy, hc2⟩ := next_ok (S := [c1, row]) (j := 0) (many := n + 2) rfl hc1 (by omega) (by omega)
  obtain ⟨z, c3, e3, hz, hc3⟩ := next_ok (S := [c2, row]) (j := 0) (many := 2) rfl hc2 (by decide) (by decide)
  obtain ⟨l, q, hg⟩ := gaps_ne h1 w
  have hlen := len_gaps n w n
  have hpl : (prs 0 (gaps n w n)).length = l.length + 1 := by rw [prs_len, hg]; simp
  have hll : l.length + 1 ≤ n := by rw [hg] at hlen; simpa using hlen
  obtain ⟨v, c4, e4, hv, hc4⟩ := next_ok (S := [c3, row]) (j := 0) (many := l.length + 1) rfl hc3 (by omega) (by omega)
  have p1 : ∀ {s : SDen}, (sSeq (sParT [13, 14] (aCons (eCall m__law_next (aCons (eVar 1) (aCons (eOp dAdd (eVar 2) (eC (.int 1))) aNil))) (aCons (eCall m__law_next (aCons (eVar 1) (aCons (eOp dAdd (eVar 2) (eC (.int 2))) aNil))) aNil))) s) b (vEnv ns n w r4 r5 r6 r7 r8 r9 r10 (some (.d (.list (prs 0 (gaps n w n))))) r12 r13 r14 r15) [c, row] = s b (vEnv ns n w r4 r5 r6 r7 r8 r9 r10 (some (.d (.list (prs 0 (gaps n w n))))) r12 (some (.d (.int (x : Int)))) (some (.d (.int (y : Int)))) r15) [c2, row] := fun {s} =>
    es_seq (es_parT2 (ev_call (ev_ac (ev_var rfl) (ev_a1 (ev_op (ev_var rfl) (ev_c _ _ _) rfl rfl (dAdd_nat n 1)))) e1) (ev_call (ev_ac (ev_var rfl) (ev_a1 (ev_op (ev_var rfl) (ev_c _ _ _) rfl rfl (dAdd_nat n 2)))) e2))
  by_cases h0 : z = 0
  · subst h0
    have hvp : v < (prs 0 (gaps n w n)).length := by omega
    obtain ⟨a', b', eab⟩ := mem_prs (List.getElem_mem hvp)
    refine ⟨a', q, c4, hc4, fun t => p1.trans ?_⟩
    refine (es_seq ((es_ifT (ev_op2 (ev_call (ev_ac (ev_var rfl) (ev_a1 (ev_c _ _ _))) e3) (ev_c _ _ _) rfl rfl ((dEq_int _ _).trans (by rfl)))).trans (es_parT2 (u := .d (.int (a' : Int))) (v := .d (.int (q : Int))) (S' := [c4, row]) (S2 := [c4, row]) ?_ ?_))).trans rfl
    · have hix : dIx (.list (prs 0 (gaps n w n))) (.int (v : Int)) = some (pr a' b') := by
        rw [← eab]
        exact (dIx_nat (List.getElem?_eq_getElem hvp)).2
      refine ev_op2 (ev_op2 (ev_var rfl) (ev_call (ev_ac (ev_var rfl) (ev_a1 (ev_cv (c := .int ((l.length + 1 : Nat) : Int)) (ev_a1 (ev_var rfl)) ?_))) e4) rfl rfl hix) (ev_c _ _ _) rfl rfl rfl
      rw [vLen_list, hpl]
    · have hl2 : dIx (.list (prs 0 (gaps n w n))) (.int (-1)) = some (pr (lastN 0 l) q) := by rw [hg]; exact last_prs
      exact ev_op (ev_op (ev_var rfl) (ev_un (ev_c _ _ _) rfl rfl) rfl rfl hl2) (ev_c _ _ _) rfl rfl rfl
  · have h1' : z = 1 := by omega
    subst h1'
    refine ⟨x, y, c3, hc3, fun t => p1.trans ?_⟩
    exact (es_seq ((es_ifF (ev_op2 (ev_call (ev_ac (ev_var rfl) (ev_a1 (ev_c _ _ _))) e3) (ev_c _ _ _) rfl rfl ((dEq_int _ _).trans (by rfl)))).trans (es_nil _ _ _))).trans rfl
theorem law_true : ∀ ns : List Int, ns.length ≤ 63 → ∃ S', m_law [.s ns] [] = .rt (.bool true) S' := by
  intro ns _
  obtain ⟨v, c1, e1, hv, hc1⟩ := next_ok (S := [.lst [.list (zd ns), .int ((0 : Nat) : Int), .int ((0 : Nat) : Int), .int ((1 : Nat) : Int)]]) (j := 0) (many := 8) rfl ⟨ns, 0, 0, 1, rfl⟩ (by decide) (by decide)
  obtain ⟨w, c2, e2, hc2, hwl, hw⟩ := word_ok (S := [c1]) (j := 0) (n := 1 + v) (most := 14) rfl hc1 (by omega) (by decide)
  have h1 : 1 ≤ 1 + v := by omega
  have h8 : 1 + v ≤ 8 := by omega
  generalize hn : 1 + v = n at *
  have a1 : sAsg 1 (eNew (eLst (aCons (eFz (eCallV vList (aCons (eVar 0) aNil))) (aCons (eC (.int 0)) (aCons (eC (.int 0)) (aCons (eC (.int 1)) aNil)))))) 0 (envOf 16 [.s ns]) [] = .nx ((envOf 16 [.s ns]).set 1 (some (.m 0))) [.lst [.list (zd ns), .int ((0 : Nat) : Int), .int ((0 : Nat) : Int), .int ((1 : Nat) : Int)]] :=
    es_asg (ev_new (ev_lst (ev_ac (ev_fz (ev_cv (c := .list (zd ns)) (ev_a1 (ev_var rfl)) rfl)) (ev_ac (ev_c _ _ _) (ev_ac (ev_c _ _ _) (ev_a1 (ev_c _ _ _))))) rfl (le_line (show 4 ≤ 100 from by decide))))
  have a2 : sAsg 2 (eOp dAdd (eC (.int 1)) (eCall m__law_next (aCons (eVar 1) (aCons (eC (.int 8)) aNil)))) 0 ((envOf 16 [.s ns]).set 1 (some (.m 0))) [.lst [.list (zd ns), .int ((0 : Nat) : Int), .int ((0 : Nat) : Int), .int ((1 : Nat) : Int)]] = .nx (((envOf 16 [.s ns]).set 1 (some (.m 0))).set 2 (some (.d (.int (n : Int))))) [c1] := by
    rw [← hn]
    exact es_asg (ev_op2 (ev_c _ _ _) (ev_call (ev_ac (ev_var rfl) (ev_a1 (ev_c _ _ _))) e1) rfl rfl (dAdd_nat 1 v))
  have a3 : sAsg 3 (eCall m__law_word (aCons (eVar 1) (aCons (eVar 2) (aCons (eC (.int 14)) aNil)))) 0 (((envOf 16 [.s ns]).set 1 (some (.m 0))).set 2 (some (.d (.int (n : Int))))) [c1] = .nx (vEnv ns n w none none none none none none none none none none none none) [c2] :=
    es_asg (ev_call (ev_ac (ev_var rfl) (ev_ac (ev_var rfl) (ev_a1 (ev_c _ _ _)))) e2)
  have a4 : sParT [9, 10] (aCons (eNew (eUn (dRg1 false) (eVar 2))) (aCons (eFz (eLst aNil)) aNil)) 0 (vEnv ns n w none none none none none none none none none none none none) [c2] = .nx (vEnv ns n w none none none none none (some (.m 1)) (some (.d (.list (nd [])))) none none none none none) [c2, .lst (nd (List.range n))] :=
    (es_parT2 (ev_new (ev_un (ev_var rfl) rfl (list_rg1 (by omega)))) (ev_fz (ev_lst (show aNil _ _ = _ from rfl) rfl (Nat.zero_le _)))).trans rfl
  obtain ⟨q4, q7, el⟩ := row_loop (ns := ns) (n := n) (b := 0) (w := w) (c := c2) (r4 := none) (r5 := none) (r6 := none) (r7 := none) (r8 := none) (r11 := none) (r12 := none) (r13 := none) (r14 := none) (r15 := none) (by omega) hwl hw
  obtain ⟨m, c3, e3, hm, hc3⟩ := next_ok (S := [c2, .lst (nd (rowN (List.range n) w))]) (j := 0) (many := 9) rfl hc2 (by decide) (by decide)
  obtain ⟨q7', eg⟩ := gap_loop (ns := ns) (n := n) (b := 0) (w := w) (S := [c3, .lst (nd (rowN (List.range n) w))]) (r4 := q4) (r5 := some (.d (.int (m : Int)))) (r6 := some (.d (.list [.tuple (zd (inv w)), .tuple (zd (fr w)), .tuple (zd (w.map (movI m)))]))) (r7 := q7) (r8 := none) (r9 := some (.m 1)) (r13 := none) (r14 := none) (r15 := none) h1 (by omega)
  obtain ⟨x, y, c4, hc4, eab⟩ := v_ab (ns := ns) (n := n) (b := 0) (w := w) (row := .lst (nd (rowN (List.range n) w))) (c := c3) (r4 := q4) (r5 := some (.d (.int (m : Int)))) (r6 := some (.d (.list [.tuple (zd (inv w)), .tuple (zd (fr w)), .tuple (zd (w.map (movI m)))]))) (r7 := q7') (r8 := none) (r9 := some (.m 1)) (r10 := some (.d (.list (nd (sizN w))))) (r12 := some (.d (.int (lastN 0 (gaps n w n) : Int)))) (r13 := none) (r14 := none) (r15 := none) h1 h8 hc3
  obtain ⟨t, et, eif⟩ := v_five (ns := ns) (r4 := q4) (r5 := some (.d (.int (m : Int)))) (r6 := some (.d (.list [.tuple (zd (inv w)), .tuple (zd (fr w)), .tuple (zd (w.map (movI m)))]))) (r7 := q7') (r8 := none) (r9 := some (.m 1)) (r11 := some (.d (.list (prs 0 (gaps n w n))))) (r12 := some (.d (.int (lastN 0 (gaps n w n) : Int)))) (r15 := none) (S := [c4, .lst (nd (rowN (List.range n) w))]) (a := x) (b := y) (bb := 0) h1 h8 hwl hw
  obtain ⟨S', er⟩ := refused_ok (S := [c4, .lst (nd (rowN (List.range n) w))]) (j := 0) rfl hc4
  have rg : ∀ {ρ : Env} {S : Sto}, ρ[2]? = some (some (.d (.int (n : Int)))) → iRange2 (aCons (eC (.int 1)) (aCons (eOp dAdd (eVar 2) (eC (.int 1))) aNil)) ρ S = .ok none (nd (List.range' 1 n)) S := fun h => by
    have := ev_rg2 (n := n + 1) (S := ‹Sto›) (S' := ‹Sto›) (ρ := ‹Env›) (ev_ac (ev_c _ _ _) (ev_a1 (ev_op (ev_var h) (ev_c _ _ _) rfl rfl (dAdd_nat n 1)))) (by omega)
    rw [Nat.add_sub_cancel] at this
    exact this
  have i60 : ∀ S, m_is_braid [.d (.int 60), .d (.tuple (zd [59, -59]))] S = .rt (.bool true) S := fun S => by
    have := is_braid_d (n := 60) (by decide) (by decide) (ds := zd [59, -59]) (by decide) (by decide) S
    exact this
  have i1 : ∀ S, m_is_braid [.d (.int 1), .d (.tuple [])] S = .rt (.bool true) S := fun S => is_braid_d (n := 1) (by decide) (by decide) (ds := []) (by decide) (by decide) S
  refine ⟨_, ev_mk2 (S' := S'.take 0) rfl ?_ rfl⟩
  refine (es_seq a1).trans ((es_seq a2).trans ((es_seq a3).trans ((es_seq a4).trans ?_)))
  refine (es_seq ((es_for (ev_seqT (ev_var rfl))).trans el)).trans ?_
  refine (es_seq ((es_ifF (v_one h1 h8 hwl hw)).trans (es_nil _ _ _))).trans ?_
  refine (es_seq (es_asg (ev_call (ev_ac (ev_var rfl) (ev_a1 (ev_c _ _ _))) e3))).trans ?_
  refine (es_seq (es_asg (v_due h1 h8 hwl hw (m := m)))).trans ?_
  refine (es_seq ((es_ifF (v_two h1 h8 hwl hw (m := m))).trans (es_nil _ _ _))).trans ?_
  refine (es_seq ((es_ifF (v_three h1 h8 hwl hw)).trans (es_nil _ _ _))).trans ?_
  refine (es_seq (es_par (ev_ac (ev_fz (ev_lst (show aNil _ _ = _ from rfl) rfl (Nat.zero_le _))) (ev_a1 (ev_c _ _ _))))).trans ?_
  refine (es_seq ((es_for (rg rfl)).trans eg)).trans ?_
  refine (es_seq ((es_ifF (v_four h1 h8 hwl hw)).trans (es_nil _ _ _))).trans ?_
  refine (eab _).trans ?_
  refine (es_seq (es_asg et)).trans ?_
  refine (es_seq eif).trans ?_
  exact es_ret (S' := S') ((ev_andT (ev_call (ev_a1 (ev_var rfl)) er)).trans ((ev_andT (ev_op (c := .bool true) (ev_call (ev_ac (ev_c _ _ _) (ev_a1 (ev_tup (ds := zd [59, -59]) (ev_ac (ev_c _ _ _) (ev_a1 (ev_op (ev_c _ _ _) (ev_c _ _ _) rfl rfl rfl))) rfl l2s))) (i60 _)) (ev_c _ _ _) rfl rfl rfl)).trans (ev_op (c := .bool true) (ev_call (ev_ac (ev_c _ _ _) (ev_a1 (enil _ _))) (i1 _)) (ev_c _ _ _) rfl rfl rfl)))
end DL

end
set_option Elab.async false
set_option maxRecDepth 100000

open PySem PySem.W PyProof.Rows in
set_option maxRecDepth 100000 in
set_option maxHeartbeats 0 in
theorem PySem.Challenge.cw_deafneedle_k01_whole_words_of_braids_holds : PySem.Challenge.rw_deafneedle_k01_whole_words_of_braids.Holds := by
  w_on; o_law; k_head; (case hw => w_witness2)
  k_fill
  refine DL.law_walk (l := PySem.Challenge.rw_deafneedle_k01_whole_words_of_braids) (k := 14) rfl rfl ⟨rfl, by decide, by decide⟩ (fun w h Y => PySem.W.km_in_of Y) ?F
  case F =>
    intro w mg fa h Y KX G hmg
    refine' DL.law_at KX G hmg DL.law_true ?zb_abs ?zb_all ?zb_bool ?zb_int ?zb_isinstance ?zb_len ?zb_list ?zb_range ?zb_reversed ?zb_sorted ?zb_str ?zb_tuple ?zc_MOST_LETTERS ?zc_MOST_STRANDS ?a_is_integer ?l_is_integer ?c_c_is_integer ?k_is_integer ?a_is_strand_count ?l_is_strand_count ?c_c_is_strand_count ?k_is_strand_count ?a_is_letter ?l_is_letter ?c_c_is_letter ?k_is_letter ?a_is_braid ?l_is_braid ?c_c_is_braid ?k_is_braid ?a_check_braid ?l_check_braid ?c_c_check_braid ?k_check_braid ?a_standing ?l_standing ?c_c_standing ?k_standing ?a_ends ?l_ends ?c_c_ends ?k_ends ?a_opposite ?l_opposite ?c_c_opposite ?k_opposite ?a_freed ?l_freed ?c_c_freed ?k_freed ?a_moved_by ?l_moved_by ?c_c_moved_by ?k_moved_by ?a_letters_used ?l_letters_used ?c_c_letters_used ?k_letters_used ?a_blocks ?l_blocks ?c_c_blocks ?k_blocks ?a_block_word ?l_block_word ?c_c_block_word ?k_block_word ?a__law_next ?l__law_next ?c_c__law_next ?k__law_next ?a__law_same ?l__law_same ?c_c__law_same ?k__law_same ?a__law_asked ?l__law_asked ?c_c__law_asked ?k__law_asked ?a__law_word ?l__law_word ?c_c__law_word ?k__law_word ?a__law_size ?l__law_size ?c_c__law_size ?k__law_size ?a__law_bare ?l__law_bare ?c_c__law_bare ?k__law_bare ?a__law_refused ?l__law_refused ?c_c__law_refused ?k__law_refused ?xl__law_refused ?xp__law_refused ?xh__law_refused ?xn__law_refused ?xt__law_refused ?a_law ?l_law ?c_c_law ?k_law ?xl_law ?xp_law ?xh_law ?xn_law ?xt_law ?aC_InvalidBraid ?aC_TooLarge ?aC_StitchError ?cls_StitchError ?rv_StitchError ?sa_StitchError ?xb_StitchError ?tc_StitchError ?kc_StitchError ?fi__StitchError ?ft_StitchError ?fn_StitchError ?li_StitchError ?ci_StitchError ?lc_StitchError ?lv_StitchError ?ll_StitchError ?lk_StitchError ?st_StitchError ?np_StitchError ?nn_StitchError ?su_StitchError ?is_StitchError ?iv_StitchError ?xf_StitchError ?cls_InvalidBraid ?rv_InvalidBraid ?sa_InvalidBraid ?xb_InvalidBraid ?tc_InvalidBraid ?kc_InvalidBraid ?fi__InvalidBraid ?ft_InvalidBraid ?fn_InvalidBraid ?li_InvalidBraid ?ci_InvalidBraid ?lc_InvalidBraid ?lv_InvalidBraid ?ll_InvalidBraid ?lk_InvalidBraid ?st_InvalidBraid ?np_InvalidBraid ?nn_InvalidBraid ?su_InvalidBraid ?is_InvalidBraid ?iv_InvalidBraid ?up_InvalidBraid ?me_InvalidBraid ?xf_InvalidBraid ?cls_TooLarge ?rv_TooLarge ?sa_TooLarge ?xb_TooLarge ?tc_TooLarge ?kc_TooLarge ?fi__TooLarge ?ft_TooLarge ?fn_TooLarge ?li_TooLarge ?ci_TooLarge ?lc_TooLarge ?lv_TooLarge ?ll_TooLarge ?lk_TooLarge ?st_TooLarge ?np_TooLarge ?nn_TooLarge ?su_TooLarge ?is_TooLarge ?iv_TooLarge ?up_TooLarge ?me_TooLarge ?xf_TooLarge ?ex_0_0 ?ex_1_0 ?ex_1_1 ?ex_2_0 ?ex_2_1 ?ex_2_2 ?hsup ?hthird ?htop ?ne__law_refused_law
    (case zb_abs => k_is)
    (case zb_all => k_is)
    (case zb_bool => k_is)
    (case zb_int => k_is)
    (case zb_isinstance => k_is)
    (case zb_len => k_is)
    (case zb_list => k_is)
    (case zb_range => k_is)
    (case zb_reversed => k_is)
    (case zb_sorted => k_is)
    (case zb_str => k_is)
    (case zb_tuple => k_is)
    (case zc_MOST_LETTERS => k_is)
    (case zc_MOST_STRANDS => k_is)
    (case a_is_integer => k_is)
    (case l_is_integer => k_is)
    (case c_c_is_integer => k_is)
    (case k_is_integer => k_is)
    (case a_is_strand_count => k_is)
    (case l_is_strand_count => k_is)
    (case c_c_is_strand_count => k_is)
    (case k_is_strand_count => k_is)
    (case a_is_letter => k_is)
    (case l_is_letter => k_is)
    (case c_c_is_letter => k_is)
    (case k_is_letter => k_is)
    (case a_is_braid => k_is)
    (case l_is_braid => k_is)
    (case c_c_is_braid => k_is)
    (case k_is_braid => k_is)
    (case a_check_braid => k_is)
    (case l_check_braid => k_is)
    (case c_c_check_braid => k_is)
    (case k_check_braid => k_is)
    (case a_standing => k_is)
    (case l_standing => k_is)
    (case c_c_standing => k_is)
    (case k_standing => k_is)
    (case a_ends => k_is)
    (case l_ends => k_is)
    (case c_c_ends => k_is)
    (case k_ends => k_is)
    (case a_opposite => k_is)
    (case l_opposite => k_is)
    (case c_c_opposite => k_is)
    (case k_opposite => k_is)
    (case a_freed => k_is)
    (case l_freed => k_is)
    (case c_c_freed => k_is)
    (case k_freed => k_is)
    (case a_moved_by => k_is)
    (case l_moved_by => k_is)
    (case c_c_moved_by => k_is)
    (case k_moved_by => k_is)
    (case a_letters_used => k_is)
    (case l_letters_used => k_is)
    (case c_c_letters_used => k_is)
    (case k_letters_used => k_is)
    (case a_blocks => k_is)
    (case l_blocks => k_is)
    (case c_c_blocks => k_is)
    (case k_blocks => k_is)
    (case a_block_word => k_is)
    (case l_block_word => k_is)
    (case c_c_block_word => k_is)
    (case k_block_word => k_is)
    (case a__law_next => k_is)
    (case l__law_next => k_is)
    (case c_c__law_next => k_is)
    (case k__law_next => k_is)
    (case a__law_same => k_is)
    (case l__law_same => k_is)
    (case c_c__law_same => k_is)
    (case k__law_same => k_is)
    (case a__law_asked => k_is)
    (case l__law_asked => k_is)
    (case c_c__law_asked => k_is)
    (case k__law_asked => k_is)
    (case a__law_word => k_is)
    (case l__law_word => k_is)
    (case c_c__law_word => k_is)
    (case k__law_word => k_is)
    (case a__law_size => k_is)
    (case l__law_size => k_is)
    (case c_c__law_size => k_is)
    (case k__law_size => k_is)
    (case a__law_bare => k_is)
    (case l__law_bare => k_is)
    (case c_c__law_bare => k_is)
    (case k__law_bare => k_is)
    (case a__law_refused => k_is)
    (case l__law_refused => k_is)
    (case c_c__law_refused => k_is)
    (case k__law_refused => k_is)
    (case xl__law_refused => k_is)
    (case xp__law_refused => first | rfl | kernel_rfl)
    (case xh__law_refused => kernel_rfl)
    (case xn__law_refused => kernel_rfl)
    (case xt__law_refused => exact PySem.W.km_tabs_of Y _ (by first | simp | decide))
    (case a_law => k_is)
    (case l_law => k_is)
    (case c_c_law => k_is)
    (case k_law => k_is)
    (case xl_law => k_is)
    (case xp_law => first | rfl | kernel_rfl)
    (case xh_law => kernel_rfl)
    (case xn_law => kernel_rfl)
    (case xt_law => exact PySem.W.km_tabs_of Y _ (by first | simp | decide))
    (case aC_InvalidBraid => k_is)
    (case aC_TooLarge => k_is)
    (case aC_StitchError => k_is)
    (case cls_StitchError => k_is)
    (case rv_StitchError => first | rfl | kernel_rfl)
    (case sa_StitchError => k_is)
    (case xb_StitchError => k_is)
    (case tc_StitchError => k_is)
    (case kc_StitchError => k_is)
    (case fi__StitchError => k_is)
    (case ft_StitchError => k_is)
    (case fn_StitchError => k_is)
    (case li_StitchError => k_is)
    (case ci_StitchError => k_is)
    (case lc_StitchError => k_is)
    (case lv_StitchError => first | rfl | kernel_rfl)
    (case ll_StitchError => k_is)
    (case lk_StitchError => k_is)
    (case st_StitchError => exact fun _ => ⟨_, rfl⟩)
    (case np_StitchError => k_is)
    (case nn_StitchError => k_is)
    (case su_StitchError => kernel_rfl)
    (case is_StitchError => k_is)
    (case iv_StitchError => k_is)
    (case xf_StitchError => kernel_rfl)
    (case cls_InvalidBraid => k_is)
    (case rv_InvalidBraid => first | rfl | kernel_rfl)
    (case sa_InvalidBraid => k_is)
    (case xb_InvalidBraid => k_is)
    (case tc_InvalidBraid => k_is)
    (case kc_InvalidBraid => k_is)
    (case fi__InvalidBraid => k_is)
    (case ft_InvalidBraid => k_is)
    (case fn_InvalidBraid => k_is)
    (case li_InvalidBraid => k_is)
    (case ci_InvalidBraid => k_is)
    (case lc_InvalidBraid => k_is)
    (case lv_InvalidBraid => first | rfl | kernel_rfl)
    (case ll_InvalidBraid => k_is)
    (case lk_InvalidBraid => k_is)
    (case st_InvalidBraid => exact fun _ => ⟨_, rfl⟩)
    (case np_InvalidBraid => k_is)
    (case nn_InvalidBraid => k_is)
    (case su_InvalidBraid => kernel_rfl)
    (case is_InvalidBraid => k_is)
    (case iv_InvalidBraid => k_is)
    (case up_InvalidBraid => kernel_rfl)
    (case me_InvalidBraid => k_is)
    (case xf_InvalidBraid => kernel_rfl)
    (case cls_TooLarge => k_is)
    (case rv_TooLarge => first | rfl | kernel_rfl)
    (case sa_TooLarge => k_is)
    (case xb_TooLarge => k_is)
    (case tc_TooLarge => k_is)
    (case kc_TooLarge => k_is)
    (case fi__TooLarge => k_is)
    (case ft_TooLarge => k_is)
    (case fn_TooLarge => k_is)
    (case li_TooLarge => k_is)
    (case ci_TooLarge => k_is)
    (case lc_TooLarge => k_is)
    (case lv_TooLarge => first | rfl | kernel_rfl)
    (case ll_TooLarge => k_is)
    (case lk_TooLarge => k_is)
    (case st_TooLarge => exact fun _ => ⟨_, rfl⟩)
    (case np_TooLarge => k_is)
    (case nn_TooLarge => k_is)
    (case su_TooLarge => kernel_rfl)
    (case is_TooLarge => k_is)
    (case iv_TooLarge => k_is)
    (case up_TooLarge => kernel_rfl)
    (case me_TooLarge => k_is)
    (case xf_TooLarge => kernel_rfl)
    (case ex_0_0 => kernel_rfl)
    (case ex_1_0 => kernel_rfl)
    (case ex_1_1 => kernel_rfl)
    (case ex_2_0 => kernel_rfl)
    (case ex_2_1 => kernel_rfl)
    (case ex_2_2 => kernel_rfl)
    (case hsup => k_is)
    (case hthird => k_is)
    (case htop => first | rfl | decide +kernel | kernel_rfl)
    (case ne__law_refused_law => decide)


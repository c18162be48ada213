import PyProof.Rows.All
import Wide.All
import OpenK.AllK
import Wide.FinOn
import HandS.ForMost
import HandS.More
import HandS.SortRule
import HandS.IsInst
import HandS.DictComp
import HandS.DictEq
import HandS.Finally
import HandS.Wide
import HandS.Walk
import HandS.Zip
import KE.KTupSum
import KE.KEqNest
import KE.KDictZip
import KE.KItemsList
import HandS.ListItems
import HandS.Codes
import PySem.Challenge.RW_heedwise_k81_what_a_book_says
set_option Elab.async false
set_option linter.all false
set_option maxRecDepth 100000
set_option maxHeartbeats 4000000
/-! Own rules of the layer that this law needs: a chain of three comparisons, *= of great ints, sum of a tuple, list.remove of a text, != of two pairs (dict, int) that are equal. -/
namespace K8
open PySem PySem.Spec PyProof.Rows L2
section
variable {X : Cx} {a b c d : Expr} {ta tb tc td : TE} {pos : Pos}

/-! ### a op b op c op d, as a test -/
def tChain3 (r r' r'' : R2) (ta tb tc td : TE) : TT := fun σ H Q => ta σ H fun x H1 => tb σ H1 fun y H2 => r x y H2 fun z H3 => ∃ k, z = .bl k ∧
  (if k = true then tc σ H3 fun u H4 => r' y u H4 fun z' H5 => ∃ k', z' = .bl k' ∧
    (if k' = true then td σ H5 fun v H6 => r'' u v H6 fun z'' H7 => ∃ k'', z'' = .bl k'' ∧ Q k'' H7 else Q false H5) else Q false H3)
theorem pt_chain3 {op op' op'' : CmpOp} {r r' r'' : R2} (ho : OpR X (compareOp op) r) (ho' : OpR X (compareOp op') r') (ho'' : OpR X (compareOp op'') r'') (ha : PE X a ta) (hb : PE X b tb) (hc : PE X c tc) (hd : PE X d td)
    (hm : lastMarks [op, op', op''] [b, c, d] = false := by with_unfolding_all rfl) : PT X (.Compare a [op, op', op''] [b, c, d] pos) (tChain3 r r' r'' ta tb tc td) := by
  refine ⟨fun pins s σ H Q I h => ?_⟩
  refine isTrue_chain (thn (ha.run pins s σ H _ I h) fun v s1 ⟨x, H1, I1, r1, q1⟩ => test_link (thn (hb.run pins s1 σ H1 _ I1 q1) fun u s2 ⟨y, H2, I2, r2, q2⟩ =>
    thn (ho pins s2 σ H2 x y v u _ I2 r1 r2 q2) fun d0 s3 ⟨z, H3, I3, r3, k, e, q3⟩ => ?_)) hm
  subst e
  cases r3
  refine wpAny_truthy_bool ?_
  cases k with
  | false => exact ite_ff ⟨H3, I3, q3⟩
  | true =>
    refine ite_tt (test_link (thn (hc.run pins s3 σ H3 _ I3 q3) fun w' s4 ⟨z', H4, I4, r4, q4⟩ => thn (ho' pins s4 σ H4 y z' u w' _ I4 r2 r4 q4) fun d' s5 ⟨z2, H5, I5, r5, k2, e2, q5⟩ => ?_))
    subst e2
    cases r5
    refine wpAny_truthy_bool ?_
    cases k2 with
    | false => exact ite_ff ⟨H5, I5, q5⟩
    | true =>
      refine ite_tt (test_last (thn (hd.run pins s5 σ H5 _ I5 q5) fun w2 s6 ⟨z3, H6, I6, r6, q6⟩ => thn (ho'' pins s6 σ H6 z' z3 w' w2 _ I6 r4 r6 q6) fun d2 s7 ⟨z4, H7, I7, r7, k3, e3, q7⟩ => ?_))
      subst e3
      cases r7
      exact wpAny_truthy_bool ⟨H7, I7, q7⟩

/-! ### great ints: x *= y -/
def rMulW : V → V → Hp → VK → Prop := fun x y H Q => ∃ i j, x = .int i ∧ y = .int j ∧ CMulW i j ∧ Q (.int (i * j)) H
theorem in_mulW : InOp X .Mult rMulW := by
  rintro pins s σ H x y u v Q I rx ry ⟨i, j, rfl, rfl, hc, q⟩
  obtain ⟨t, rfl⟩ := (show ∃ t, u = Value.int i t from rx)
  obtain ⟨t', rfl⟩ := (show ∃ t', v = Value.int j t' from ry)
  exact PyProof.Rows.imul_int ⟨.int (i * j), H, I.tok _, ⟨_, rfl⟩, q⟩ hc.ok

/-! ### sum of a tuple of ints -/
def rSumT (K : PySem.W.Frag) : List V → Hp → VK → Prop := fun vs H Q => ∃ (a : Addr) (ns : List Int), vs = [V.ref a] ∧ SqT K H a (ns.map V.int) ∧ Q (.int ns.sum) H
theorem cr_sumT (hc : X.calm = true) : CallR X (.builtin "sum") (rSumT X.K) := by
  intro pins s σ H vs us Q I r h
  obtain ⟨a, ns, rfl, hs, q⟩ := h
  obtain ⟨its, rv, ht, _⟩ := I.tuple hs
  rw [Vals.ref1 r]
  have hi : IntsAre its ns := rv.ints
  have hl : s.heap.IsTuple a its.toArray := ht
  obtain ⟨xs, hx⟩ := hi.allInts.items
  have hn : numsOf its.toArray.toList = ns := by rw [show its.toArray.toList = its from rfl, hi.numsOf]
  rw [hx] at hl hn
  rw [nums_intItems] at hn
  refine PySem.W.ktm_sumG (I.ok.hd hc) hl fun h' tk t' hk => ?_
  rw [preSum_eq, List.take_of_length_le (by simp), hn]
  exact ⟨.int _, H, I.kept hk, ⟨_, rfl⟩, q⟩

/-! ### xs.remove(x), texts, x in xs -/
theorem first_atS : ∀ {ns : List Str} {k : Str}, k ∈ ns → ∃ j, j < ns.length ∧ ns[j]? = some k ∧ (∀ i, i < j → ns[i]? ≠ some k) ∧ ns.eraseIdx j = ns.erase k
  | [], k, h => absurd h (by simp)
  | a :: r, k, h => by
    by_cases e : a = k
    · refine ⟨0, Nat.succ_pos _, by rw [e] <;> rfl, fun i hi => absurd hi (Nat.not_lt_zero _), ?_⟩
      rw [e, List.erase_cons_head] <;> rfl
    · have hr : k ∈ r := by
        rcases List.mem_cons.mp h with z | z
        · exact absurd z.symm e
        · exact z
      obtain ⟨j, h1, h2, h3, h4⟩ := first_atS hr
      refine ⟨j + 1, Nat.succ_lt_succ h1, h2, fun i hi => ?_, ?_⟩
      · cases i with
        | zero =>
          intro z
          exact e (Option.some.inj z)
        | succ i => exact h3 i (Nat.lt_of_succ_lt_succ hi)
      · rw [List.erase_cons_tail (by rw [beq_iff_eq]; exact e), ← h4] <;> rfl
theorem map_eraseIdxS (f : Str → V) : ∀ (ns : List Str) (j : Nat), (ns.map f).eraseIdx j = (ns.eraseIdx j).map f
  | [], _ => rfl
  | _ :: _, 0 => rfl
  | n :: r, j + 1 => by
    show f n :: (r.map f).eraseIdx j = f n :: (r.eraseIdx j).map f
    rw [map_eraseIdxS f r j]
theorem isStrOf_at (k : Str) : ∀ {vs : List Value} {ns : List Str}, StrsAre vs ns → ∀ (i : Nat) (h : i < vs.length), isStrOf k vs[i] = true ↔ ns[i]? = some k
  | _, _, .nil, i, h => absurd h (by simp)
  | _, _, .cons n t hr, 0, _ => by
    show (n == k) = true ↔ some n = some k
    rw [beq_iff_eq, Option.some_inj]
  | _, _, .cons n t hr, i + 1, h => isStrOf_at k hr i (Nat.lt_of_succ_lt_succ h)
def rRemS : V → List V → Hp → VK → Prop := fun x vs H Q => ∃ (l : Addr) (ns : List Str) (k : Str), x = .ref l ∧ vs = [.str k] ∧ H l = some (.lst (ns.map V.str)) ∧ k ∈ ns ∧ Q .non (upd H l (.lst ((ns.erase k).map V.str)))
theorem mt_removeS : MtR X "list.remove" rRemS := by
  intro pins s σ H x vs v us Q I rx rv h
  obtain ⟨l, ns, k, rfl, rfl, hH, hk, qy⟩ := h
  cases (show v = Value.ref l from rx)
  obtain ⟨u, rfl, ru⟩ := rv.one
  obtain ⟨t, rfl⟩ := (show ∃ t, u = Value.str k t from ru)
  obtain ⟨z, its, n, r, hl, e0⟩ := I.lstM hH
  have hi : StrsAre its ns := r.strs
  have heq := eq_isStrOf k t hi
  have hnl : ns.length = its.length := by rw [← hl, List.length_map]
  have hsz : its.toArray.size ≤ sizeLine := by rw [List.size_toArray, ← hl]; exact z
  obtain ⟨j, j1, j2, j3, j4⟩ := first_atS hk
  have hj : j < its.length := by omega
  refine call_meets PySem.F.slot_list_remove ⟨_, e0, rfl⟩ PySem.F.entry_list_remove (PySem.F.args_list_remove_2 _ _)
    (MeetsSeq.list_remove l its.toArray n (.str k t) (isStrOf k) (fun y hy => heq y (by simpa using hy)) j (by rw [List.size_toArray]; exact hj) ?hit (fun i hi2 hlt => ?hno) hsz) ⟨e0, ?_⟩
  case hit =>
    show isStrOf k its[j] = true
    exact (isStrOf_at k hi j hj).mpr j2
  case hno =>
    have hi3 : i < its.length := by rw [List.size_toArray] at hi2; exact hi2
    show isStrOf k its[i] = false
    rw [Bool.eq_false_iff]
    intro w
    exact j3 i hlt ((isStrOf_at k hi i hi3).mp w)
  have r2 : Vals ((ns.erase k).map V.str) (its.eraseIdx j) := by
    have w := r.eraseIdx j
    rw [map_eraseIdxS, j4] at w
    exact w
  refine ⟨.non, _, I.lset (its' := its.eraseIdx j) hH e0 ?_ r2 ?_, rfl, qy⟩
  · show its.toArray.eraseIdxIfInBounds j = (its.eraseIdx j).toArray
    rw [List.eraseIdxIfInBounds_toArray]
  · rw [List.length_map]
    have := List.length_erase_le (a := k) (l := ns)
    rw [List.length_map] at z
    omega
end
end K8

set_option Elab.async false
set_option linter.all false
set_option maxRecDepth 100000
set_option maxHeartbeats 4000000
/-! != of two pairs (a dict, an int) that hold the same. -/
namespace K8
open PySem PySem.Spec PyProof.Rows L2
section
open PySem.SeqAt AutoSeq1 MeetsSeq MeetsSeq2 MeetsSeq3 SeqRoads2
variable {prog : Program} {w : World}
theorem tuple_neIn (l b : Addr) (items items2 : Array Value) (n n2 : Nat) (dd dd2 : Option Addr) (sl sl2 : Array (Option Value)) (e : Nat → Bool) :
    MeetsIn prog w (Builtin.«tuple.__ne__» ⟨[.ref l, .ref b], []⟩)
      (fun A R s => s.heap.get? l = some { cls := .type "tuple", dict := dd, data := .seq items n, slots := sl } ∧ s.heap.get? b = some { cls := .type "tuple", dict := dd2, data := .seq items2 n2, slots := sl2 } ∧
        (∀ j (h1 : j < items.size) (h2 : j < items2.size), EqIn prog w A.in1 s items[j] items2[j] (e j)) ∧
        R (.ok (.ret (.bool (!((List.range (min items.size items2.size)).all e && items.size == items2.size))))) s) :=
  .of_wp fun A R s h => by
    obtain ⟨hp, g, d, tk, os⟩ := s; obtain ⟨hl, hb, he, h⟩ := h
    have f2 := AutoSeq1.sub_tuple_tuple
    have hZ : (items.toList.zip items2.toList).length = min items.size items2.size := by simp
    wp_walk using wpAny_loadPart' hl, wpAny_loadPart' hb, wpAny_forIn_list _ (fun rest b s' => b.1 = none ∧ s' = ⟨hp, g, d, tk, os⟩ ∧ ∃ i, rest = (items.toList.zip items2.toList).drop i ∧
      R (.ok (.ret (.bool (!(((List.range (min items.size items2.size)).drop i).all e && items.size == items2.size))))) ⟨hp, g, d, tk, os⟩) _
    case turn =>
      rintro ⟨y, x⟩ rest b s' ⟨hb', rfl, i, hz, hR⟩
      have hlt : i < (items.toList.zip items2.toList).length := by
        rcases Nat.lt_or_ge i (items.toList.zip items2.toList).length with h' | h'
        · exact h'
        · rw [List.drop_of_length_le h'] at hz; cases hz
      have hm : i < min items.size items2.size := hZ ▸ hlt
      have h1 : i < items.size := Nat.lt_of_lt_of_le hm (Nat.min_le_left _ _)
      have h2 : i < items2.size := Nat.lt_of_lt_of_le hm (Nat.min_le_right _ _)
      rw [List.drop_eq_getElem_cons hlt] at hz
      injection hz with hyx hrest
      have hy : y = items[i] := by have := congrArg Prod.fst hyx; simpa using this
      have hx : x = items2[i] := by have := congrArg Prod.snd hyx; simpa using this
      subst hy hx
      have hd : (List.range (min items.size items2.size)).drop i = i :: (List.range (min items.size items2.size)).drop (i + 1) := by simp [List.drop_eq_getElem_cons, hm]
      rw [hd, List.all_cons] at hR
      refine wpAny_bind (he i h1 h2 _ _ ?_)
      cases hy : e i with
      | true =>
        rw [hy] at hR
        wp_walk
        exact ⟨rfl, rfl, i + 1, hrest, by simpa using hR⟩
      | false =>
        rw [hy] at hR
        wp_walk
        exact ⟨_, rfl, by simpa using hR⟩
    case fin =>
      rintro ⟨b1, b2⟩ s' ⟨hb', rfl, i, hz, hR⟩
      simp only at hb'
      subst hb'
      have hge : min items.size items2.size ≤ i := by
        rcases Nat.lt_or_ge i (items.toList.zip items2.toList).length with h' | h'
        · rw [List.drop_eq_getElem_cons h'] at hz; cases hz
        · exact hZ ▸ h'
      rw [List.drop_of_length_le (by simpa using hge)] at hR
      wp_walk
      exact ⟨_, rfl, by simpa [Builtin.Tuple.tupleCompareSizes, bne] using hR⟩
    case h =>
      exact ⟨rfl, rfl, 0, rfl, by simpa using h⟩
theorem rcIn_tuples_ne {A : Around} {s : Shared} {E : Value → Shared → Prop} {l b : Addr} {items items2 : Array Value} {e : Nat → Bool} {Q : Value → Shared → Prop} (hl : s.heap.IsTuple l items) (hb : s.heap.IsTuple b items2) (hu : A.units < cLine)
    (he : ∀ j (h1 : j < items.size) (h2 : j < items2.size), EqIn prog w A.in1 s items[j] items2[j] (e j)) (h : Q (.bool (!((List.range (min items.size items2.size)).all e && items.size == items2.size))) s) :
    wpAny (model prog w) A (richCompare .NotEq (.ref l) (.ref b)) Q E s := by
  obtain ⟨⟨cls, dd, data, sl⟩, ho, hc, n, hd⟩ := id hl
  obtain ⟨⟨cls2, dd2, data2, sl2⟩, ho2, hc2, n2, hd2⟩ := id hb
  simp only at hc hd hc2 hd2
  subst hc hd hc2 hd2
  exact wpAny_richCompare_same_room (T := "tuple") (op := .NotEq) ⟨_, ho, rfl⟩ ⟨_, ho2, rfl⟩ F.slot_tuple_ne (call_meetsIn F.slot_tuple_ne ⟨_, ho, rfl⟩ F.entry_tuple_ne (F.args_tuple_ne_2 _ _) (tuple_neIn l b items items2 n n2 dd dd2 sl sl2 e)
    ⟨ho, ho2, he, show Value.bool (!((List.range (min items.size items2.size)).all e && items.size == items2.size)) ≠ Value.notImplemented ∧ Q (.bool (!((List.range (min items.size items2.size)).all e && items.size == items2.size))) s from ⟨(fun x => nomatch x), h⟩⟩) hu
end
section
variable {X : Cx}
/-- (d, n) != (e, n), d and e dicts of the same entries -/
def rNeTD (K : PySem.W.Frag) : R2 := fun x y H Q => ∃ (a b d e : Addr) (ks : List (Key × V)) (n : Int), x = .ref a ∧ y = .ref b ∧ SqT K H a [.ref d, .int n] ∧ SqT K H b [.ref e, .int n] ∧ d ≠ e ∧ H d = some (.dK ks) ∧ H e = some (.dK ks) ∧
  (∀ p ∈ ks, valV ks p.1 = some p.2 ∧ flatB p.2 = true) ∧ Q (.bl false) H
theorem op_neTD (hu : X.A.units + 64 < cLine) : OpR X (compareOp .NotEq) (rNeTD X.K) := by
  intro pins s σ H x y v u Q I rx ry h
  obtain ⟨a, b, d, e, ks, n, rfl, rfl, ha, hb, hne, ed, ee, hp, q⟩ := h
  obtain rfl : v = Value.ref a := rx
  obtain rfl : u = Value.ref b := ry
  obtain ⟨i1, r1, t1, _⟩ := I.tuple ha
  obtain ⟨i2, r2, t2, _⟩ := I.tuple hb
  obtain ⟨u1, u2, rfl, ru1, ru2⟩ := vals2 r1
  obtain ⟨w1, w2, rfl, rw1, rw2⟩ := vals2 r2
  obtain rfl : u1 = Value.ref d := ru1
  obtain rfl : w1 = Value.ref e := rw1
  obtain ⟨tk1, rfl⟩ := (show ∃ t, u2 = Value.int n t from ru2)
  obtain ⟨tk2, rfl⟩ := (show ∃ t, w2 = Value.int n t from rw2)
  obtain ⟨_, ya, va, ra, da⟩ := (show ObjOk X.prog X.w H s.heap d (.dK ks) from I.hok d _ ed)
  obtain ⟨_, yb, vb, rb, db⟩ := (show ObjOk X.prog X.w H s.heap e (.dK ks) from I.hok e _ ee)
  have hl : va.length = vb.length := by rw [← ra.length, ← rb.length]
  refine rcIn_tuples_ne (e := fun _ => true) (show s.heap.IsTuple a _ from t1) (show s.heap.IsTuple b _ from t2) (by omega) (fun j h1 h2 => ?_) ⟨.bl false, H, I, rfl, q⟩
  have hj : j < 2 := by simpa using h1
  rcases (show j = 0 ∨ j = 1 by omega) with rfl | rfl
  · refine PySem.SeqAt.EqIn.of_refs hne fun E' Q' hq => ?_
    refine PySem.W.keq_eq (knd := mixKind X.prog X.w) (r := true) ya yb da db (by show X.A.units + 1 < cLine; omega) (fun _ => hits_all rb ra hp) ?_
    rw [show (va.length == vb.length && true) = true from by rw [hl]; simp]
    exact hq
  · have e1 := SeqAt.EqAt.int_int (A := X.A.in1) (s := s) n tk1 n tk2
    have e2 : (n == n) = true := by simp
    rw [e2] at e1
    exact e1.inModel _ _
end
end K8

set_option Elab.async false
set_option linter.all false
set_option maxRecDepth 100000
set_option maxHeartbeats 4000000
/-! list(zip(a, b)) of two tuples: a new list of new pairs. -/
namespace K8
open PySem PySem.Spec PyProof.Rows L2
open PySem.Sem (wp)
section
variable {prog : Program} {w : World} {A : Around} {E : Value → Shared → Prop} {s : Shared}
/-- zip.__next__ while the pair that went out before is still there -/
theorem zipT_item_held {z TI TO T i1 i2 l1 l2 : Addr} {f : Bool} {oT : Obj} {k1 k2 : Nat} {xs ys : Array Value} {x y : Value} {Q : Value → Shared → Prop} (D : ZipApart z TI TO i1 i2 l1 l2)
    (hz : IsZipHeld s.heap z TI TO T f) (hT : s.heap.get? T = some oT) (hTI : IsPair s.heap TI (.ref i1) (.ref i2))
    (h1 : s.heap.IsTupleIter i1 l1 k1) (h2 : s.heap.IsTupleIter i2 l2 k2) (hl1 : s.heap.IsTuple l1 xs) (hl2 : s.heap.IsTuple l2 ys) (hx : xs[k1]? = some x) (hy : ys[k2]? = some y)
    (hQ : ∀ h', IsZipHeld h' z TI TO T true → h'.IsTupleIter i1 l1 (k1 + 1) → h'.IsTupleIter i2 l2 (k2 + 1) → IsPair h' s.heap.objs.size x y → h'.objs.size = s.heap.objs.size + 1 →
      (∀ c o, c ≠ z → c ≠ i1 → c ≠ i2 → s.heap.get? c = some o → h'.get? c = some o) → Q (.ref s.heap.objs.size) { s with heap := h' }) :
    wpAny (model prog w) A (Builtin.«zip.__next__» ⟨[.ref z], []⟩) (fun fin s' => ∃ v, fin = .done (.ret v) ∧ Q v s') E s := by
  show wpAny _ _ (field (.ref z) 2 >>= _) _ _ _
  refine wpAny_bind (wpAny_field hz rfl (x := .bool false) rfl ?_)
  show wpAny _ _ (field (.ref z) 3 >>= _) _ _ _
  refine wpAny_bind (wpAny_field hz rfl (x := .ref TI) rfl ?_)
  refine wpAny_bind (wpAny_seqItems hTI rfl ?_)
  show wpAny _ _ (Builtin.SmallTypes.ownedTupleIsFree (.ref z) >>= _) _ _ _
  refine wpAny_bind (wpAny_tupleHeld_zip hz hT fun h₁ hz₁ hs₁ => ?_)
  simp only [Bool.false_eq_true, if_false]
  refine wpAny_bind ?_
  rw [← Array.forIn_toList]
  simp only [List.forIn_cons, List.forIn_nil]
  refine wpAny_bind (wpAny_bind (wpAny_holding ?_))
  show wpAny _ _ (Builtin.SmallTypes.nextOf (.ref i1) >>= _) _ _ _
  refine wpAny_bind (RZ.nextOf_tuple_item (s := { s with heap := h₁ }) (h1.extBut hs₁.extBut D.i1z) (hl1.extBut hs₁.extBut D.l1z) hx fun h₂ h1₂ hs₂ => wpAny_pure ?_)
  refine wpAny_pure ?_
  refine wpAny_bind (wpAny_bind (wpAny_holding ?_))
  show wpAny _ _ (Builtin.SmallTypes.nextOf (.ref i2) >>= _) _ _ _
  refine wpAny_bind (RZ.nextOf_tuple_item (s := { s with heap := h₂ }) ((h2.extBut hs₁.extBut D.i2z).extBut hs₂.extBut D.i12.symm) ((hl2.extBut hs₁.extBut D.l2z).extBut hs₂.extBut D.l2i1) hy fun h₃ h2₃ hs₃ => wpAny_pure ?_)
  refine wpAny_pure (wpAny_pure ?_)
  show wpAny _ _ (newTuple [x, y] >>= _) _ _ _
  refine wpAny_bind (wpAny_newTuple ?_)
  have hsz : h₃.objs.size = s.heap.objs.size := by rw [hs₃.1, hs₂.1, hs₁.1]
  have hz₃ : IsZipHeld h₃ z TI TO T true := hs₃.extBut _ _ D.i2z.symm (hs₂.extBut _ _ D.i1z.symm hz₁)
  have hk : ∀ c o, c ≠ z → c ≠ i1 → c ≠ i2 → s.heap.get? c = some o → h₃.get? c = some o := fun c o c1 c2 c3 e => hs₃.extBut _ _ c3 (hs₂.extBut _ _ c2 (hs₁.extBut _ _ c1 e))
  have h1₃ : h₃.IsTupleIter i1 l1 (k1 + 1) := h1₂.extBut hs₃.extBut D.i12
  refine wpAny_pure ⟨_, rfl, ?_⟩
  show Q (.ref h₃.objs.size) _
  have hp : IsPair (h₃.push { cls := .type "tuple", data := .seq #[x, y] }) h₃.objs.size x y := Heap.get?_push_size _ rfl
  have hz4 : (h₃.push { cls := .type "tuple", data := .seq #[x, y] }).objs.size = h₃.objs.size + 1 := Heap.size_push ..
  rw [hsz] at hp hz4 ⊢
  exact hQ _ (Heap.get?_push_of_some _ hz₃) (h1₃.at fun o e => Heap.get?_push_of_some _ e) (h2₃.at fun o e => Heap.get?_push_of_some _ e) hp hz4 fun c o c1 c2 c3 e => Heap.get?_push_of_some _ (hk c o c1 c2 c3 e)
theorem zipT_end_held {z TI TO T i1 i2 l1 l2 : Addr} {f : Bool} {oT : Obj} {k1 k2 : Nat} {xs ys : Array Value} {Q : Fin → Shared → Prop} (hh : A.handled = none) (D : ZipApart z TI TO i1 i2 l1 l2)
    (hz : IsZipHeld s.heap z TI TO T f) (hT : s.heap.get? T = some oT) (hTI : IsPair s.heap TI (.ref i1) (.ref i2))
    (h1 : s.heap.IsTupleIter i1 l1 k1) (hl1 : s.heap.IsTuple l1 xs) (hx : xs[k1]? = none)
    (hE : ∀ h' e, (∀ c o, c ≠ z → c ≠ i1 → c ≠ i2 → s.heap.get? c = some o → h'.get? c = some o) → (∃ o, h'.get? e = some o ∧ o.cls = .type "StopIteration") → E (.ref e) { s with heap := h' }) :
    wpAny (model prog w) A (Builtin.«zip.__next__» ⟨[.ref z], []⟩) Q E s := by
  show wpAny _ _ (field (.ref z) 2 >>= _) _ _ _
  refine wpAny_bind (wpAny_field hz rfl (x := .bool false) rfl ?_)
  show wpAny _ _ (field (.ref z) 3 >>= _) _ _ _
  refine wpAny_bind (wpAny_field hz rfl (x := .ref TI) rfl ?_)
  refine wpAny_bind (wpAny_seqItems hTI rfl ?_)
  show wpAny _ _ (Builtin.SmallTypes.ownedTupleIsFree (.ref z) >>= _) _ _ _
  refine wpAny_bind (wpAny_tupleHeld_zip hz hT fun h₁ hz₁ hs₁ => ?_)
  simp only [Bool.false_eq_true, if_false]
  refine wpAny_bind ?_
  rw [← Array.forIn_toList]
  simp only [List.forIn_cons, List.forIn_nil]
  refine wpAny_bind (wpAny_bind (wpAny_holding ?_))
  show wpAny _ _ (Builtin.SmallTypes.nextOf (.ref i1) >>= _) _ _ _
  refine wpAny_bind (RZ.nextOf_tuple_end (s := { s with heap := h₁ }) hh (h1.extBut hs₁.extBut D.i1z) (hl1.extBut hs₁.extBut D.l1z) hx fun h₂ e hs₂ he => ?_)
  exact hE h₂ e (fun c o c1 c2 _ x => hs₂ _ _ c2 (hs₁.extBut _ _ c1 x)) he
theorem pyNext_zipT_item_held {z TI TO T i1 i2 l1 l2 : Addr} {f : Bool} {oT : Obj} {k1 k2 : Nat} {xs ys : Array Value} {x y : Value} {Q : Option Value → Shared → Prop} (D : ZipApart z TI TO i1 i2 l1 l2)
    (hz : IsZipHeld s.heap z TI TO T f) (hT : s.heap.get? T = some oT) (hTI : IsPair s.heap TI (.ref i1) (.ref i2))
    (h1 : s.heap.IsTupleIter i1 l1 k1) (h2 : s.heap.IsTupleIter i2 l2 k2) (hl1 : s.heap.IsTuple l1 xs) (hl2 : s.heap.IsTuple l2 ys) (hx : xs[k1]? = some x) (hy : ys[k2]? = some y)
    (hQ : ∀ h', IsZipHeld h' z TI TO T true → h'.IsTupleIter i1 l1 (k1 + 1) → h'.IsTupleIter i2 l2 (k2 + 1) → IsPair h' s.heap.objs.size x y → h'.objs.size = s.heap.objs.size + 1 →
      (∀ c o, c ≠ z → c ≠ i1 → c ≠ i2 → s.heap.get? c = some o → h'.get? c = some o) → Q (some (.ref s.heap.objs.size)) { s with heap := h' }) :
    wpAny (model prog w) A (pyNext (.ref z)) Q E s := by
  have hTy : s.TypeIs (.ref z) "zip" := ⟨_, hz, rfl⟩
  unfold pyNext
  exact wpAny_bind (wpAny_attempt (wpAny_callSpecial?_slot (name := Str.ofString "__next__") hTy F.slot_zip_next
    (wpAny_call_entry F.slot_zip_next hTy F.entry_zip_next
      (zipT_item_held D hz hT hTI h1 h2 hl1 hl2 hx hy fun h' a1 a3 a4 a5 a6 a7 => wpAny_pure (hQ h' a1 a3 a4 a5 a6 a7)) (F.args_zip_next_1 _))))
theorem pyNext_zipT_end_held {z TI TO T i1 i2 l1 l2 : Addr} {f : Bool} {oT : Obj} {k1 k2 : Nat} {xs ys : Array Value} {Q : Option Value → Shared → Prop} (hh : A.handled = none) (D : ZipApart z TI TO i1 i2 l1 l2)
    (hz : IsZipHeld s.heap z TI TO T f) (hT : s.heap.get? T = some oT) (hTI : IsPair s.heap TI (.ref i1) (.ref i2))
    (h1 : s.heap.IsTupleIter i1 l1 k1) (hl1 : s.heap.IsTuple l1 xs) (hx : xs[k1]? = none)
    (hQ : ∀ h', (∀ c o, c ≠ z → c ≠ i1 → c ≠ i2 → s.heap.get? c = some o → h'.get? c = some o) → Q none { s with heap := h' }) : wpAny (model prog w) A (pyNext (.ref z)) Q E s := by
  have hTy : s.TypeIs (.ref z) "zip" := ⟨_, hz, rfl⟩
  unfold pyNext
  refine wpAny_bind (wpAny_attempt (wpAny_callSpecial?_slot (name := Str.ofString "__next__") hTy F.slot_zip_next
    (wpAny_call_entry F.slot_zip_next hTy F.entry_zip_next (zipT_end_held (ys := ys) (k2 := k2) (l2 := l2) hh D hz hT hTI h1 hl1 hx fun h' e hk he => ?_) (F.args_zip_next_1 _))))
  obtain ⟨o, ho, hc⟩ := he
  refine wpAny_bind (wpAny_isInstance (T := "StopIteration") (b := true) ⟨o, ho, hc⟩ isSubtype_stop ?_)
  exact wpAny_pure (hQ _ hk)

/-- the iterator ahead of turn i; S: the list that grows -/
structure ZSt (h : Heap) (z TI TO i1 i2 l1 l2 S : Addr) (xs ys : Array Value) (i : Nat) : Prop where
  ti : IsPair h TI (.ref i1) (.ref i2)
  h1 : h.IsTupleIter i1 l1 i
  h2 : h.IsTupleIter i2 l2 i
  a1 : h.IsTuple l1 xs
  a2 : h.IsTuple l2 ys
  zz : (IsZip h z TI TO .none ∧ ∃ a b, IsPair h TO a b) ∨ ∃ T f oT, IsZipHeld h z TI TO T f ∧ h.get? T = some oT ∧ T ≠ z ∧ T ≠ i1 ∧ T ≠ i2 ∧ T ≠ S
theorem ZSt.keep {h h' : Heap} {z TI TO i1 i2 l1 l2 S : Addr} {xs ys : Array Value} {i : Nat} (x : ZSt h z TI TO i1 i2 l1 l2 S xs ys i) (hk : ∀ b o, b ≠ S → h.get? b = some o → h'.get? b = some o)
    (n1 : z ≠ S) (n2 : TI ≠ S) (n3 : TO ≠ S) (n4 : i1 ≠ S) (n5 : i2 ≠ S) (n6 : l1 ≠ S) (n7 : l2 ≠ S) : ZSt h' z TI TO i1 i2 l1 l2 S xs ys i := by
  obtain ⟨ti, h1, h2, a1, a2, zz⟩ := x
  refine ⟨hk _ _ n2 ti, h1.at fun o e => hk _ o n4 e, h2.at fun o e => hk _ o n5 e, a1.at fun o e => hk _ o n6 e, a2.at fun o e => hk _ o n7 e, ?_⟩
  rcases zz with ⟨hz, a, b, hTO⟩ | ⟨T, f, oT, hz, hT, r1, r2, r3, r4⟩
  · exact .inl ⟨hk _ _ n1 hz, a, b, hk _ _ n3 hTO⟩
  · exact .inr ⟨T, f, oT, hk _ _ n1 hz, hk _ _ r4 hT, r1, r2, r3, r4⟩
theorem zst_item {z TI TO i1 i2 l1 l2 S : Addr} {xs ys : Array Value} {i : Nat} {x y : Value} {Q : Option Value → Shared → Prop} (D : ZipApart z TI TO i1 i2 l1 l2) (st : ZSt s.heap z TI TO i1 i2 l1 l2 S xs ys i) (hS : S < s.heap.objs.size)
    (ex : xs[i]? = some x) (ey : ys[i]? = some y)
    (hQ : ∀ h', ZSt h' z TI TO i1 i2 l1 l2 S xs ys (i + 1) → IsPair h' s.heap.objs.size x y → h'.objs.size = s.heap.objs.size + 1 →
      (∀ c o, c ≠ z → c ≠ TO → c ≠ i1 → c ≠ i2 → s.heap.get? c = some o → h'.get? c = some o) → Q (some (.ref s.heap.objs.size)) { s with heap := h' }) :
    wpAny (model prog w) A (pyNext (.ref z)) Q E s := by
  obtain ⟨hTI, h1, h2, hl1, hl2, hz⟩ := st
  have lt : ∀ {c o}, s.heap.get? c = some o → s.heap.objs.size ≠ c := fun e => Nat.ne_of_gt (Heap.lt_size e)
  have n1 : s.heap.objs.size ≠ i1 := let ⟨_, e, _⟩ := h1; lt e
  have n2 : s.heap.objs.size ≠ i2 := let ⟨_, e, _⟩ := h2; lt e
  rcases hz with ⟨hz, a, b, hTO⟩ | ⟨T, f, oT, hz, hT, r1, r2, r3, r4⟩
  · refine RZ.pyNext_zipT_item D hz hTI hTO h1 h2 hl1 hl2 ex ey fun h' a1 a2 a3 a4 a5 a6 hk => ?_
    exact hQ h' ⟨hk _ _ D.TIz D.TITO D.TIi1 D.TIi2 hTI, a3, a4, hl1.at fun o e => hk _ o D.l1z D.l1TO D.l1i1 D.l1i2 e, hl2.at fun o e => hk _ o D.l2z D.l2TO D.l2i1 D.l2i2 e,
      .inr ⟨s.heap.objs.size, false, _, a1, a5, lt hz, n1, n2, Nat.ne_of_gt hS⟩⟩ a5 a6 hk
  · refine pyNext_zipT_item_held D hz hT hTI h1 h2 hl1 hl2 ex ey fun h' a1 a3 a4 a5 a6 hk => ?_
    exact hQ h' ⟨hk _ _ D.TIz D.TIi1 D.TIi2 hTI, a3, a4, hl1.at fun o e => hk _ o D.l1z D.l1i1 D.l1i2 e, hl2.at fun o e => hk _ o D.l2z D.l2i1 D.l2i2 e,
      .inr ⟨T, true, oT, a1, hk _ _ r1 r2 r3 hT, r1, r2, r3, r4⟩⟩ a5 a6 fun c o c1 _ c3 c4 e => hk c o c1 c3 c4 e
theorem zst_done {z TI TO i1 i2 l1 l2 S : Addr} {xs ys : Array Value} {i : Nat} {Q : Option Value → Shared → Prop} (hh : A.handled = none) (D : ZipApart z TI TO i1 i2 l1 l2) (st : ZSt s.heap z TI TO i1 i2 l1 l2 S xs ys i) (ex : xs[i]? = none)
    (hQ : ∀ h', (∀ c o, c ≠ z → c ≠ TO → c ≠ i1 → c ≠ i2 → s.heap.get? c = some o → h'.get? c = some o) → Q none { s with heap := h' }) :
    wpAny (model prog w) A (pyNext (.ref z)) Q E s := by
  obtain ⟨hTI, h1, h2, hl1, hl2, hz⟩ := st
  rcases hz with ⟨hz, a, b, hTO⟩ | ⟨T, f, oT, hz, hT, r1, r2, r3, r4⟩
  · exact RZ.pyNext_zipT_end hh D hz hTI hTO h1 h2 hl1 hl2 (.inl ex) hQ
  · exact pyNext_zipT_end_held (ys := ys) (k2 := i) (l2 := l2) hh D hz hT hTI h1 hl1 ex fun h' hk => hQ h' fun c o c1 _ c3 c4 e => hk c o c1 c3 c4 e

/-- the pairs that have gone out -/
structure ZG (xs ys : Array Value) (lo : Addr) (h : Heap) (as : List Addr) : Prop where
  rise : as.Pairwise (· < ·)
  above : ∀ a ∈ as, lo < a
  pairs : ∀ (j : Nat) (a : Addr), as[j]? = some a → ∃ x y, xs[j]? = some x ∧ ys[j]? = some y ∧ IsPair h a x y
theorem ZG.there {xs ys : Array Value} {lo : Addr} {h : Heap} {as : List Addr} (g : ZG xs ys lo h as) {a : Addr} (ha : a ∈ as) : a < h.objs.size := by
  obtain ⟨j, hj⟩ := List.mem_iff_getElem?.mp ha
  obtain ⟨_, _, _, _, e⟩ := g.pairs j a hj
  exact Heap.lt_size e
end
section
variable {prog : Program} {w : World} {A : Around} {s : Shared} {R : Result → Shared → Prop} {xs ys : Array Value}
theorem zloop {S z TI TO i1 i2 l1 l2 : Addr} (hh : A.handled = none) (D : ZipApart z TI TO i1 i2 l1 l2) (n1 : z ≠ S) (n2 : TI ≠ S) (n3 : TO ≠ S) (n4 : i1 ≠ S) (n5 : i2 ≠ S) (n6 : l1 ≠ S) (n7 : l2 ≠ S)
    {lo : Addr} (lS : S ≤ lo) (l_1 : z ≤ lo) (l_2 : TO ≤ lo) (l_3 : i1 ≤ lo) (l_4 : i2 ≤ lo) (hn : xs.size ≤ sizeLine) (hxy : xs.size = ys.size) (res : Value) {h₁ : Heap}
    (hR : ∀ h' tk acc c as, (∀ b o, b ≠ S → b ≠ z → b ≠ TO → b ≠ i1 → b ≠ i2 → h₁.get? b = some o → h'.get? b = some o) → h'.get? S = some { cls := .type "list", dict := none, data := .seq acc c, slots := #[] } → as.length = xs.size → ZG xs ys lo h' as →
      acc.toList = as.map Value.ref → R (.ok (.ret res)) { s with heap := h', toks := tk }) :
    ∀ (k i : Nat) (h : Heap) (tk c : Nat) (acc : Array Value) (as : List Addr), xs.size - i = k → i ≤ xs.size → ZSt h z TI TO i1 i2 l1 l2 S xs ys i → (∀ b o, b ≠ S → b ≠ z → b ≠ TO → b ≠ i1 → b ≠ i2 → h₁.get? b = some o → h.get? b = some o) →
      h.get? S = some { cls := .type "list", dict := none, data := .seq acc c, slots := #[] } → acc.toList = as.map Value.ref → as.length = i → ZG xs ys lo h as → lo < h.objs.size →
      codeAny (model prog w) A (.builtin "list.extend.loop" ⟨[.ref S, .ref z, res], []⟩) R { s with heap := h, toks := tk } := by
  intro k
  induction k with
  | zero =>
    intro i h tk c acc as hk hi hst hkeep hS hacc hal hG hIs
    refine codeAny_builtin PySem.F.entry_extend_loop ?_
    rw [Around.under_plainId PySem.F.plain_extend_loop _]
    show wpAny _ A.in1 (pyNext (.ref z) >>= _) _ _ _
    refine wpAny_bind (zst_done (s := { s with heap := h, toks := tk }) (A := A.in1) hh D hst (Array.getElem?_eq_none (by omega)) fun h' he => ?_)
    refine wpAny_pure (hR h' tk acc c as (fun b o h1 h2 h3 h4 h5 e => he b o h2 h3 h4 h5 (hkeep b o h1 h2 h3 h4 h5 e)) (he S _ n1.symm n3.symm n4.symm n5.symm hS) (by omega) ⟨hG.rise, hG.above, fun j a hj => ?_⟩ hacc)
    obtain ⟨x, y, e1, e2, e3⟩ := hG.pairs j a hj
    have la := hG.above a (List.mem_of_getElem? hj)
    exact ⟨x, y, e1, e2, he a _ (Nat.ne_of_gt (Nat.lt_of_le_of_lt l_1 la)) (Nat.ne_of_gt (Nat.lt_of_le_of_lt l_2 la)) (Nat.ne_of_gt (Nat.lt_of_le_of_lt l_3 la)) (Nat.ne_of_gt (Nat.lt_of_le_of_lt l_4 la)) e3⟩
  | succ k ih =>
    intro i h tk c acc as hk hi hst hkeep hS hacc hal hG hIs
    have hlt : i < xs.size := by omega
    have ex : xs[i]? = some xs[i] := Array.getElem?_eq_getElem hlt
    have ey : ys[i]? = some ys[i] := Array.getElem?_eq_getElem (by omega)
    have hsz : acc.size = i := by rw [← Array.length_toList, hacc, List.length_map, hal]
    refine codeAny_builtin PySem.F.entry_extend_loop ?_
    rw [Around.under_plainId PySem.F.plain_extend_loop _]
    show wpAny _ A.in1 (pyNext (.ref z) >>= _) _ _ _
    refine wpAny_bind (zst_item (s := { s with heap := h, toks := tk }) (S := S) D hst (Heap.lt_size hS) ex ey fun h' hst' ht hz hkp => ?_)
    dsimp only at ht hz hkp ⊢
    have hS' := hkp S _ n1.symm n3.symm n4.symm n5.symm hS
    have up : ∀ b o, b ≠ S → h'.get? b = some o → (h'.update S (Obj.mapSeq (·.push (Value.ref h.objs.size)))).get? b = some o := fun b o hb e => (Heap.get?_update_other _ _ (Ne.symm hb)).trans e
    have hSl : S < h.objs.size := Heap.lt_size hS
    show wpAny _ A.in1 (updateSeq S (·.push (Value.ref h.objs.size)) >>= _) _ _ _
    refine wpAny_bind ?_
    refine wpAny_updateSeq hS' rfl (wpAny_pure ⟨plainId_quiet PySem.F.plain_extend_loop _, ih (i + 1) _ tk _ (acc.push (Value.ref h.objs.size)) (as ++ [h.objs.size]) (by omega) hlt (hst'.keep up n1 n2 n3 n4 n5 n6 n7)
      (fun b o h1 h2 h3 h4 h5 e => up b o h1 (hkp b o h2 h3 h4 h5 (hkeep b o h1 h2 h3 h4 h5 e))) (Heap.get?_update_self _ hS' rfl) (by rw [Array.toList_push, hacc, List.map_append]; rfl) (by rw [List.length_append, hal]; rfl) ⟨?_, ?_, ?_⟩ ?_⟩) (by rw [hsz]; omega) (by show (acc.push (Value.ref h.objs.size)).size ≤ sizeLine + 1; rw [Array.size_push, hsz]; omega)
    · refine List.pairwise_append.mpr ⟨hG.rise, List.pairwise_singleton _ _, fun a ha b hb => ?_⟩
      rw [List.mem_singleton.mp hb]
      exact hG.there ha
    · intro a ha
      rcases List.mem_append.mp ha with ha | ha
      · exact hG.above a ha
      · rw [List.mem_singleton.mp ha]; exact hIs
    · intro j b hj
      rcases Nat.lt_trichotomy j as.length with h1 | h1 | h1
      · rw [List.getElem?_append_left h1] at hj
        obtain ⟨x', y', e1, e2, e3⟩ := hG.pairs j b hj
        have la := hG.above b (List.mem_of_getElem? hj)
        exact ⟨x', y', e1, e2, up b _ (Nat.ne_of_gt (Nat.lt_of_le_of_lt lS la)) (hkp b _ (Nat.ne_of_gt (Nat.lt_of_le_of_lt l_1 la)) (Nat.ne_of_gt (Nat.lt_of_le_of_lt l_2 la)) (Nat.ne_of_gt (Nat.lt_of_le_of_lt l_3 la)) (Nat.ne_of_gt (Nat.lt_of_le_of_lt l_4 la)) e3)⟩
      · subst h1
        have hb : h.objs.size = b := by simpa using hj
        subst hb
        exact ⟨_, _, by rw [hal]; exact ex, by rw [hal]; exact ey, up _ _ (Nat.ne_of_gt hSl) ht⟩
      · have hnone : (as ++ [h.objs.size])[j]? = none := List.getElem?_eq_none (by rw [List.length_append, List.length_singleton]; omega)
        rw [hnone] at hj; cases hj
    · have e : (h'.update S (Obj.mapSeq (·.push (Value.ref h.objs.size)))).get? h.objs.size = _ := up _ _ (Nat.ne_of_gt hSl) ht
      exact Nat.lt_trans hIs (Heap.lt_size e)
end
theorem zip_nolen : typeLookup (.type "zip") "__len__" = pure none := am_miss_of_fast (by decide +kernel)
theorem zip_nohint : typeLookup (.type "zip") "__length_hint__" = pure none := am_miss_of_fast (by decide +kernel)
section
variable {prog : Program} {w : World} {A : Around} {E : Value → Shared → Prop} {s : Shared} {xs ys : Array Value} {l1 l2 z TI TO i1 i2 : Addr}
theorem zhint (hT : s.TypeIs (.ref z) "zip") {Q : Bool → Shared → Prop} (h : Q true s) : wpAny (model prog w) A (Builtin.List.listLengthHint (.ref z)) Q E s := by
  unfold Builtin.List.listLengthHint
  refine wpAny_bind (wpAny_specialOf hT zip_nolen ?_)
  show wpAny _ A (specialOf (Value.ref z) (Str.ofString "__length_hint__") >>= _) _ _ _
  refine wpAny_bind (wpAny_specialOf hT zip_nohint ?_)
  exact wpAny_pure h
theorem zextend {R : Result → Shared → Prop} (hh : A.handled = none) (D : ZipApart z TI TO i1 i2 l1 l2) (S : Addr) (st : ZSt s.heap z TI TO i1 i2 l1 l2 S xs ys 0) (n1 : z < S) (n2 : TI < S) (n3 : TO < S) (n4 : i1 < S) (n5 : i2 < S) (n6 : l1 < S) (n7 : l2 < S)
    (hz : IsZip s.heap z TI TO .none) (res : Value) (c₀ : Nat) (hS : s.heap.get? S = some { cls := .type "list", data := .seq #[] c₀ })
    (hR : ∀ h' tk acc c as, (∀ b o, b ≠ S → b ≠ z → b ≠ TO → b ≠ i1 → b ≠ i2 → s.heap.get? b = some o → h'.get? b = some o) → h'.get? S = some { cls := .type "list", dict := none, data := .seq acc c, slots := #[] } → as.length = xs.size → ZG xs ys S h' as →
      acc.toList = as.map Value.ref → R (.ok (.ret res)) { s with heap := h', toks := tk }) (hn : xs.size ≤ sizeLine) (hxy : xs.size = ys.size) :
    wpAny (model prog w) A.in1 (Builtin.List.listExtendWith (.ref S) (.ref z) res)
      (fun fin s' => match fin with | .done f => R (.ok f) s' | .again c' => c'.quiet = true ∧ codeAny (model prog w) A c' R s') (fun e s' => R (.error e) s') s := by
  have hT : s.TypeIs (.ref z) "zip" := ⟨_, hz, rfl⟩
  have key : ∀ (h : Heap) (c₁ tk : Nat), (∀ b o, b ≠ S → s.heap.get? b = some o → h.get? b = some o) → h.get? S = some { cls := .type "list", data := .seq #[] c₁ } →
      codeAny (model prog w) A (.builtin "list.extend.loop" ⟨[.ref S, .ref z, res], []⟩) R { s with heap := h, toks := tk } := by
    intro h c₁ tk hk hS₁
    exact zloop (s := s) (h₁ := s.heap) hh D (Nat.ne_of_lt n1) (Nat.ne_of_lt n2) (Nat.ne_of_lt n3) (Nat.ne_of_lt n4) (Nat.ne_of_lt n5) (Nat.ne_of_lt n6) (Nat.ne_of_lt n7) (lo := S) (Nat.le_refl _) (Nat.le_of_lt n1) (Nat.le_of_lt n3) (Nat.le_of_lt n4) (Nat.le_of_lt n5) hn hxy res hR
      xs.size 0 h tk c₁ #[] [] (Nat.sub_zero _) (Nat.zero_le _) (st.keep hk (Nat.ne_of_lt n1) (Nat.ne_of_lt n2) (Nat.ne_of_lt n3) (Nat.ne_of_lt n4) (Nat.ne_of_lt n5) (Nat.ne_of_lt n6) (Nat.ne_of_lt n7)) (fun b o hb _ _ _ _ e => hk b o hb e) hS₁ rfl rfl
      ⟨List.Pairwise.nil, (fun _ ha => nomatch ha), (fun j a hj => by simp at hj)⟩ (Heap.lt_size hS₁)
  unfold Builtin.List.listExtendWith
  refine wpAny_bind (wpAny_typeOf (T := "zip") hT ?_)
  have h1 : Builtin.List.listSameRef (.ref S) (.ref z) = false := by
    have : S ≠ z := Nat.ne_of_gt n1
    simp [Builtin.List.listSameRef, this]
  have h2 : (Value.type "zip" == Value.type "list") = false := by decide
  have h3 : (Value.type "zip" == Value.type "tuple") = false := by decide
  simp only [h1, h2, h3, Bool.or_false, Bool.false_eq_true, if_false]
  refine wpAny_bind (wpAny_pyIter_zip hz ?_)
  refine wpAny_bind (wpAny_holding (zhint hT ?_))
  show wpAny _ A.in1 (rule "list.extend.makes-room" >>= fun _ => Builtin.List.listTouch (.ref S) >>= fun _ =>
    again (.builtin "list.extend.loop" ⟨[.ref S, .ref z, res], []⟩)) _ _ _
  refine wpAny_bind (wpAny_rule ?_)
  refine wpAny_bind ?_
  show wpAny _ _ (updateSeq S (·.push .none) >>= fun _ => updateSeq S (·.pop)) _ _ _
  refine wpAny_bind (wpAny_updateSeq hS rfl ?_)
  have hS₂ := Heap.get?_update_self (Obj.mapSeq (·.push Value.none)) hS rfl
  refine wpAny_updateSeq (hz := by seq_fits) hS₂ rfl ?_
  have hS₃ := Heap.get?_update_self (Obj.mapSeq (·.pop)) hS₂ rfl
  refine wpAny_pure ⟨plainId_quiet PySem.F.plain_extend_loop _, key _ _ _ (fun b o hb e => ?_) hS₃⟩
  exact (Heap.get?_update_other _ _ (Ne.symm hb)).trans ((Heap.get?_update_other _ _ (Ne.symm hb)).trans e)
theorem zinit {R : Result → Shared → Prop} (hh : A.handled = none) (D : ZipApart z TI TO i1 i2 l1 l2) (S : Addr) (st : ZSt s.heap z TI TO i1 i2 l1 l2 S xs ys 0) (n1 : z < S) (n2 : TI < S) (n3 : TO < S) (n4 : i1 < S) (n5 : i2 < S) (n6 : l1 < S) (n7 : l2 < S)
    (hz : IsZip s.heap z TI TO .none) (hS : s.heap.get? S = some { cls := .type "list", data := .seq #[] })
    (hR : ∀ h' tk acc c as, (∀ b o, b ≠ S → b ≠ z → b ≠ TO → b ≠ i1 → b ≠ i2 → s.heap.get? b = some o → h'.get? b = some o) → h'.get? S = some { cls := .type "list", dict := none, data := .seq acc c, slots := #[] } → as.length = xs.size → ZG xs ys S h' as →
      acc.toList = as.map Value.ref → R (.ok (.ret .none)) { s with heap := h', toks := tk }) (hn : xs.size ≤ sizeLine) (hxy : xs.size = ys.size) :
    wpAny (model prog w) A.in1 (Builtin.«list.__init__» ⟨[.ref S, .ref z], []⟩)
      (fun fin s' => match fin with | .done f => R (.ok f) s' | .again c' => c'.quiet = true ∧ codeAny (model prog w) A c' R s') (fun e s' => R (.error e) s') s := by
  show wpAny _ _ (do let old ← Builtin.List.listItems (.ref S); Builtin.List.listUpdate (.ref S) (fun _ => #[]); letGo old.toList.reverse; Builtin.List.listExtendWith (.ref S) (.ref z) .none) _ _ s
  refine wpAny_bind ?_
  unfold Builtin.List.listItems
  refine wpAny_bind (wpAny_seqItems hS rfl (wpAny_pure ?_))
  show wpAny _ _ (updateSeq S (fun _ => #[]) >>= fun _ => letGo (#[] : Array Value).toList.reverse >>= fun _ => Builtin.List.listExtendWith (.ref S) (.ref z) .none) _ _ s
  refine wpAny_bind (wpAny_updateSeq hS rfl ?_)
  have hS₂ := Heap.get?_update_self (Obj.mapSeq (fun _ => (#[] : Array Value))) hS rfl
  have oth : ∀ b o, b ≠ S → s.heap.get? b = some o → (s.heap.update S (Obj.mapSeq (fun _ => (#[] : Array Value)))).get? b = some o :=
    fun b o hb e => (Heap.get?_update_other _ _ (Ne.symm hb)).trans e
  refine wpAny_bind (wpAny_letGo ?_)
  refine zextend hh D S (st.keep oth (Nat.ne_of_lt n1) (Nat.ne_of_lt n2) (Nat.ne_of_lt n3) (Nat.ne_of_lt n4) (Nat.ne_of_lt n5) (Nat.ne_of_lt n6) (Nat.ne_of_lt n7)) n1 n2 n3 n4 n5 n6 n7 (oth _ _ (Nat.ne_of_lt n1) hz) .none _ hS₂ (fun h' tk acc c as hk hS' hl hG hacc => ?_) hn hxy
  exact hR h' tk acc c as (fun b o h1 h2 h3 h4 h5 e => hk b o h1 h2 h3 h4 h5 (oth b o h1 e)) hS' hl hG hacc
theorem zcall {Q : Value → Shared → Prop} (hh : A.handled = none) (D : ZipApart z TI TO i1 i2 l1 l2) (st : ZSt s.heap z TI TO i1 i2 l1 l2 s.heap.objs.size xs ys 0) (hz : IsZip s.heap z TI TO .none) (hTO : ∃ a b, IsPair s.heap TO a b) (hn : xs.size ≤ sizeLine) (hxy : xs.size = ys.size)
    (hQ : ∀ h' tk acc c as, (∀ b o, b ≠ z → b ≠ TO → b ≠ i1 → b ≠ i2 → s.heap.get? b = some o → h'.get? b = some o) → h'.get? s.heap.objs.size = some { cls := .type "list", dict := none, data := .seq acc c, slots := #[] } → as.length = xs.size → ZG xs ys s.heap.objs.size h' as →
      acc.toList = as.map Value.ref → Q (.ref s.heap.objs.size) { s with heap := h', toks := tk }) :
    wpAny (model prog w) A (call (.type "list") [.ref z]) Q E s := by
  refine callType_codes (Q₁ := fun obj s₁ => obj = .ref s.heap.objs.size ∧ s₁ = { s with heap := s.heap.push { cls := .type "list", data := .seq #[] } }) PySem.F.called_list (PySem.F.typeCall_list_1 _) PySem.F.entry_list_init
    (code_list_new _ ⟨rfl, rfl⟩) fun obj s₁ h₁ => ?_
  obtain ⟨rfl, rfl⟩ := h₁
  have hS : (s.heap.push { cls := .type "list", data := .seq #[] }).get? s.heap.objs.size = some { cls := .type "list", data := .seq #[] } := Heap.get?_push_size _ rfl
  have up : ∀ b o, s.heap.get? b = some o → (s.heap.push { cls := .type "list", data := .seq #[] }).get? b = some o := fun b o e => Heap.get?_push_of_some _ e
  have m1 : z < s.heap.objs.size := Heap.lt_size hz
  have m2 : TI < s.heap.objs.size := Heap.lt_size st.ti
  have m3 : TO < s.heap.objs.size := let ⟨_, _, e⟩ := hTO; Heap.lt_size e
  have m4 : i1 < s.heap.objs.size := let ⟨_, e, _⟩ := st.h1; Heap.lt_size e
  have m5 : i2 < s.heap.objs.size := let ⟨_, e, _⟩ := st.h2; Heap.lt_size e
  have m6 : l1 < s.heap.objs.size := let ⟨_, e, _⟩ := st.a1; Heap.lt_size e
  have m7 : l2 < s.heap.objs.size := let ⟨_, e, _⟩ := st.a2; Heap.lt_size e
  refine ⟨⟨_, hS, rfl⟩, PySem.F.args_list_init_2 _ _, zinit (A := A.in1) hh D s.heap.objs.size (st.keep (fun b o _ e => up b o e) (Nat.ne_of_lt m1) (Nat.ne_of_lt m2) (Nat.ne_of_lt m3) (Nat.ne_of_lt m4) (Nat.ne_of_lt m5) (Nat.ne_of_lt m6) (Nat.ne_of_lt m7)) m1 m2 m3 m4 m5 m6 m7 (up _ _ hz) hS (fun h' tk acc c as hk hS' hl hG hacc => ?_) hn hxy⟩
  exact ⟨rfl, hQ h' tk acc c as (fun b o h2 h3 h4 h5 e => hk b o (Nat.ne_of_lt (Heap.lt_size e)) h2 h3 h4 h5 (up b o e)) hS' hl hG hacc⟩
end
end K8

set_option Elab.async false
set_option linter.all false
set_option maxRecDepth 100000
set_option maxHeartbeats 4000000
/-! list(zip(a, b)) of two tuples, as a rule of the layer. -/
namespace K8
open PySem PySem.Spec PyProof.Rows L2
/-- the pairs tracked at their addresses -/
def putP : Hp → List Addr → List (V × V) → Hp
  | H, a :: as, p :: ps => putP (upd H a (.tup [p.1, p.2])) as ps
  | H, _, _ => H
theorem putP_off {b : Addr} : ∀ (as : List Addr) (ps : List (V × V)) (H : Hp), b ∉ as → putP H as ps b = H b
  | [], _, _, _ => rfl
  | _ :: _, [], _, _ => rfl
  | a :: as, p :: ps, H, h => by
    show putP (upd H a (.tup [p.1, p.2])) as ps b = H b
    rw [putP_off as ps _ (fun z => h (List.mem_cons_of_mem _ z)), upd_ne (fun z => h (by rw [z]; exact List.mem_cons_self))]
theorem putP_at : ∀ (as : List Addr) (ps : List (V × V)) (H : Hp), as.length = ps.length → as.Nodup → ∀ (j : Nat) (t : Addr) (p : V × V), as[j]? = some t → ps[j]? = some p → putP H as ps t = some (.tup [p.1, p.2])
  | [], _, _, _, _, j, t, p, h, _ => by simp at h
  | _ :: _, [], _, h, _, _, _, _, _, _ => by cases h
  | a :: as, q :: ps, H, h, hn, 0, t, p, e1, e2 => by
    have hn' := List.nodup_cons.mp hn
    have e1' : a = t := Option.some.inj e1
    have e2' : q = p := Option.some.inj e2
    subst e1' e2'
    show putP (upd H a (.tup [q.1, q.2])) as ps a = some (.tup [q.1, q.2])
    rw [putP_off as ps _ hn'.1, upd_same]
  | a :: as, q :: ps, H, h, hn, j + 1, t, p, e1, e2 =>
    putP_at as ps (upd H a (.tup [q.1, q.2])) (Nat.succ.inj h) (List.nodup_cons.mp hn).2 j t p e1 e2
section
variable {X : Cx}
theorem pairs_laid {pins : List (Addr × Obj)} {σ : L2.St} {H : Hp} {s : Shared} {h' : Heap} {tk : Nat} {xs ys : List V} {us ws : List Value} {acc : Array Value} {c : Nat} {as : List Addr} {S : Addr} (I : Inv X pins σ H s) (hz : xs.length ≤ sizeLine) (hxy : xs.length = ys.length)
    (rx : Vals xs us) (ry : Vals ys ws) (hSs : s.heap.objs.size ≤ S) (hk : ∀ b o, s.heap.get? b = some o → h'.get? b = some o) (hS : h'.get? S = some { cls := .type "list", dict := none, data := .seq acc c, slots := #[] }) (hl : as.length = us.length)
    (hG : ZG us.toArray ws.toArray S h' as) (hacc : acc.toList = as.map Value.ref) :
    ∃ H' : Hp, Same H H' ∧ H S = none ∧ H' S = some (.lst (as.map V.ref)) ∧ (∀ (j : Nat) (t : Addr) (x y : V), as[j]? = some t → xs[j]? = some x → ys[j]? = some y → H' t = some (.tup [x, y])) ∧ Inv X pins σ H' { s with heap := h', toks := tk } := by
  have lx : xs.length = us.length := rx.length
  have ly : ys.length = ws.length := ry.length
  have hSn : S ∉ as := fun z => Nat.lt_irrefl _ (hG.above _ z)
  have nd : as.Nodup := List.Pairwise.imp (fun {a b} (h : a < b) => Nat.ne_of_lt h) hG.rise
  have new : ∀ t ∈ as, H t = none := fun t ht => I.hok.fresh (Nat.le_trans hSs (Nat.le_of_lt (hG.above t ht)))
  have newS : H S = none := I.hok.fresh hSs
  have lz : (xs.zip ys).length = xs.length := by rw [List.length_zip]; omega
  have atP := putP_at as (xs.zip ys) (upd H S (.lst (as.map V.ref))) (by omega) nd
  have off : ∀ b, b ∉ as → b ≠ S → putP (upd H S (.lst (as.map V.ref))) as (xs.zip ys) b = H b := fun b h1 h2 => by rw [putP_off as _ _ h1, upd_ne h2]
  have low : ∀ b o, s.heap.get? b = some o → b ∉ as ∧ b ≠ S := fun b o e => ⟨fun z => absurd (Heap.lt_size e) (Nat.not_lt.mpr (Nat.le_trans hSs (Nat.le_of_lt (hG.above b z)))), Nat.ne_of_lt (Nat.lt_of_lt_of_le (Heap.lt_size e) hSs)⟩
  have kp : ∀ b u, H b = some u → (putP (upd H S (.lst (as.map V.ref))) as (xs.zip ys)) b = some u := fun b u e => by
    rw [off b (fun z => by rw [new b z] at e; cases e) (fun z => by rw [z, newS] at e; cases e)]
    exact e
  have eS : putP (upd H S (.lst (as.map V.ref))) as (xs.zip ys) S = some (.lst (as.map V.ref)) := by rw [putP_off as _ _ hSn, upd_same]
  have atZ : ∀ (j : Nat) (t : Addr) (x y : V), as[j]? = some t → xs[j]? = some x → ys[j]? = some y → putP (upd H S (.lst (as.map V.ref))) as (xs.zip ys) t = some (.tup [x, y]) := fun j t x y e1 e2 e3 =>
    atP j t (x, y) e1 (by rw [List.getElem?_zip_eq_some]; exact ⟨e2, e3⟩)
  refine ⟨putP (upd H S (.lst (as.map V.ref))) as (xs.zip ys), kp, newS, eS, atZ, ?_⟩
  refine I.call' (ch := []) rfl ⟨fun b o q _ _ _ => hk b o q, fun b o q _ _ _ => ⟨o.slots, hk b o q⟩, fun b o q n _ => ?_, fun b o q _ => ⟨o, hk b o q⟩, fun b xs q => kp b _ q, fun b o u q => kp b _ q, fun b ps q => ⟨#[], by rw [kp b _ q]; simp⟩⟩ (fun b u q => ?_) I.bare fun b z => by simp at z
  · obtain ⟨z1, z2⟩ := low b o q
    rw [off b z1 z2]
    exact n
  · by_cases hb : b ∈ as
    · obtain ⟨j, e1⟩ := List.mem_iff_getElem?.mp hb
      obtain ⟨u1, u2, f1, f2, f3⟩ := hG.pairs j b e1
      have hj : j < xs.length := by
        have := (List.getElem?_eq_some_iff.mp e1).1
        omega
      have g1 : xs[j]? = some xs[j] := List.getElem?_eq_getElem hj
      have g2 : ys[j]? = some (ys[j]'(by omega)) := List.getElem?_eq_getElem (by omega)
      rw [atZ j b _ _ e1 g1 g2] at q
      cases q
      obtain ⟨v1, p1, p2⟩ := rx.get g1
      obtain ⟨v2, p3, p4⟩ := ry.get g2
      have q1 : u1 = v1 := by
        have : us[j]? = some u1 := by simpa using f1
        rw [p1] at this
        exact (Option.some.inj this).symm
      have q2 : u2 = v2 := by
        have : ws[j]? = some u2 := by simpa using f2
        rw [p3] at this
        exact (Option.some.inj this).symm
      subst q1 q2
      exact ⟨by show 2 ≤ sizeLine; decide, [u1, u2], .cons p2 (.cons p4 .nil), ⟨_, f3, rfl, _, rfl⟩⟩
    · by_cases hb2 : b = S
      · rw [hb2] at q ⊢
        rw [eS] at q
        cases q
        refine ⟨by rw [List.length_map]; omega, acc.toList, c, by rw [hacc]; exact LiI.vals_refs as, ?_⟩
        rw [Array.toArray_toList]
        exact hS
      · rw [off b hb hb2] at q
        exact (I.hok b u q).stay (fun d v _ y => hk d v y) (fun d y => kp d _ y) fun d xs y => kp d _ y
/-- list(zip(a, b)), two tuples of one length -/
def rLZ (K : PySem.W.Frag) : List V → Hp → VK → Prop := fun vs H Q => ∃ (a b : Addr) (xs ys : List V), vs = [.ref a, .ref b] ∧ SqT K H a xs ∧ SqT K H b ys ∧ xs.length = ys.length ∧
  ∀ (H' : Hp) (p : Addr) (ts : List Addr), Same H H' → H p = none → H' p = some (.lst (ts.map V.ref)) → ts.length = xs.length →
    (∀ (j : Nat) (t : Addr) (x y : V), ts[j]? = some t → xs[j]? = some x → ys[j]? = some y → H' t = some (.tup [x, y])) → Q (.ref p) H'
def tLZ (K : PySem.W.Frag) (ta : TA) : TE := fun σ H Q => ta σ H fun vs H1 => rLZ K vs H1 Q
theorem pe_listZip {e e2 : Expr} {ta : TA} {p p2 pos pos2 : Pos} (hc : X.calm = true) (hg : Gl X "zip") (hm : X.mg "zip" = none) (hgl : Gl X "list") (hml : X.mg "list" = none) (hv : bootBuiltins "list" = some (.type "list")) (ha : PA X [e, e2] ta)
    (hs : starEach [e, e2] X.env = (false, eval e X.env) :: starEach [e2] X.env := by rfl) (hpl : (backTo pos2 (starEach [e2] X.env)).any (·.1) = false := by rfl)
    (hs2 : starEach [.Call (.Name "zip" p2) [e, e2] [] pos2] X.env = (false, eval (.Call (.Name "zip" p2) [e, e2] [] pos2) X.env) :: starEach [] X.env := by rfl) :
    PE X (.Call (.Name "list" p) [.Call (.Name "zip" p2) [e, e2] [] pos2] [] pos) (tLZ X.K ta) := by
  refine ⟨fun pins s σ H Q I hq => ?_⟩
  refine wpAny_Call_Name_kw (ld_blt I hgl hml hv ?_)
  refine PyProof.Rows.callWith_type1 ?_ hs2 rfl
  rw [hs2]
  show wpAny _ _ (spliced ((false, eval (.Call (.Name "zip" p2) [e, e2] [] pos2) X.env) :: backTo pos (starEach [] X.env))) _ _ s
  refine Calls.spliced_cons ?_
  refine Call_ (ld_blt I hg hm PyProof.Rows.boot_zip (PyProof.Rows.callWith_type1 (thn (ha.run pos2 pins s σ H _ I hq) fun us s1 ⟨vs, H1, I1, r1, q1⟩ => ?_) hs hpl))
  obtain ⟨a, b, xs, ys, ex, hqx, hqy, hxy, q⟩ := q1
  subst ex
  obtain ⟨u1, u2, rfl, ru1, ru2⟩ := vals2 r1
  obtain rfl : u1 = Value.ref a := ru1
  obtain rfl : u2 = Value.ref b := ru2
  obtain ⟨its, rv, t1, z1⟩ := I1.tuple hqx
  obtain ⟨its2, rv2, t2, z2⟩ := I1.tuple hqy
  obtain ⟨o1, ho1, _⟩ := id t1
  obtain ⟨o2, ho2, _⟩ := id t2
  have lx : xs.length = its.length := rv.length
  have ly : ys.length = its2.length := rv2.length
  refine RZ.call_zipT (show s1.heap.IsTuple a its.toArray from t1) (show s1.heap.IsTuple b its2.toArray from t2) fun h' hz hTI hTO h1 h2 hsz hk => ?_
  refine Calls.spliced_nil ?_
  have D := PySem.W.ktu_apart s1.heap.objs.size a b (Heap.lt_size ho1) (Heap.lt_size ho2)
  have st : ZSt h' (s1.heap.objs.size + 4) (s1.heap.objs.size + 2) (s1.heap.objs.size + 3) s1.heap.objs.size (s1.heap.objs.size + 1) a b h'.objs.size its.toArray its2.toArray 0 :=
    ⟨hTI, h1, h2, (show s1.heap.IsTuple a its.toArray from t1).at fun o e => hk _ o e, (show s1.heap.IsTuple b its2.toArray from t2).at fun o e => hk _ o e, .inl ⟨hz, _, _, hTO⟩⟩
  refine zcall (s := { s1 with heap := h' }) (I1.ok.hd hc) D st hz ⟨_, _, hTO⟩ (by rw [List.size_toArray]; omega) (by rw [List.size_toArray, List.size_toArray]; omega) fun h'' tk acc c as hk2 hS hl hG hacc => ?_
  have lo : ∀ b o, s1.heap.get? b = some o → h''.get? b = some o := fun b o e => by
    have lb := Heap.lt_size e
    have n4 : b ≠ s1.heap.objs.size + 4 := Nat.ne_of_lt (Nat.lt_of_lt_of_le lb (Nat.le_add_right _ _))
    have n3 : b ≠ s1.heap.objs.size + 3 := Nat.ne_of_lt (Nat.lt_of_lt_of_le lb (Nat.le_add_right _ _))
    have n1 : b ≠ s1.heap.objs.size + 1 := Nat.ne_of_lt (Nat.lt_of_lt_of_le lb (Nat.le_add_right _ _))
    exact hk2 b o n4 n3 (Nat.ne_of_lt lb) n1 (hk b o e)
  have hS' : s1.heap.objs.size ≤ h'.objs.size := by rw [hsz]; exact Nat.le_add_right _ _
  obtain ⟨H', k1, k2, k3, k4, J⟩ := pairs_laid (tk := tk) I1 z1 hxy rv rv2 hS' lo hS (by rw [hl, List.size_toArray]) hG hacc
  refine ⟨.ref _, H', J, rfl, q H' _ as k1 k2 k3 (by rw [hl, List.size_toArray, ← lx]) k4⟩
end
end K8

set_option Elab.async false
set_option linter.all false
set_option maxRecDepth 100000
set_option maxHeartbeats 4000000
/-! The plain mathematics: the middle of weighted numbers, small dicts of texts and ints, bounds. -/
namespace K8
open PySem L2

/-! ### the middle -/
abbrev PII := Int × Int
def leP (a b : PII) : Bool := decide (a.1 < b.1 ∨ (a.1 = b.1 ∧ a.2 ≤ b.2))
theorem leP_iff {a b : PII} : leP a b = true ↔ a.1 < b.1 ∨ (a.1 = b.1 ∧ a.2 ≤ b.2) := by unfold leP; rw [decide_eq_true_eq]
def scan (whole : Int) : Int → List PII → Int
  | _, [] => 0
  | t, p :: r => if whole ≤ 2 * (t + p.2) then p.1 else scan whole (t + p.2) r
def wsum (ps : List PII) : Int := (ps.map (·.2)).sum
def ones (ps : List PII) : List PII := ps.map fun p => (p.1, 1)
def fixw (ps : List PII) : List PII := if wsum ps = 0 then ones ps else ps
def mid (ps : List PII) : Int := if ps = [] then 0 else scan (wsum (fixw ps)) 0 ((fixw ps).mergeSort leP)
theorem sum_perm {xs ys : List Int} (h : xs.Perm ys) : xs.sum = ys.sum := by
  induction h with
  | nil => rfl
  | cons x _ ih => rw [List.sum_cons, List.sum_cons, ih]
  | swap x y l => rw [List.sum_cons, List.sum_cons, List.sum_cons, List.sum_cons]; omega
  | trans _ _ a b => exact a.trans b
theorem wsum_perm {xs ys : List PII} (h : xs.Perm ys) : wsum xs = wsum ys := sum_perm (h.map _)
theorem fixw_perm {xs ys : List PII} (h : xs.Perm ys) : (fixw xs).Perm (fixw ys) := by
  unfold fixw
  rw [wsum_perm h]
  by_cases e : wsum ys = 0
  · rw [if_pos e, if_pos e]; exact h.map _
  · rw [if_neg e, if_neg e]; exact h
theorem leP_trans (a b c : PII) (h1 : leP a b = true) (h2 : leP b c = true) : leP a c = true := by
  rw [leP_iff] at *; omega
theorem leP_total (a b : PII) : (leP a b || leP b a) = true := by
  rw [Bool.or_eq_true, leP_iff, leP_iff]; omega
theorem sorted_uniq {xs ys : List PII} (hp : ys.Perm xs) (hs : ys.Pairwise fun a b => leP a b = true) : ys = xs.mergeSort leP := by
  refine List.Perm.eq_of_pairwise (le := fun a b => leP a b = true) ?_ hs (List.pairwise_mergeSort leP_trans leP_total xs) (hp.trans (List.mergeSort_perm xs leP).symm)
  intro a b _ _ h1 h2
  rw [leP_iff] at h1 h2
  obtain ⟨a1, a2⟩ := a
  obtain ⟨b1, b2⟩ := b
  simp only at h1 h2
  exact Prod.ext (by simp only; omega) (by simp only; omega)
theorem sort_perm {xs ys : List PII} (h : xs.Perm ys) : xs.mergeSort leP = ys.mergeSort leP :=
  sorted_uniq ((List.mergeSort_perm xs leP).trans h) (List.pairwise_mergeSort leP_trans leP_total xs)
theorem mid_perm {xs ys : List PII} (h : xs.Perm ys) : mid xs = mid ys := by
  unfold mid
  have e : (xs = []) = (ys = []) := propext ⟨fun z => by subst z; exact List.Perm.nil_eq h |>.symm, fun z => by subst z; exact List.Perm.eq_nil h⟩
  rw [wsum_perm (fixw_perm h), sort_perm (fixw_perm h)]
  simp only [e]
theorem scan_mem (whole : Int) : ∀ (ps : List PII) (t : Int), scan whole t ps = 0 ∨ ∃ p ∈ ps, scan whole t ps = p.1
  | [], t => .inl rfl
  | p :: r, t => by
    unfold scan
    by_cases e : whole ≤ 2 * (t + p.2)
    · rw [if_pos e]; exact .inr ⟨p, List.mem_cons_self, rfl⟩
    · rw [if_neg e]
      rcases scan_mem whole r (t + p.2) with h | ⟨q, hq, h⟩
      · exact .inl h
      · exact .inr ⟨q, List.mem_cons_of_mem _ hq, h⟩
theorem mid_in {ps : List PII} {sc : Int} (h0 : 0 ≤ sc) (h : ∀ p ∈ ps, 0 ≤ p.1 ∧ p.1 ≤ sc) : 0 ≤ mid ps ∧ mid ps ≤ sc := by
  have hf : ∀ p ∈ fixw ps, 0 ≤ p.1 ∧ p.1 ≤ sc := by
    intro p hp
    unfold fixw at hp
    by_cases e : wsum ps = 0
    · rw [if_pos e] at hp
      obtain ⟨q, hq, rfl⟩ := List.mem_map.mp hp
      exact h q hq
    · rw [if_neg e] at hp; exact h p hp
  unfold mid
  by_cases e : ps = []
  · rw [if_pos e]; omega
  · rw [if_neg e]
    rcases scan_mem (wsum (fixw ps)) ((fixw ps).mergeSort leP) 0 with q | ⟨p, hp, q⟩
    · rw [q]; omega
    · rw [q]; exact hf p ((List.mergeSort_perm _ leP).mem_iff.mp hp)
theorem mid_nil : mid [] = 0 := rfl
theorem mid_one {n w : Int} (h : 0 ≤ w) : mid [(n, w)] = n := by
  unfold mid
  rw [if_neg (by simp)]
  have e2 : fixw [(n, w)] = [(n, if w = 0 then 1 else w)] := by
    unfold fixw wsum ones
    by_cases e : w = 0
    · subst e; simp
    · simp [e]
  rw [e2, List.mergeSort_singleton]
  unfold scan wsum
  have : (0 : Int) ≤ (if w = 0 then 1 else w) := by split <;> omega
  rw [if_pos (by simp; omega)]

/-! ### dicts of texts and ints -/
def lk (ts : List (Str × Int)) (n : Str) : Option Int := (ts.find? fun p => decide (p.1 = n)).map (·.2)
def kvs (ts : List (Str × Int)) : List (Key × V) := ts.map fun p => (Sum.inr p.1, V.int p.2)
def pt (ts : List (Str × Int)) (n : Str) (x : Int) : List (Str × Int) := if (lk ts n).isSome then ts.map (fun p => if p.1 = n then (p.1, x) else p) else ts ++ [(n, x)]
def dr (ts : List (Str × Int)) (n : Str) : List (Str × Int) := ts.filter fun p => decide (p.1 ≠ n)
abbrev ks (ts : List (Str × Int)) : List Str := ts.map (·.1)
theorem lk_nil (n : Str) : lk [] n = none := rfl
theorem lk_cons (p : Str × Int) (r : List (Str × Int)) (n : Str) : lk (p :: r) n = if p.1 = n then some p.2 else lk r n := by
  unfold lk
  by_cases e : p.1 = n
  · rw [if_pos e, List.find?_cons_of_pos (by simp [e])]; rfl
  · rw [if_neg e, List.find?_cons_of_neg (by simp [e])]
theorem valV_kvs (n : Str) : ∀ ts : List (Str × Int), valV (kvs ts) (Sum.inr n : Key) = (lk ts n).map V.int
  | [] => rfl
  | p :: r => by
    rw [lk_cons]
    show valV ((Sum.inr p.1, V.int p.2) :: kvs r) (Sum.inr n : Key) = _
    by_cases e : p.1 = n
    · rw [if_pos e, valV_pos (by rw [e])]; rfl
    · rw [if_neg e, valV_neg (fun z => e (Sum.inr.inj z)), valV_kvs n r]
theorem lk_some_mem {ts : List (Str × Int)} {n : Str} {x : Int} (h : lk ts n = some x) : (n, x) ∈ ts := by
  induction ts with
  | nil => cases h
  | cons p r ih =>
    rw [lk_cons] at h
    by_cases e : p.1 = n
    · rw [if_pos e] at h
      obtain ⟨a, b⟩ := p
      cases h
      cases e
      exact List.mem_cons_self
    · rw [if_neg e] at h
      exact List.mem_cons_of_mem _ (ih h)
theorem lk_none_iff {ts : List (Str × Int)} {n : Str} : lk ts n = none ↔ n ∉ ks ts := by
  induction ts with
  | nil => simp [lk_nil]
  | cons p r ih =>
    rw [lk_cons]
    by_cases e : p.1 = n
    · rw [if_pos e]; simp [e]
    · rw [if_neg e, ih]
      simp only [ks, List.map_cons, List.mem_cons, not_or]
      exact ⟨fun h => ⟨fun z => e z.symm, h⟩, fun h => h.2⟩
theorem lk_isSome_iff {ts : List (Str × Int)} {n : Str} : (lk ts n).isSome = true ↔ n ∈ ks ts := by
  cases e : lk ts n with
  | none => simp only [Option.isSome_none, Bool.false_eq_true, false_iff]; exact lk_none_iff.mp e
  | some x => simp only [Option.isSome_some, true_iff]; exact List.mem_map.mpr ⟨_, lk_some_mem e, rfl⟩
theorem lk_of_mem {ts : List (Str × Int)} (hn : (ks ts).Nodup) {p : Str × Int} (h : p ∈ ts) : lk ts p.1 = some p.2 := by
  induction ts with
  | nil => cases h
  | cons q r ih =>
    have hn' := List.nodup_cons.mp (show (q.1 :: ks r).Nodup from hn)
    rw [lk_cons]
    rcases List.mem_cons.mp h with e | h
    · rw [if_pos (by rw [e]), e]
    · rw [if_neg (fun e => hn'.1 (List.mem_map.mpr ⟨p, h, e.symm⟩)), ih hn'.2 h]
theorem kvs_put (ts : List (Str × Int)) (n : Str) (x : Int) : putK (kvs ts) (Sum.inr n : Key) (V.int x) = kvs (pt ts n x) := by
  unfold putK pt
  rw [valV_any, valV_kvs, Option.isSome_map]
  cases e : (lk ts n).isSome with
  | true =>
    rw [if_pos rfl, if_pos rfl]
    unfold kvs
    rw [List.map_map, List.map_map]
    refine List.map_congr_left fun p _ => ?_
    show (if (Sum.inr p.1 : Key) = Sum.inr n then _ else _) = (fun q : Str × Int => ((Sum.inr q.1 : Key), V.int q.2)) (if p.1 = n then (p.1, x) else p)
    by_cases e2 : p.1 = n
    · rw [if_pos e2, if_pos (by rw [e2])]
    · rw [if_neg e2, if_neg (fun z => e2 (Sum.inr.inj z))]
  | false =>
    rw [if_neg Bool.false_ne_true, if_neg Bool.false_ne_true]
    unfold kvs
    rw [List.map_append]; rfl
theorem kvs_drop (ts : List (Str × Int)) (n : Str) : dropK (kvs ts) (Sum.inr n : Key) = kvs (dr ts n) := by
  unfold dropK dr kvs
  rw [List.filter_map]
  congr 1
  refine List.filter_congr fun p _ => ?_
  show decide ((Sum.inr p.1 : Key) ≠ Sum.inr n) = decide (p.1 ≠ n)
  exact decide_eq_decide.mpr ⟨fun h z => h (by rw [z]), fun h z => h (Sum.inr.inj z)⟩
theorem kvs_len (ts : List (Str × Int)) : (kvs ts).length = ts.length := List.length_map _
theorem kvs_keys (ts : List (Str × Int)) : (kvs ts).map (·.1) = (ks ts).map Sum.inr := by
  unfold kvs ks; rw [List.map_map, List.map_map]; rfl
theorem kvs_names (ts : List (Str × Int)) : ((kvs ts).map fun kv => kV kv.1) = (ks ts).map V.str := by
  unfold kvs ks; rw [List.map_map, List.map_map]; rfl
theorem lk_pt (ts : List (Str × Int)) (n : Str) (x : Int) (m : Str) : lk (pt ts n x) m = if m = n then some x else lk ts m := by
  have h := valV_put (kvs ts) (Sum.inr n : Key) (Sum.inr m) (V.int x)
  rw [kvs_put, valV_kvs, valV_kvs] at h
  by_cases e : m = n
  · rw [if_pos (by rw [e])] at h
    rw [if_pos e]
    cases q : lk (pt ts n x) m with
    | none => rw [q] at h; cases h
    | some y => rw [q] at h; cases h; rfl
  · rw [if_neg (fun z => e (Sum.inr.inj z))] at h
    rw [if_neg e]
    cases q : lk (pt ts n x) m with
    | none =>
      cases q2 : lk ts m with
      | none => rfl
      | some y => rw [q, q2] at h; cases h
    | some y =>
      cases q2 : lk ts m with
      | none => rw [q, q2] at h; cases h
      | some z => rw [q, q2] at h; cases h; rfl
theorem ks_pt_old {ts : List (Str × Int)} {n : Str} (x : Int) (h : n ∈ ks ts) : ks (pt ts n x) = ks ts := by
  unfold pt
  rw [if_pos (lk_isSome_iff.mpr h)]
  unfold ks
  rw [List.map_map]
  refine List.map_congr_left fun p _ => ?_
  show (if p.1 = n then (p.1, x) else p).1 = p.1
  split <;> rfl
theorem pt_new {ts : List (Str × Int)} {n : Str} (x : Int) (h : n ∉ ks ts) : pt ts n x = ts ++ [(n, x)] := by
  unfold pt
  rw [lk_none_iff.mpr h]; rfl
theorem ks_pt_new {ts : List (Str × Int)} {n : Str} (x : Int) (h : n ∉ ks ts) : ks (pt ts n x) = ks ts ++ [n] := by
  rw [pt_new x h]; unfold ks; rw [List.map_append]; rfl
theorem nd_pt {ts : List (Str × Int)} {n : Str} (x : Int) (h : (ks ts).Nodup) : (ks (pt ts n x)).Nodup := by
  by_cases m : n ∈ ks ts
  · rw [ks_pt_old x m]; exact h
  · rw [ks_pt_new x m]; exact nd_snoc h m
theorem mem_pt {ts : List (Str × Int)} {n : Str} {x : Int} {p : Str × Int} (h : p ∈ pt ts n x) : p = (n, x) ∨ p ∈ ts := by
  unfold pt at h
  split at h
  · obtain ⟨q, hq, e⟩ := List.mem_map.mp h
    by_cases z : q.1 = n
    · rw [if_pos z] at e; left; rw [← e, z]
    · rw [if_neg z] at e; right; rw [← e]; exact hq
  · rcases List.mem_append.mp h with h | h
    · exact .inr h
    · exact .inl (List.mem_singleton.mp h)
theorem ks_dr (ts : List (Str × Int)) (n : Str) : ks (dr ts n) = (ks ts).filter fun m => decide (m ≠ n) := by
  unfold ks dr; rw [List.filter_map]; rfl
theorem nd_dr {ts : List (Str × Int)} (n : Str) (h : (ks ts).Nodup) : (ks (dr ts n)).Nodup := by
  rw [ks_dr]; exact h.sublist (List.filter_sublist)
/-- taking a text out of a list that holds it once -/
theorem erase_filter {l : List Str} (n : Str) (h : l.Nodup) : l.erase n = l.filter fun m => decide (m ≠ n) := by
  rw [h.erase_eq_filter]
  refine List.filter_congr fun m _ => ?_
  by_cases e : m = n
  · simp [e]
  · simp [e]

/-! ### what is said, weighed -/
def f2 (sd ts : List (Str × Int)) (n : Str) : PII := ((lk sd n).getD 0, (lk ts n).getD 0)
def prs (sd ts : List (Str × Int)) : List PII := (ks sd).map (f2 sd ts)

/-! ### numbers -/
theorem abs_eq (i : Int) : (if i < 0 then -i else i) = (i.natAbs : Int) := by split <;> omega
def pw (b : Int) (e : Nat) : Int := b ^ e
theorem pw_succ (b : Int) (e : Nat) : pw b (e + 1) = pw b e * b := Int.pow_succ b e
theorem pw_bd {b : Int} (h0 : 0 ≤ b) (h1 : b ≤ 100) : ∀ {e : Nat}, 0 ≤ pw b e ∧ (pw b e).natAbs < 2 ^ (7 * e + 1)
  | 0 => by unfold pw; simp
  | e + 1 => by
    obtain ⟨i1, i2⟩ := pw_bd h0 h1 (e := e)
    rw [pw_succ]
    refine ⟨Int.mul_nonneg i1 h0, ?_⟩
    have hb : b.natAbs < 2 ^ 7 := by omega
    have := wide_lt i2 hb
    rwa [show 7 * e + 1 + 7 = 7 * (e + 1) + 1 by omega] at this
theorem pw_b {b : Int} (h0 : 0 ≤ b) (h1 : b ≤ 100) {e : Nat} (he : e ≤ 10) : 0 ≤ pw b e ∧ (pw b e).natAbs < 2 ^ 71 := by
  obtain ⟨i1, i2⟩ := pw_bd h0 h1 (e := e)
  exact ⟨i1, Nat.lt_of_lt_of_le i2 (Nat.pow_le_pow_right (by decide) (by omega))⟩
end K8

set_option Elab.async false
set_option linter.all false
set_option maxRecDepth 100000
set_option maxHeartbeats 4000000
/-! The text by places, what the walk asks of the top (Txt), the promises. -/
namespace K8
open PySem PySem.Spec PyProof.Rows L2
def topS (i : Nat) : Stmt := PySem.Challenge.pw_heedwise_k81_what_a_book_says.main.body.getD i (.Pass ⟨0, 0, 0, 0⟩)
abbrev sWt : Stmt := topS 11
abbrev NWt : List Str := ["thing"]
theorem scWt : FnScope NWt ["thing"] (defScope sWt) := ⟨rfl, rfl, rfl, by decide +kernel, rfl, by decide +kernel, by decide +kernel⟩
abbrev sOn : Stmt := topS 13
abbrev NOn : List Str := ["scale", "thing"]
theorem scOn : FnScope NOn ["scale", "thing"] (defScope sOn) := ⟨rfl, rfl, rfl, by decide +kernel, rfl, by decide +kernel, by decide +kernel⟩
abbrev sCh : Stmt := topS 14
abbrev NCh : List Str := ["what", "so"]
theorem scCh : FnScope NCh ["what", "so"] (defScope sCh) := ⟨rfl, rfl, rfl, by decide +kernel, rfl, by decide +kernel, by decide +kernel⟩
abbrev sPw : Stmt := topS 16
abbrev NPw : List Str := ["base", "exponent", "found", "k"]
theorem scPw : FnScope NPw ["base", "exponent"] (defScope sPw) := ⟨rfl, rfl, rfl, by decide +kernel, rfl, by decide +kernel, by decide +kernel⟩
abbrev sMid : Stmt := topS 17
abbrev NMid : List Str := ["numbers", "weights", "number", "whole", "there", "weight"]
theorem scMid : FnScope NMid ["numbers", "weights"] (defScope sMid) := ⟨rfl, rfl, rfl, by decide +kernel, rfl, by decide +kernel, by decide +kernel⟩
abbrev sWh : Stmt := topS 19
abbrev NWh : List Str := ["thing"]
theorem scWh : FnScope NWh ["thing"] (defScope sWh) := ⟨rfl, rfl, rfl, by decide +kernel, rfl, by decide +kernel, by decide +kernel⟩
abbrev sFr : Stmt := topS 23
abbrev NFr : List Str := ["top", "bottom"]
theorem scFr : FnScope NFr ["top", "bottom"] (defScope sFr) := ⟨rfl, rfl, rfl, by decide +kernel, rfl, by decide +kernel, by decide +kernel⟩
abbrev sSl : Stmt := topS 24
abbrev NSl : List Str := ["scale", "top", "bottom", "off"]
theorem scSl : FnScope NSl ["scale", "top", "bottom", "off"] (defScope sSl) := ⟨rfl, rfl, rfl, by decide +kernel, rfl, by decide +kernel, by decide +kernel⟩
abbrev sAw : Stmt := topS 25
abbrev NAw : List Str := ["scale", "top", "bottom", "off", "own"]
theorem scAw : FnScope NAw ["scale", "top", "bottom", "off", "own"] (defScope sAw) := ⟨rfl, rfl, rfl, by decide +kernel, rfl, by decide +kernel, by decide +kernel⟩
abbrev sNm : Stmt := topS 28
abbrev NNm : List Str := ["thing", "sign"]
theorem scNm : FnScope NNm ["thing"] (defScope sNm) := ⟨rfl, rfl, rfl, by decide +kernel, rfl, by decide +kernel, by decide +kernel⟩
abbrev sInit : Stmt := inClass (topS 30) 0
abbrev NInit : List Str := ["self", "scale", "top", "bottom"]
theorem scInit : FnScope NInit ["self", "scale", "top", "bottom"] (defScope sInit) := ⟨rfl, rfl, rfl, by decide +kernel, rfl, by decide +kernel, by decide +kernel⟩
abbrev sCome : Stmt := inClass (topS 30) 1
abbrev NCome : List Str := ["self", "name"]
theorem scCome : FnScope NCome ["self", "name"] (defScope sCome) := ⟨rfl, rfl, rfl, by decide +kernel, rfl, by decide +kernel, by decide +kernel⟩
abbrev sGo : Stmt := inClass (topS 30) 2
abbrev NGo : List Str := ["self", "name"]
theorem scGo : FnScope NGo ["self", "name"] (defScope sGo) := ⟨rfl, rfl, rfl, by decide +kernel, rfl, by decide +kernel, by decide +kernel⟩
abbrev sThere : Stmt := inClass (topS 30) 3
abbrev NThere : List Str := ["self"]
theorem scThere : FnScope NThere ["self"] (defScope sThere) := ⟨rfl, rfl, rfl, by decide +kernel, rfl, by decide +kernel, by decide +kernel⟩
abbrev sCheck : Stmt := inClass (topS 30) 5
abbrev NCheck : List Str := ["self", "said", "name"]
theorem scCheck : FnScope NCheck ["self", "said"] (defScope sCheck) := ⟨rfl, rfl, rfl, by decide +kernel, rfl, by decide +kernel, by decide +kernel⟩
abbrev sSay : Stmt := inClass (topS 30) 6
abbrev NSay : List Str := ["self", "said", "names", "name"]
theorem scSay : FnScope NSay ["self", "said"] (defScope sSay) := ⟨rfl, rfl, rfl, by decide +kernel, rfl, by decide +kernel, by decide +kernel⟩
abbrev sHear : Stmt := inClass (topS 30) 7
abbrev NHear : List Str := ["self", "said", "so", "off", "rest", "name", "own"]
theorem scHear : FnScope NHear ["self", "said", "so"] (defScope sHear) := ⟨rfl, rfl, rfl, by decide +kernel, rfl, by decide +kernel, by decide +kernel⟩
abbrev sWei : Stmt := inClass (topS 30) 8
abbrev NWei : List Str := ["self"]
theorem scWei : FnScope NWei ["self"] (defScope sWei) := ⟨rfl, rfl, rfl, by decide +kernel, rfl, by decide +kernel, by decide +kernel⟩
abbrev sCell : Stmt := topS 32
abbrev NCell : List Str := ["_law_script", "_law_k"]
theorem scCell : FnScope NCell ["_law_script", "_law_k"] (defScope sCell) := ⟨rfl, rfl, rfl, by decide +kernel, rfl, by decide +kernel, by decide +kernel⟩
abbrev sStr : Stmt := topS 33
abbrev NStr : List Str := ["_law_cell", "_law_many", "_law_found", "_law_number", "_law_k"]
theorem scStr : FnScope NStr ["_law_cell", "_law_many"] (defScope sStr) := ⟨rfl, rfl, rfl, by decide +kernel, rfl, by decide +kernel, by decide +kernel⟩
abbrev sRul : Stmt := topS 34
abbrev NRul : List Str := ["_law_script", "_law_scale", "_law_bottom"]
theorem scRul : FnScope NRul ["_law_script"] (defScope sRul) := ⟨rfl, rfl, rfl, by decide +kernel, rfl, by decide +kernel, by decide +kernel⟩
abbrev sCells : Stmt := topS 35
abbrev NCells : List Str := ["_law_script", "_law_first", "_law_cell"]
theorem scCells : FnScope NCells ["_law_script", "_law_first"] (defScope sCells) := ⟨rfl, rfl, rfl, by decide +kernel, rfl, by decide +kernel, by decide +kernel⟩
abbrev sNms : Stmt := topS 36
abbrev NNms : List Str := ["_law_cell", "_law_many", "_law_letters", "_law_size", "_law_at", "_law_names_here", "_law_k", "_law_name", "_law_j", "_law_step"]
theorem scNms : FnScope NNms ["_law_cell", "_law_many"] (defScope sNms) := ⟨rfl, rfl, rfl, by decide +kernel, rfl, by decide +kernel, by decide +kernel⟩
abbrev sSaid : Stmt := topS 37
abbrev NSaid : List Str := ["_law_there", "_law_numbers", "_law_scale", "_law_said_here", "_law_k"]
theorem scSaid : FnScope NSaid ["_law_there", "_law_numbers", "_law_scale"] (defScope sSaid) := ⟨rfl, rfl, rfl, by decide +kernel, rfl, by decide +kernel, by decide +kernel⟩
abbrev sDeeds : Stmt := topS 38
abbrev NDeeds : List Str := ["_law_cells_here", "_law_names_here", "_law_scale", "_law_deeds_here", "_law_there", "_law_ever", "_law_cell", "_law_numbers", "_law_name"]
theorem scDeeds : FnScope NDeeds ["_law_cells_here", "_law_names_here", "_law_scale"] (defScope sDeeds) := ⟨rfl, rfl, rfl, by decide +kernel, rfl, by decide +kernel, by decide +kernel⟩
abbrev sMidL : Stmt := topS 39
abbrev NMidL : List Str := ["_law_pairs", "_law_number", "_law_weight", "_law_whole", "_law_there"]
theorem scMidL : FnScope NMidL ["_law_pairs"] (defScope sMidL) := ⟨rfl, rfl, rfl, by decide +kernel, rfl, by decide +kernel, by decide +kernel⟩
abbrev sTurn : Stmt := topS 40
abbrev NTurn : List Str := ["_law_said_here", "_law_scale", "_law_found", "_law_name"]
theorem scTurn : FnScope NTurn ["_law_said_here", "_law_scale"] (defScope sTurn) := ⟨rfl, rfl, rfl, by decide +kernel, rfl, by decide +kernel, by decide +kernel⟩
abbrev sTold : Stmt := topS 41
abbrev NTold : List Str := ["_law_book", "_law_said_here", "_law_found"]
theorem scTold : FnScope NTold ["_law_book", "_law_said_here"] (defScope sTold) := ⟨rfl, rfl, rfl, by decide +kernel, rfl, by decide +kernel, by decide +kernel⟩
abbrev sStill : Stmt := topS 42
abbrev NStill : List Str := ["_law_book", "_law_said_here", "_law_tops", "_law_name"]
theorem scStill : FnScope NStill ["_law_book", "_law_said_here"] (defScope sStill) := ⟨rfl, rfl, rfl, by decide +kernel, rfl, by decide +kernel, by decide +kernel⟩
abbrev sLaw : Stmt := topS 43
abbrev NLaw : List Str := ["_law_script", "_law_scale", "_law_top", "_law_bottom", "_law_book", "_law_other", "_law_names_here", "_law_last", "_law_deed", "_law_kept", "_law_handed", "_law_name", "_law_due", "_law_there", "_law_due_there"]
theorem scLaw : FnScope NLaw ["_law_script"] (defScope sLaw) := ⟨rfl, rfl, rfl, by decide +kernel, rfl, by decide +kernel, by decide +kernel⟩

abbrev letters : Str := "abcdefghijklmnopqrstuvwxyz"
/-- what the walk asks of the top -/
structure Txt (K : PySem.W.Frag) (mg : Str → Option Value) (C : Addr) : Prop where
  cl : Cls K C
  a_scale : NoAttr K C "scale"
  a_top : NoAttr K C "top"
  a_bottom : NoAttr K C "bottom"
  a_tops : NoAttr K C "tops"
  a_under : NoAttr K C "under"
  a_came : NoAttr K C "came"
  n_len : mg "len" = none
  n_sum : mg "sum" = none
  n_sorted : mg "sorted" = none
  n_all : mg "all" = none
  n_abs : mg "abs" = none
  n_isinstance : mg "isinstance" = none
  n_tuple : mg "tuple" = none
  n_list : mg "list" = none
  n_dict : mg "dict" = none
  n_int : mg "int" = none
  n_str : mg "str" = none
  n_bool : mg "bool" = none
  n_range : mg "range" = none
  n_zip : mg "zip" = none
  xLet : ∃ t, mg "LETTERS" = some (.str letters t)
  xMost : ∃ t, mg "MOST_BOTTOM" = some (.int 100 t)

/-! ### the data -/
structure Bk where
  sc : Int
  tp : Int
  bt : Int
  ts : List (Str × Int)
  un : Int
  cm : Int
def flds (d : Addr) (b : Bk) : List (Str × V) := [("scale", .int b.sc), ("top", .int b.tp), ("bottom", .int b.bt), ("tops", .ref d), ("under", .int b.un), ("came", .int b.cm)]
/-- a book stands at p, its dict at d -/
def BkAt (C : Addr) (H : Hp) (p d : Addr) (b : Bk) : Prop := (∃ dx, H p = some (.ins C dx (flds d b))) ∧ H d = some (.dK (kvs b.ts))
/-- all else stands as it stood -/
def Kept (p d : Addr) (H H' : Hp) : Prop := ∀ c o, H c = some o → c ≠ p → c ≠ d → H' c = some o
theorem BkAt.same {C p d : Addr} {H H' : Hp} {b : Bk} (B : BkAt C H p d b) (s : Same H H') : BkAt C H' p d b := by
  obtain ⟨⟨dx, h1⟩, h2⟩ := B
  exact ⟨⟨dx, s _ _ h1⟩, s _ _ h2⟩
theorem BkAt.ne {C p d : Addr} {H : Hp} {b : Bk} (B : BkAt C H p d b) : p ≠ d := by
  obtain ⟨⟨dx, h1⟩, h2⟩ := B
  exact ne_of h1 h2 (by intro z; cases z)
def NameOk (z : Str) : Prop := 1 ≤ z.cps.size ∧ z.cps.size ≤ 8 ∧ ∀ c ∈ z.cps.toList, c ∈ letters.cps.toList
/-- what is said on a scale, by some of those there -/
def SdOk (sc : Int) (th : List Str) (sd : List (Str × Int)) : Prop := (ks sd).Nodup ∧ (∀ n ∈ ks sd, n ∈ th) ∧ (∀ q ∈ sd, 0 ≤ q.2 ∧ q.2 ≤ sc) ∧ sd.length < 64
/-- how great the weights are behind k turns -/
def Bd (k : Nat) (ts : List (Str × Int)) (un : Int) : Prop := (∀ q ∈ ts, 0 ≤ q.2 ∧ q.2.natAbs < 2 ^ (220 * k + 1)) ∧ 0 ≤ un ∧ un.natAbs < 2 ^ (220 * k + 1)
def Scl (sc tp bt : Int) : Prop := 1 ≤ sc ∧ sc ≤ 10 ∧ 0 ≤ tp ∧ tp < bt ∧ bt ≤ 100
inductive Deed where
  | come (n : Str)
  | go (n : Str)
  | turn (e : Addr) (sd : List (Str × Int)) (so : Int)
def step (th : List Str) : Deed → List Str
  | .come n => th ++ [n]
  | .go n => th.filter fun m => decide (m ≠ n)
  | .turn _ _ _ => th
def thAt (ds : List Deed) (i : Nat) : List Str := (ds.take i).foldl step []
def Ok1 (sc : Int) (th : List Str) : Deed → Prop
  | .come n => n ∉ th ∧ NameOk n
  | .go n => n ∈ th
  | .turn _ sd so => SdOk sc th sd ∧ 0 ≤ so ∧ so ≤ sc
def DeedAt (H0 H : Hp) (q : Addr) : Deed → Prop
  | .come n => H q = some (.tup [.str "come", .str n])
  | .go n => H q = some (.tup [.str "go", .str n])
  | .turn e sd so => H q = some (.tup [.str "turn", .ref e, .int so]) ∧ H e = some (.dK (kvs sd)) ∧ H0 e = none
def PrsAt (H : Hp) (qs : List Addr) (ps : List PII) : Prop := qs.length = ps.length ∧ ∀ (j : Nat) (q : Addr) (p : PII), qs[j]? = some q → ps[j]? = some p → H q = some (.tup [.int p.1, .int p.2])

/-! ### the promises -/
def spWhole : Sp := fun vs H Q _ => ∃ i : Int, vs = [.int i] ∧ Q (.bl true) H
def spOn : Sp := fun vs H Q _ => ∃ sc x : Int, vs = [.int sc, .int x] ∧ 0 ≤ x ∧ x ≤ sc ∧ Q (.bl true) H
def spCh : Sp := fun vs H Q _ => ∃ a b : Int, vs = [.int a, .int b] ∧ Q (.int ((a - b).natAbs : Int)) H
def spPw : Sp := fun vs H Q _ => ∃ b e : Int, vs = [.int b, .int e] ∧ 0 ≤ b ∧ b ≤ 100 ∧ 0 ≤ e ∧ e ≤ 1000 ∧ Q (.int (pw b e.toNat)) H
def spSl : Sp := fun vs H Q _ => ∃ sc tp bt off : Int, vs = [.int sc, .int tp, .int bt, .int off] ∧ Scl sc tp bt ∧ 0 ≤ off ∧ off ≤ 10 ∧ ∀ r : Int, 0 ≤ r → r.natAbs < 2 ^ 220 → Q (.int r) H
def spAw : Sp := fun vs H Q _ => ∃ sc tp bt off own : Int, vs = [.int sc, .int tp, .int bt, .int off, .int own] ∧ Scl sc tp bt ∧ 0 ≤ off ∧ off ≤ 10 ∧ 0 ≤ own ∧ own ≤ sc ∧ ∀ r : Int, 0 ≤ r → r.natAbs < 2 ^ 220 → Q (.int r) H
def spFr : Sp := fun vs H Q _ => ∃ tp bt : Int, vs = [.int tp, .int bt] ∧ 0 ≤ tp ∧ tp < bt ∧ bt ≤ 100 ∧ Q .non H
def spMid (K : PySem.W.Frag) : Sp := fun vs H Q _ => ∃ (a b : Addr) (ns ws : List Int), vs = [.ref a, .ref b] ∧ SqT K H a (ns.map V.int) ∧ SqT K H b (ws.map V.int) ∧ ns.length = ws.length ∧ ns.length ≤ 100 ∧ ∀ H', Same H H' → Q (.int (mid (ns.zip ws))) H'
def spMidL : Sp := fun vs H Q _ => ∃ (a : Addr) (qs : List Addr) (ps : List PII), vs = [.ref a] ∧ H a = some (.lst (qs.map V.ref)) ∧ PrsAt H qs ps ∧ ps.length ≤ 100 ∧ ∀ H', Same H H' → Q (.int (mid ps)) H'
def spNm : Sp := fun vs H Q _ => ∃ z : Str, vs = [.str z] ∧ NameOk z ∧ ∀ H', Same H H' → Q (.bl true) H'
def spInit (C : Addr) : Sp := fun vs H Q _ => ∃ (p dx : Addr) (sc tp bt : Int), vs = [.ref p, .int sc, .int tp, .int bt] ∧ H p = some (.ins C dx []) ∧ Scl sc tp bt ∧
  ∀ (d : Addr) (H' : Hp), H d = none → BkAt C H' p d ⟨sc, tp, bt, [], 1, 0⟩ → (∀ c o, H c = some o → c ≠ p → H' c = some o) → Q .non H'
def spCome (C : Addr) : Sp := fun vs H Q _ => ∃ (p d : Addr) (b : Bk) (n : Str), vs = [.ref p, .str n] ∧ BkAt C H p d b ∧ NameOk n ∧ n ∉ ks b.ts ∧ b.ts.length ≤ 100 ∧
  ∀ H', BkAt C H' p d ⟨b.sc, b.tp, b.bt, b.ts ++ [(n, b.un)], b.un, b.cm + 1⟩ → Kept p d H H' → Q .non H'
def spGo (C : Addr) : Sp := fun vs H Q _ => ∃ (p d : Addr) (b : Bk) (n : Str), vs = [.ref p, .str n] ∧ BkAt C H p d b ∧ n ∈ ks b.ts ∧ b.ts.length < 64 ∧
  ∀ H', BkAt C H' p d ⟨b.sc, b.tp, b.bt, dr b.ts n, b.un, b.cm⟩ → Kept p d H H' → Q .non H'
def spThere (C : Addr) : Sp := fun vs H Q _ => ∃ (p d : Addr) (b : Bk), vs = [.ref p] ∧ BkAt C H p d b ∧ b.ts.length < 64 ∧
  ∀ (q : Addr) (ys : List Str) (H' : Hp), ys.Perm (ks b.ts) → H' q = some (.tup (ys.map V.str)) → Same H H' → Q (.ref q) H'
def spCheck (C : Addr) : Sp := fun vs H Q _ => ∃ (p d a : Addr) (b : Bk) (sd : List (Str × Int)), vs = [.ref p, .ref a] ∧ BkAt C H p d b ∧ H a = some (.dK (kvs sd)) ∧ a ≠ d ∧ SdOk b.sc (ks b.ts) sd ∧ Q .non H
def spSay (C : Addr) : Sp := fun vs H Q _ => ∃ (p d a : Addr) (b : Bk) (sd : List (Str × Int)), vs = [.ref p, .ref a] ∧ BkAt C H p d b ∧ H a = some (.dK (kvs sd)) ∧ a ≠ d ∧ SdOk b.sc (ks b.ts) sd ∧
  ∀ H', Same H H' → Q (.int (mid (prs sd b.ts))) H'
def spHear (C : Addr) : Sp := fun vs H Q _ => ∃ (p d a : Addr) (b : Bk) (sd : List (Str × Int)) (so : Int) (k : Nat), vs = [.ref p, .ref a, .int so] ∧ BkAt C H p d b ∧ H a = some (.dK (kvs sd)) ∧ a ≠ d ∧ SdOk b.sc (ks b.ts) sd ∧
  Scl b.sc b.tp b.bt ∧ 0 ≤ so ∧ so ≤ b.sc ∧ (ks b.ts).Nodup ∧ b.ts.length < 64 ∧ Bd k b.ts b.un ∧ k ≤ 100 ∧
  ∀ (H' : Hp) (ts' : List (Str × Int)) (un' : Int), ks ts' = ks b.ts → Bd (k + 1) ts' un' → BkAt C H' p d ⟨b.sc, b.tp, b.bt, ts', un', b.cm⟩ → Kept p d H H' → Q .non H'
def spWei (C : Addr) : Sp := fun vs H Q _ => ∃ (p d : Addr) (b : Bk), vs = [.ref p] ∧ BkAt C H p d b ∧
  ∀ (e q : Addr) (H' : Hp), H e = none → H q = none → H' e = some (.dK (kvs b.ts)) → H' q = some (.tup [.ref e, .int b.un]) → Same H H' → Q (.ref q) H'
def spCell (K : PySem.W.Frag) : Sp := fun vs H Q _ => ∃ (a : Addr) (ns : List Int) (k : Int), vs = [.ref a, .int k] ∧ SqL K H a (ns.map V.int) ∧ 0 ≤ k ∧ ∀ z : Int, Q (.int z) H
def spStr : Sp := fun vs H Q _ => ∃ c m : Int, vs = [.int c, .int m] ∧ 0 ≤ m ∧ m ≤ 100 ∧
  ∀ (l : Addr) (ns : List Int) (H' : Hp), ns.length = m.toNat → H l = none → H' l = some (.lst (ns.map V.int)) → Same H H' → Q (.ref l) H'
def spRul (K : PySem.W.Frag) : Sp := fun vs H Q _ => ∃ (a : Addr) (ns : List Int), vs = [.ref a] ∧ SqL K H a (ns.map V.int) ∧
  ∀ (q : Addr) (sc tp bt : Int) (H' : Hp), Scl sc tp bt → H' q = some (.tup [.int sc, .int tp, .int bt]) → Same H H' → Q (.ref q) H'
def spCells (K : PySem.W.Frag) : Sp := fun vs H Q _ => ∃ (a : Addr) (ns : List Int), vs = [.ref a, .int 3] ∧ SqL K H a (ns.map V.int) ∧ ns.length ≤ 63 ∧
  ∀ (l : Addr) (ms : List Int) (H' : Hp), ms.length ≤ 63 → H' l = some (.lst (ms.map V.int)) → Same H H' → Q (.ref l) H'
def spNms : Sp := fun vs H Q _ => ∃ c : Int, vs = [.int c, .int 6] ∧
  ∀ (l : Addr) (zs : List Str) (H' : Hp), zs.length = 6 → (∀ z ∈ zs, NameOk z) → H' l = some (.lst (zs.map V.str)) → Same H H' → Q (.ref l) H'
def spSaid : Sp := fun vs H Q _ => ∃ (a b : Addr) (th : List Str) (ns : List Int) (sc : Int), vs = [.ref a, .ref b, .int sc] ∧ H a = some (.lst (th.map V.str)) ∧ H b = some (.lst (ns.map V.int)) ∧ th.length ≤ ns.length ∧ th.length < 64 ∧ 0 ≤ sc ∧
  ∀ (e : Addr) (sd : List (Str × Int)) (H' : Hp), SdOk sc th sd → H e = none → H' e = some (.dK (kvs sd)) → Same H H' → Q (.ref e) H'
def spDeeds : Sp := fun vs H Q _ => ∃ (a b : Addr) (cs : List Int) (zs : List Str) (sc : Int), vs = [.ref a, .ref b, .int sc] ∧ H a = some (.lst (cs.map V.int)) ∧ cs.length ≤ 63 ∧ H b = some (.lst (zs.map V.str)) ∧ zs.length = 6 ∧ (∀ z ∈ zs, NameOk z) ∧ 0 ≤ sc ∧
  ∀ (l : Addr) (qs : List Addr) (ds : List Deed) (H' : Hp), H' l = some (.lst (qs.map V.ref)) → qs.length = ds.length → ds.length ≤ 63 → (∀ (j : Nat) (q : Addr) (D : Deed), qs[j]? = some q → ds[j]? = some D → DeedAt H H' q D) → (∀ (j : Nat) (D : Deed), ds[j]? = some D → Ok1 sc (thAt ds j) D) → Same H H' → Q (.ref l) H'
def spTurn : Sp := fun vs H Q _ => ∃ (a : Addr) (sd : List (Str × Int)) (sc : Int), vs = [.ref a, .int sc] ∧ H a = some (.dK (kvs sd)) ∧ (ks sd).Nodup ∧ sd.length < 64 ∧
  ∀ (e : Addr) (H' : Hp), H e = none → H' e = some (.dK (kvs (sd.map fun q => (q.1, sc - q.2)))) → Same H H' → Q (.ref e) H'
def spStill (C : Addr) : Sp := fun vs H Q _ => ∃ (p d a : Addr) (b : Bk) (sd : List (Str × Int)), vs = [.ref p, .ref a] ∧ BkAt C H p d b ∧ H a = some (.dK (kvs sd)) ∧ a ≠ d ∧ (ks sd).Nodup ∧ (∀ q ∈ sd, 0 ≤ q.2 ∧ q.2 ≤ b.sc) ∧ sd.length < 64 ∧
  ∀ H', Same H H' → Q (.bl true) H'
def spLaw (K : PySem.W.Frag) : Sp := fun vs H Q _ => ∃ (a : Addr) (ns : List Int), vs = [.ref a] ∧ SqL K H a (ns.map V.int) ∧ ns.length ≤ 63 ∧ ∀ H', Q (.bl true) H'

/-! ### helpers of the heap -/
theorem upd_back {H : Hp} {a : Addr} {o u : HO} (h : H a = some u) : upd (upd H a o) a u = H := by
  rw [upd_upd]
  funext b
  by_cases e : b = a
  · rw [e, upd_same, h]
  · rw [upd_ne e]
theorem same_upd {H : Hp} {a : Addr} {o : HO} (h : H a = none) : Same H (upd H a o) := fun b u e => by rw [upd_ne (ne_of_none e h)]; exact e
theorem same_lock {H H' : Hp} {a : Addr} {o u : HO} (s : Same (upd H a o) H') (h : H a = some u) : Same H (upd H' a u) := fun b v e => by
  by_cases z : b = a
  · subst z; rw [upd_same]; rw [h] at e; exact e
  · rw [upd_ne z]; exact s _ _ (by rw [upd_ne z]; exact e)
theorem Same.none {H H' : Hp} {a : Addr} (s : Same H H') (h : H' a = none) : H a = none := s.free h
/-! ### fields -/
theorem s01 : (("top" : Str) == "scale") = false := by decide +kernel
theorem s02 : (("bottom" : Str) == "scale") = false := by decide +kernel
theorem s12 : (("bottom" : Str) == "top") = false := by decide +kernel
theorem s03 : (("tops" : Str) == "scale") = false := by decide +kernel
theorem s13 : (("tops" : Str) == "top") = false := by decide +kernel
theorem s23 : (("tops" : Str) == "bottom") = false := by decide +kernel
theorem s04 : (("under" : Str) == "scale") = false := by decide +kernel
theorem s14 : (("under" : Str) == "top") = false := by decide +kernel
theorem s24 : (("under" : Str) == "bottom") = false := by decide +kernel
theorem s34 : (("under" : Str) == "tops") = false := by decide +kernel
theorem s05 : (("came" : Str) == "scale") = false := by decide +kernel
theorem s15 : (("came" : Str) == "top") = false := by decide +kernel
theorem s25 : (("came" : Str) == "bottom") = false := by decide +kernel
theorem s35 : (("came" : Str) == "tops") = false := by decide +kernel
theorem s45 : (("came" : Str) == "under") = false := by decide +kernel
theorem f_scale (d : Addr) (b : Bk) : (flds d b).lookup ("scale" : Str) = some (.int b.sc) := by unfold flds; rw [List.lookup_cons, beq_self_eq_true]
theorem f_top (d : Addr) (b : Bk) : (flds d b).lookup ("top" : Str) = some (.int b.tp) := by unfold flds; rw [List.lookup_cons, s01, List.lookup_cons, beq_self_eq_true]
theorem f_bottom (d : Addr) (b : Bk) : (flds d b).lookup ("bottom" : Str) = some (.int b.bt) := by unfold flds; rw [List.lookup_cons, s02, List.lookup_cons, s12, List.lookup_cons, beq_self_eq_true]
theorem f_tops (d : Addr) (b : Bk) : (flds d b).lookup ("tops" : Str) = some (.ref d) := by unfold flds; rw [List.lookup_cons, s03, List.lookup_cons, s13, List.lookup_cons, s23, List.lookup_cons, beq_self_eq_true]
theorem f_under (d : Addr) (b : Bk) : (flds d b).lookup ("under" : Str) = some (.int b.un) := by unfold flds; rw [List.lookup_cons, s04, List.lookup_cons, s14, List.lookup_cons, s24, List.lookup_cons, s34, List.lookup_cons, beq_self_eq_true]
theorem f_came (d : Addr) (b : Bk) : (flds d b).lookup ("came" : Str) = some (.int b.cm) := by unfold flds; rw [List.lookup_cons, s05, List.lookup_cons, s15, List.lookup_cons, s25, List.lookup_cons, s35, List.lookup_cons, s45, List.lookup_cons, beq_self_eq_true]
theorem f_no (d : Addr) (b : Bk) (m : Str) (h : [m == ("scale" : Str), m == ("top" : Str), m == ("bottom" : Str), m == ("tops" : Str), m == ("under" : Str), m == ("came" : Str)] = [false, false, false, false, false, false]) : (flds d b).lookup m = none := by
  injection h with h1 h
  injection h with h2 h
  injection h with h3 h
  injection h with h4 h
  injection h with h5 h
  injection h with h6 h
  unfold flds; rw [List.lookup_cons, h1, List.lookup_cons, h2, List.lookup_cons, h3, List.lookup_cons, h4, List.lookup_cons, h5, List.lookup_cons, h6, List.lookup_nil]
theorem nf {x y : Str} (h : (x == y) = false) : ¬ y = x := fun e => by rw [e, beq_self_eq_true] at h; cases h
theorem p_came (d : Addr) (b : Bk) (z : Int) : putF "came" (.int z) (flds d b) = flds d ⟨b.sc, b.tp, b.bt, b.ts, b.un, z⟩ := by
  unfold flds
  simp only [putF]
  rw [if_neg (nf s05), if_neg (nf s15), if_neg (nf s25), if_neg (nf s35), if_neg (nf s45), if_pos trivial]
theorem p_under (d : Addr) (b : Bk) (z : Int) : putF "under" (.int z) (flds d b) = flds d ⟨b.sc, b.tp, b.bt, b.ts, z, b.cm⟩ := by
  unfold flds
  simp only [putF]
  rw [if_neg (nf s04), if_neg (nf s14), if_neg (nf s24), if_neg (nf s34), if_pos trivial]
theorem p_all (d : Addr) (b : Bk) : putF "came" (.int b.cm) (putF "under" (.int b.un) (putF "tops" (.ref d) (putF "bottom" (.int b.bt) (putF "top" (.int b.tp) (putF "scale" (.int b.sc) []))))) = flds d b := by
  unfold flds
  simp only [putF, if_neg (nf s01), if_neg (nf s02), if_neg (nf s12), if_neg (nf s03), if_neg (nf s13), if_neg (nf s23), if_neg (nf s04), if_neg (nf s14), if_neg (nf s24), if_neg (nf s34), if_neg (nf s05), if_neg (nf s15), if_neg (nf s25), if_neg (nf s35), if_neg (nf s45)]
/-! ### deeds -/
theorem thAt_zero (ds : List Deed) : thAt ds 0 = [] := rfl
theorem thAt_succ {ds : List Deed} {i : Nat} {D : Deed} (h : ds[i]? = some D) : thAt ds (i + 1) = step (thAt ds i) D := by
  unfold thAt
  rw [List.take_add_one, h]
  simp [List.foldl_append]
theorem thAt_app {ds : List Deed} {i : Nat} (D : Deed) (h : i ≤ ds.length) : thAt (ds ++ [D]) i = thAt ds i := by
  unfold thAt
  rw [List.take_append_of_le_length h]
theorem nd_step {sc : Int} {th : List Str} {D : Deed} (h : th.Nodup) (o : Ok1 sc th D) : (step th D).Nodup := by
  cases D with
  | come n => exact nd_snoc h o.1
  | go n => exact h.sublist List.filter_sublist
  | turn e sd so => exact h
end K8

set_option Elab.async false
set_option linter.all false
set_option maxRecDepth 100000
set_option maxHeartbeats 4000000
/-! The small defs of numbers. -/
namespace K8
open PySem PySem.Spec PyProof.Rows L2
section
variable {P : Program} {w : World} {K : PySem.W.Frag} {mg : Str → Option Value} {base : Heap} {f C : Addr} {fd : FuncData}
theorem ok_wt (F : Fun K "is_whole" "is_whole" sWt f fd) (T : Txt K mg C) : FnOk P w K mg base CX0 1 f fd ["thing"] spWhole := by
  refine F.ok scWt (fun vs H Q E h => ?_) (fun cdv A outer s H vs Q E hr h => ?_)
  · obtain ⟨i, rfl, _⟩ := h
    rfl
  · obtain ⟨i, rfl, k⟩ := h
    refine ⟨_, (pss_one (ps_ret (pe_and (pe_callB call_isi (by rfl) T.n_isinstance (by decide +kernel) (pa_cons (pv 0) (pa_cons (pe_bltn (v := .ty "int") (by rfl) T.n_int (by decide +kernel) rfl) pa_nil))) (pe_one (pe_not (pe_callB call_isi (by rfl) T.n_isinstance (by decide +kernel) (pa_cons (pv 0) (pa_cons (pe_bltn (v := .ty "bool") (by rfl) T.n_bool (by decide +kernel) rfl) pa_nil)))))))), ?_⟩
    refine ⟨_, rfl, _, _, _, _, true, rfl, ClsV.ty _, TyX.base (TyOf.int _), kit_ty (by decide +kernel), _, rfl, iteT ?_⟩
    refine ⟨_, rfl, _, _, _, _, false, rfl, ClsV.ty _, TyX.base (TyOf.int _), kit_ty (by decide +kernel), _, rfl, ?_⟩
    exact k
theorem ok_wh (F : Fun K "is_whole" "is_whole" sWh f fd) (T : Txt K mg C) : FnOk P w K mg base CX0 1 f fd ["thing"] spWhole := by
  refine F.ok scWh (fun vs H Q E h => ?_) (fun cdv A outer s H vs Q E hr h => ?_)
  · obtain ⟨i, rfl, _⟩ := h
    rfl
  · obtain ⟨i, rfl, k⟩ := h
    refine ⟨_, (pss_one (ps_ret (pe_and (pe_callB call_isi (by rfl) T.n_isinstance (by decide +kernel) (pa_cons (pv 0) (pa_cons (pe_bltn (v := .ty "int") (by rfl) T.n_int (by decide +kernel) rfl) pa_nil))) (pe_one (pe_not (pe_callB call_isi (by rfl) T.n_isinstance (by decide +kernel) (pa_cons (pv 0) (pa_cons (pe_bltn (v := .ty "bool") (by rfl) T.n_bool (by decide +kernel) rfl) pa_nil)))))))), ?_⟩
    refine ⟨_, rfl, _, _, _, _, true, rfl, ClsV.ty _, TyX.base (TyOf.int _), kit_ty (by decide +kernel), _, rfl, iteT ?_⟩
    refine ⟨_, rfl, _, _, _, _, false, rfl, ClsV.ty _, TyX.base (TyOf.int _), kit_ty (by decide +kernel), _, rfl, ?_⟩
    exact k
theorem ok_on (F : Fun K "on_scale" "on_scale" sOn f fd) (T : Txt K mg C) (cWt : C8.Cal P w K mg base 1 "is_whole_turns" spWhole []) : FnOk P w K mg base CX0 2 f fd ["scale", "thing"] spOn := by
  refine F.ok scOn (fun vs H Q E h => ?_) (fun cdv A outer s H vs Q E hr h => ?_)
  · obtain ⟨sc, x, rfl, _⟩ := h
    rfl
  · obtain ⟨sc, x, rfl, h1, h2, k⟩ := h
    refine ⟨_, (pss_one (ps_ret (pe_and (C8.pe_c cWt hr (by decide) (by rfl) (pa_cons (pv 1) pa_nil)) (pe_one (pe_chain op_le op_le pe_int (pv 1) (pv 0)))))), ?_⟩
    refine ⟨_, rfl, _, rfl, _, rfl, iteT ?_⟩
    refine ⟨_, rfl, _, _, rfl, rfl, _, rfl, ?_⟩
    rw [decide_eq_true h1]
    refine iteT ?_
    refine ⟨_, rfl, _, _, rfl, rfl, ?_⟩
    show Q (V.bl (decide (x ≤ sc))) H
    rw [decide_eq_true h2]
    exact k
theorem ok_ch (F : Fun K "charge" "charge" sCh f fd) (T : Txt K mg C) : FnOk P w K mg base CX0 1 f fd ["what", "so"] spCh := by
  refine F.ok scCh (fun vs H Q E h => ?_) (fun cdv A outer s H vs Q E hr h => ?_)
  · obtain ⟨a, b, rfl, _⟩ := h
    rfl
  · obtain ⟨a, b, rfl, k⟩ := h
    refine ⟨_, (pss_cons (ps_if (pt_cmpR op_isN (pv 0) pe_non (nomark _)) (pss_one (ps_ret pe_int)) pss_nil)
      (pss_one (ps_ret (pe_callB call_abs (by rfl) T.n_abs (by decide +kernel) (pa_cons (pe_op op_sub (pv 0) (pv 1)) pa_nil))))), ?_⟩
    refine ⟨_, rfl, rfl, _, rfl, ?_⟩
    refine iteF ?_
    refine ⟨_, rfl, _, rfl, _, _, rfl, rfl, ?_⟩
    refine ⟨_, rfl, ?_⟩
    show Q (V.int (if a - b < 0 then -(a - b) else a - b)) H
    rw [abs_eq]
    exact k
theorem ok_pw (F : Fun K "power" "power" sPw f fd) (T : Txt K mg C) : FnOk P w K mg base CX0 1 f fd ["base", "exponent"] spPw := by
  refine F.ok scPw (fun vs H Q E h => ?_) (fun cdv A outer s H vs Q E hr h => ?_)
  · obtain ⟨a, b, rfl, _⟩ := h
    rfl
  · obtain ⟨b, e, rfl, b0, b1, e0, e1, k⟩ := h
    refine ⟨_, (pss_cons (ps_set (i := 2) scPw.nd rfl (.inl rfl) pe_int)
      (pss_cons (ps_for PassesOwn.never rfl (pi_range1 (by rfl) T.n_range (pa_cons (pv 1) pa_nil)) (pg_name (i := 3) scPw.nd rfl (.inl rfl)) (pss_one (ps_set (i := 2) scPw.nd rfl (.inl rfl) (pe_op op_mul (pv 2) (pv 0)))))
      (pss_one (ps_ret (pv 2))))), ?_⟩
    refine ⟨_, rfl, e, rfl, by omega, by omega, ?_⟩
    refine for_range (lo := 0) (n := e.toNat) (fun i σ H2 => H2 = H ∧ ∃ v, σ = [some (.int b), some (.int e), some (.int (pw b i)), v]) ⟨rfl, none, by rw [show pw b 0 = 1 from by unfold pw; simp]; rfl⟩ ?_ ?_
    · rintro i σ H2 hi ⟨rfl, v, rfl⟩
      refine ⟨_, rfl, _, rfl, _, _, rfl, rfl, .inr ⟨by omega, by omega⟩, ?_⟩
      exact ⟨rfl, _, by rw [pw_succ]; rfl⟩
    · rintro σ H2 ⟨rfl, v, rfl⟩
      exact ⟨_, rfl, k⟩
theorem ok_fr (F : Fun K "check_fraction" "check_fraction" sFr f fd) (T : Txt K mg C) (cWh : C8.Cal P w K mg base 1 "is_whole_hands" spWhole []) : FnOk P w K mg base CX0 2 f fd ["top", "bottom"] spFr := by
  refine F.ok scFr (fun vs H Q E h => ?_) (fun cdv A outer s H vs Q E hr h => ?_)
  · obtain ⟨a, b, rfl, _⟩ := h
    rfl
  · obtain ⟨a, b, rfl, h1, h2, h3, k⟩ := h
    obtain ⟨tM, eM⟩ := T.xMost
    refine ⟨_, (pss_one (ps_if (PW.pt (pw_or (pt_not (pt_val (C8.pe_c cWh hr (by decide) (by rfl) (pa_cons (pv 0) pa_nil)))) (pw_or (pt_not (pt_val (C8.pe_c cWh hr (by decide) (by rfl) (pa_cons (pv 1) pa_nil)))) (pw_or1 (pt_not (pt_chain3 op_le op_lt op_le pe_int (pv 0) (pv 1) (pe_glob (v := .int 100) (by rfl) eM ⟨_, rfl⟩))))))) (pss_one ps_never) pss_nil)), ?_⟩
    refine ⟨_, rfl, _, rfl, _, rfl, ?_⟩
    refine iteF ?_
    refine ⟨_, rfl, _, rfl, _, rfl, ?_⟩
    refine iteF ?_
    refine ⟨_, rfl, _, _, rfl, rfl, _, rfl, ?_⟩
    rw [decide_eq_true h1]
    refine iteT ?_
    refine ⟨_, rfl, _, _, rfl, rfl, _, rfl, ?_⟩
    rw [decide_eq_true h2]
    refine iteT ?_
    refine ⟨_, _, rfl, rfl, _, rfl, ?_⟩
    rw [decide_eq_true h3]
    refine iteF ?_
    exact k
theorem ok_sl (F : Fun K "asleep_factor" "asleep_factor" sSl f fd) (T : Txt K mg C) (cPw : C8.Cal P w K mg base 1 "power" spPw []) : FnOk P w K mg base CX0 2 f fd ["scale", "top", "bottom", "off"] spSl := by
  refine F.ok scSl (fun vs H Q E h => ?_) (fun cdv A outer s H vs Q E hr h => ?_)
  · obtain ⟨_, _, _, _, rfl, _⟩ := h
    rfl
  · obtain ⟨sc, tp, bt, off, rfl, ⟨z1, z2, z3, z4, z5⟩, o0, o1, k⟩ := h
    refine ⟨_, (pss_one (ps_ret (pe_op op_mulW (C8.pe_c cPw hr (by decide) (by rfl) (pa_cons (pv 2) (pa_cons (pv 0) pa_nil))) (pe_op op_add (C8.pe_c cPw hr (by decide) (by rfl) (pa_cons (pv 2) (pa_cons (pv 3) pa_nil))) (C8.pe_c cPw hr (by decide) (by rfl) (pa_cons (pv 1) (pa_cons (pv 3) pa_nil))))))), ?_⟩
    refine ⟨_, rfl, _, rfl, _, _, rfl, by omega, z5, by omega, by omega, ?_⟩
    refine ⟨_, rfl, _, rfl, _, _, rfl, by omega, z5, o0, by omega, ?_⟩
    refine ⟨_, rfl, _, rfl, _, _, rfl, z3, by omega, o0, by omega, ?_⟩
    obtain ⟨a0, a1⟩ := pw_b (b := bt) (by omega) z5 (e := sc.toNat) (by omega)
    obtain ⟨b0, b1⟩ := pw_b (b := bt) (by omega) z5 (e := off.toNat) (by omega)
    obtain ⟨c0, c1⟩ := pw_b (b := tp) z3 (by omega) (e := off.toNat) (by omega)
    have d1 : (pw bt off.toNat + pw tp off.toNat).natAbs < 2 ^ 72 := by omega
    refine ⟨_, _, rfl, rfl, ?_⟩
    refine ⟨_, _, rfl, rfl, wide_mul a1 d1 (by decide) (by decide) (by decide), ?_⟩
    refine k _ (Int.mul_nonneg a0 (by omega)) (Nat.lt_of_lt_of_le (wide_lt a1 d1) (Nat.pow_le_pow_right (by decide) (by decide)))
theorem ok_aw (F : Fun K "awake_factor" "awake_factor" sAw f fd) (T : Txt K mg C) (cPw : C8.Cal P w K mg base 1 "power" spPw []) : FnOk P w K mg base CX0 2 f fd ["scale", "top", "bottom", "off", "own"] spAw := by
  refine F.ok scAw (fun vs H Q E h => ?_) (fun cdv A outer s H vs Q E hr h => ?_)
  · obtain ⟨_, _, _, _, _, rfl, _⟩ := h
    rfl
  · obtain ⟨sc, tp, bt, off, own, rfl, ⟨z1, z2, z3, z4, z5⟩, o0, o1, w0, w1, k⟩ := h
    refine ⟨_, (pss_one (ps_ret (pe_op op_mulW (pe_op op_mulW (pe_op op_mulW (C8.pe_c cPw hr (by decide) (by rfl) (pa_cons (pv 1) (pa_cons (pv 4) pa_nil))) (C8.pe_c cPw hr (by decide) (by rfl) (pa_cons (pv 2) (pa_cons (pe_op op_sub (pv 0) (pv 4)) pa_nil)))) pe_int) (C8.pe_c cPw hr (by decide) (by rfl) (pa_cons (pv 2) (pa_cons (pv 3) pa_nil)))))), ?_⟩
    refine ⟨_, rfl, _, rfl, _, _, rfl, z3, by omega, w0, by omega, ?_⟩
    refine ⟨_, rfl, _, rfl, _, rfl, _, _, rfl, rfl, ?_⟩
    refine ⟨_, _, rfl, by omega, z5, by omega, by omega, ?_⟩
    obtain ⟨a0, a1⟩ := pw_b (b := tp) z3 (by omega) (e := own.toNat) (by omega)
    obtain ⟨b0, b1⟩ := pw_b (b := bt) (by omega) z5 (e := (sc - own).toNat) (by omega)
    obtain ⟨c0, c1⟩ := pw_b (b := bt) (by omega) z5 (e := off.toNat) (by omega)
    have m0 := Int.mul_nonneg a0 b0
    have m1 := wide_lt a1 b1
    have n0 : (0 : Int) ≤ pw tp own.toNat * pw bt (sc - own).toNat * 2 := by omega
    have n1 : (pw tp own.toNat * pw bt (sc - own).toNat * 2).natAbs < 2 ^ 143 := by omega
    refine ⟨_, _, rfl, rfl, wide_mul a1 b1 (by decide) (by decide) (by decide), ?_⟩
    refine ⟨_, _, rfl, rfl, wide_mul (b := 2) m1 (by decide) (by decide) (by decide) (by decide), ?_⟩
    refine ⟨_, rfl, _, rfl, _, _, rfl, by omega, z5, o0, by omega, ?_⟩
    refine ⟨_, _, rfl, rfl, wide_mul n1 c1 (by decide) (by decide) (by decide), ?_⟩
    exact k _ (Int.mul_nonneg n0 c0) (Nat.lt_of_lt_of_le (wide_lt n1 c1) (Nat.pow_le_pow_right (by decide) (by decide)))
end
end K8

set_option Elab.async false
set_option linter.all false
set_option maxRecDepth 100000
set_option maxHeartbeats 4000000
/-! The book's defs, the first half. -/
namespace K8
open PySem PySem.Spec PyProof.Rows L2
theorem dget_s {H : Hp} {a : Addr} {ts : List (Str × Int)} {n : Str} {x : Int} (h : Rd H a (.dK (kvs ts))) (e : lk ts n = some x) : DGet H a (.str n) (some (.int x)) :=
  .inl ⟨kvs ts, Sum.inr n, h, rfl, by rw [valV_kvs, e]; rfl⟩
theorem dget_o {H : Hp} {a : Addr} {ts : List (Str × Int)} {n : Str} (h : Rd H a (.dK (kvs ts))) : DGet H a (.str n) ((lk ts n).map V.int) :=
  .inl ⟨kvs ts, Sum.inr n, h, rfl, by rw [valV_kvs]⟩
theorem dput_s {H : Hp} {a : Addr} {ts : List (Str × Int)} {n : Str} {x : Int} (h : H a = some (.dK (kvs ts))) (hl : ts.length ≤ 1000) : DPut H a (.str n) (.int x) (upd H a (.dK (kvs (pt ts n x)))) :=
  .inl ⟨kvs ts, Sum.inr n, h, rfl, by rw [kvs_len]; exact small1000 hl, by rw [kvs_put]⟩
theorem lk_in {ts : List (Str × Int)} {n : Str} (h : n ∈ ks ts) : ∃ x, lk ts n = some x := by
  have := lk_isSome_iff.mpr h
  cases e : lk ts n with
  | none => rw [e] at this; cases this
  | some x => exact ⟨x, rfl⟩
theorem ks_len (ts : List (Str × Int)) : (ks ts).length = ts.length := List.length_map _
/-- the i-th key of a walk over a dict -/
theorem key_at {sd : List (Str × Int)} {i : Nat} {k : Key} {v : V} (h : (kvs sd)[i]? = some (k, v)) : ∃ q : Str × Int, sd[i]? = some q ∧ k = Sum.inr q.1 ∧ v = .int q.2 := by
  unfold kvs at h
  rw [List.getElem?_map] at h
  cases e : sd[i]? with
  | none => rw [e] at h; cases h
  | some q =>
    rw [e] at h
    have z := Option.some.inj h
    exact ⟨q, rfl, (congrArg Prod.fst z).symm, (congrArg Prod.snd z).symm⟩
theorem inV_str (n : Str) : ∀ l : List Str, inV (.str n) (l.map V.str) = decide (n ∈ l)
  | [] => rfl
  | m :: r => by
    have ih := inV_str n r
    unfold inV at ih ⊢
    rw [List.map_cons, List.any_cons, ih]
    have e : eqV (.str m) (.str n) = decide (m = n) := by first | rfl | (unfold eqV; rfl)
    rw [e, ← Bool.decide_or]
    refine decide_eq_decide.mpr ?_
    rw [List.mem_cons]
    exact ⟨fun h => h.imp Eq.symm id, fun h => h.imp Eq.symm id⟩
theorem flat_strs (l : List Str) : (l.map V.str).all flatV = true := by
  rw [List.all_map, List.all_eq_true]; intro x _; rfl
theorem pls {f : Str} {v : V} {fs : List (Str × V)} {n : Nat} (h : fs.length ≤ n) : (putF f v fs).length ≤ n + 1 := Nat.le_trans (length_putF f v fs) (Nat.succ_le_succ h)
theorem pl0 : ([] : List (Str × V)).length ≤ 0 := Nat.le_refl _
theorem lt1000 {m n : Nat} (h : m ≤ n) (hn : n < 1000) : m < 1000 := Nat.lt_of_le_of_lt h hn
section
variable {P : Program} {w : World} {K : PySem.W.Frag} {mg : Str → Option Value} {base : Heap} {f C : Addr} {fd : FuncData}
theorem ok_nm (F : Fun K "is_name" "is_name" sNm f fd) (T : Txt K mg C) : FnOk P w K mg base CX0 1 f fd ["thing"] spNm := by
  refine F.ok scNm (fun vs H Q E h => ?_) (fun cdv A outer s H vs Q E hr h => ?_)
  · obtain ⟨i, rfl, _⟩ := h
    rfl
  · obtain ⟨z, rfl, ⟨n1, n2, n3⟩, k⟩ := h
    obtain ⟨tL, eL⟩ := T.xLet
    refine ⟨_, (pss_cons (ps_if (PW.pt (pw_or (pt_not (pt_val (pe_callB call_isi (by rfl) T.n_isinstance (by decide +kernel) (pa_cons (pv 0) (pa_cons (pe_bltn (v := .ty "str") (by rfl) T.n_str (by decide +kernel) rfl) pa_nil))))) (pw_or1 (pt_not (pt_chain op_le op_le pe_int (pe_callB call_len_str (by rfl) T.n_len (by decide +kernel) (pa_cons (pv 0) pa_nil)) pe_int))))) (pss_one (ps_ret pe_bl)) pss_nil)
      (pss_one (ps_ret (pe_callB (cr_all rfl) (by rfl) T.n_all (by decide +kernel) (pa_cons (pe_lc (own := [("sign", 1)]) (g := gName 1) (tt := tYes) rfl scNm.nd (pi_str (pv 0)) (blkOk_by (own := [("sign", 1)]) (N := NNm) (sc := defScope sNm) (by decide +kernel)) (fun _ _ _ _ _ => pg_name (i := 1) scNm.nd rfl (Or.inl rfl)) (fun _ _ _ _ _ => pts_nil) (fun _ _ _ _ _ => (pe_cmpR op_in_sign (pv 1) (pe_glob (v := .str letters) (by rfl) eL ⟨_, rfl⟩) (by rfl)))) pa_nil))))), ?_⟩
    refine ⟨_, rfl, _, _, _, _, true, rfl, ClsV.ty _, TyX.base (TyOf.str _), kit_ty (by decide +kernel), _, rfl, ?_⟩
    refine iteF ?_
    refine ⟨_, rfl, _, rfl, ?_⟩
    refine ⟨by show z.cps.size ≤ sizeLine; exact Nat.le_of_lt (small1000 (by omega)), _, _, rfl, rfl, _, rfl, ?_⟩
    have lz : z.length = z.cps.size := rfl
    rw [decide_eq_true (show (1 : Int) ≤ (z.length : Int) by omega)]
    refine iteT ?_
    refine ⟨_, _, rfl, rfl, _, rfl, ?_⟩
    rw [decide_eq_true (show (z.length : Int) ≤ 8 by omega)]
    refine iteF ?_
    refine ⟨_, rfl, _, rfl, fun D hD => ?_⟩
    refine lc_it walk_str (fun i H2 => Same H H2 ∧ H2 D = some (.lst ((List.replicate i true).map V.bl)) ∧ i ≤ 8) ⟨same_upd hD, upd_same, Nat.zero_le _⟩ (fun i H2 _ _ => trivial) ?_ ?_
    · rintro i x H2 H' hi ⟨s2, h2, hi8⟩ ⟨rfl, c, hc, rfl⟩
      refine ⟨rfl, ?_⟩
      refine ⟨_, rfl, c, letters, rfl, rfl, ?_⟩
      have hc' : c ∈ letters.cps.toList := n3 c (by
        obtain ⟨h, e⟩ := Array.getElem?_eq_some_iff.mp hc
        rw [← e]
        exact Array.mem_toList_iff.mpr (Array.getElem_mem h))
      rw [decide_eq_true hc']
      refine ⟨_, h2, small1000 (by simp; omega), ?_⟩
      refine ⟨fun b o e => ?_, ?_, by omega⟩
      · rw [upd_ne (ne_of_none e hD)]
        exact s2 b o e
      · rw [upd_same, List.replicate_succ', List.map_append]
        all_goals rfl
    · rintro H2 ⟨s2, h2, _⟩
      refine ⟨D, _, rfl, SqL.of h2, ?_⟩
      have e : (List.replicate z.cps.size true).all id = true := by rw [List.all_eq_true]; intro x hx; exact (List.mem_replicate.mp hx).2
      rw [e]
      exact k _ s2
theorem ok_init (F : Fun K "__init__" "Book.__init__" sInit f fd) (T : Txt K mg C) (cWt : C8.Cal P w K mg base 1 "is_whole_turns" spWhole []) (cFr : C8.Cal P w K mg base 2 "check_fraction" spFr []) : FnOk P w K mg base CX0 3 f fd ["self", "scale", "top", "bottom"] (spInit C) := by
  refine F.ok scInit (fun vs H Q E h => ?_) (fun cdv A outer s H vs Q E hr h => ?_)
  · obtain ⟨_, _, _, _, _, rfl, _⟩ := h
    rfl
  · obtain ⟨p, dx, sc, tp, bt, rfl, hp, ⟨z1, z2, z3, z4, z5⟩, k⟩ := h
    refine ⟨_, (pss_cons (ps_if (PW.pt (pw_or (pt_not (pt_val (C8.pe_c cWt hr (by decide) (by rfl) (pa_cons (pv 1) pa_nil)))) (pw_or1 (pt_not (pt_chain op_le op_le pe_int (pv 1) pe_int))))) (pss_one ps_never) pss_nil)
      (pss_cons (ps_expr (C8.pe_c cFr hr (by decide) (by rfl) (pa_cons (pv 2) (pa_cons (pv 3) pa_nil))))
      (pss_cons (ps_fld (pv 0) (pv 1) rfl)
      (pss_cons (ps_fld (pv 0) (pv 2) rfl)
      (pss_cons (ps_fld (pv 0) (pv 3) rfl)
      (pss_cons (ps_fld (pv 0) pe_dnewK rfl)
      (pss_cons (ps_fld (pv 0) pe_int rfl)
      (pss_one (ps_fld (pv 0) pe_int rfl))))))))), ?_⟩
    refine ⟨_, rfl, _, rfl, _, rfl, ?_⟩
    refine iteF ?_
    refine ⟨_, rfl, _, _, rfl, rfl, _, rfl, ?_⟩
    rw [decide_eq_true z1]
    refine iteT ?_
    refine ⟨_, _, rfl, rfl, _, rfl, ?_⟩
    rw [decide_eq_true z2]
    refine iteF ?_
    refine ⟨_, rfl, _, rfl, _, _, rfl, z3, z4, z5, ?_⟩
    refine ⟨_, rfl, _, rfl, p, C, dx, _, rfl, hp, T.cl, T.a_scale, (by show 0 < 1000; decide), ?_⟩
    refine ⟨_, rfl, _, rfl, p, C, dx, _, rfl, upd_same, T.cl, T.a_top, (by show 1 < 1000; decide), ?_⟩
    refine ⟨_, rfl, _, rfl, p, C, dx, _, rfl, upd_same, T.cl, T.a_bottom, lt1000 (pls (pls pl0)) (by decide), ?_⟩
    intro d hd
    have hd0 : H d = none := by
      by_cases e : d = p
      · rw [e, upd_same] at hd; cases hd
      · rw [upd_ne e, upd_ne e, upd_ne e] at hd; exact hd
    have npd : p ≠ d := ne_of_none hp hd0
    refine ⟨_, rfl, p, C, dx, _, rfl, Eq.trans (upd_ne npd) upd_same, T.cl, T.a_tops, lt1000 (pls (pls (pls pl0))) (by decide), ?_⟩
    refine ⟨_, rfl, p, C, dx, _, rfl, upd_same, T.cl, T.a_under, lt1000 (pls (pls (pls (pls pl0)))) (by decide), ?_⟩
    refine ⟨_, rfl, p, C, dx, _, rfl, upd_same, T.cl, T.a_came, lt1000 (pls (pls (pls (pls (pls pl0))))) (by decide), ?_⟩
    refine k d _ hd0 ⟨⟨dx, Eq.trans upd_same (congrArg (fun l => some (HO.ins C dx l)) (p_all d ⟨sc, tp, bt, [], 1, 0⟩))⟩, ?_⟩ fun c o e hc => ?_
    · rw [upd_ne npd.symm, upd_ne npd.symm, upd_ne npd.symm, upd_same]
      rfl
    · rw [upd_ne hc, upd_ne hc, upd_ne hc, upd_ne (ne_of_none e hd0), upd_ne hc, upd_ne hc, upd_ne hc]
      exact e
theorem ok_come (F : Fun K "come" "Book.come" sCome f fd) (T : Txt K mg C) (cNm : C8.Cal P w K mg base 1 "is_name" spNm []) : FnOk P w K mg base CX0 2 f fd ["self", "name"] (spCome C) := by
  refine F.ok scCome (fun vs H Q E h => ?_) (fun cdv A outer s H vs Q E hr h => ?_)
  · obtain ⟨_, _, _, _, rfl, _⟩ := h
    rfl
  · obtain ⟨p, d, b, n, rfl, B, hn, hni, hl, k⟩ := h
    have hu := hu_of hr
    refine ⟨_, (pss_cons (ps_if (pt_not (pt_val (C8.pe_c cNm hr (by decide) (by rfl) (pa_cons (pv 1) pa_nil)))) (pss_one ps_never) pss_nil)
      (pss_cons (ps_if (pt_cmp (pc_din hu (pv 1) (pe_fld (pv 0) rfl))) (pss_one ps_never) pss_nil)
      (pss_cons (ps_dput hu (pe_fld (pv 0) rfl) (pv 1) (pe_fld (pv 0) rfl) rfl)
      (pss_one (ps_fldaug (pv 0) pe_int in_add))))), ?_⟩
    refine ⟨_, rfl, n, rfl, hn, fun H1 s1 => ?_⟩
    have B1 := B.same s1
    have npd := B1.ne
    obtain ⟨⟨dx, h1⟩, h2⟩ := id B1
    refine ⟨_, rfl, ?_⟩
    refine iteF ?_
    refine ⟨_, rfl, _, rfl, p, C, dx, _, _, rfl, h1, T.cl, T.a_tops, f_tops _ _, d, _, rfl, dget_o (.inl h2), _, rfl, ?_⟩
    rw [lk_none_iff.mpr hni]
    refine iteF ?_
    refine ⟨_, rfl, p, C, dx, _, _, rfl, h1, T.cl, T.a_under, f_under _ _, _, rfl, p, C, dx, _, _, rfl, h1, T.cl, T.a_tops, f_tops _ _, _, rfl, d, _, rfl, dput_s h2 (by omega), ?_⟩
    refine ⟨_, rfl, p, C, dx, _, _, rfl, Eq.trans (upd_ne npd) h1, T.cl, T.a_came, f_came _ _, _, _, rfl, rfl, dx, _, Eq.trans (upd_ne npd) h1, (by show 6 < 1000; decide), ?_⟩
    refine k _ ⟨⟨dx, Eq.trans upd_same (congrArg (fun l => some (HO.ins C dx l)) (p_came d b (b.cm + 1)))⟩, ?_⟩ fun c o e hp hd => ?_
    · rw [upd_ne npd.symm, upd_same, pt_new _ hni]
    · rw [upd_ne hp, upd_ne hd]
      exact s1 _ _ e
theorem ok_there (F : Fun K "there" "Book.there" sThere f fd) (T : Txt K mg C) : FnOk P w K mg base CX0 1 f fd ["self"] (spThere C) := by
  refine F.ok scThere (fun vs H Q E h => ?_) (fun cdv A outer s H vs Q E hr h => ?_)
  · obtain ⟨_, _, _, rfl, _⟩ := h
    rfl
  · obtain ⟨p, d, b, rfl, B, hl, k⟩ := h
    obtain ⟨⟨dx, h1⟩, h2⟩ := id B
    refine ⟨_, (pss_one (ps_ret (pe_callTy call_tuple_of (by rfl) T.n_tuple (by decide +kernel) (pa_cons (pe_callB cr_sortedS (by rfl) T.n_sorted (by decide +kernel) (pa_cons (pe_callTy (call_listD rfl) (by rfl) T.n_list (by decide +kernel) (pa_cons (pe_fld (pv 0) rfl) pa_nil)) pa_nil)) pa_nil)))), ?_⟩
    refine ⟨_, rfl, p, C, dx, _, _, rfl, h1, T.cl, T.a_tops, f_tops _ _, d, _, rfl, .inl h2, fun q hq => ?_⟩
    refine ⟨q, ks b.ts, rfl, SqL.of (by rw [upd_same, kvs_names]), by rw [ks_len]; exact hl, fun ys r hp _ hr0 => ?_⟩
    refine ⟨r, _, rfl, .inl ⟨SqL.of upd_same, fun l hl0 => ?_⟩⟩
    have s1 : Same H _ := same_upd (o := .lst ((kvs b.ts).map fun kv => kV kv.1)) hq
    refine k l ys _ hp upd_same ?_
    exact (s1.trans (same_upd hr0)).trans (same_upd hl0)
theorem ok_go (F : Fun K "go" "Book.go" sGo f fd) (T : Txt K mg C) (mThere : C8.Met P w K mg base 1 C "there" (spThere C) []) : FnOk P w K mg base CX0 2 f fd ["self", "name"] (spGo C) := by
  refine F.ok scGo (fun vs H Q E h => ?_) (fun cdv A outer s H vs Q E hr h => ?_)
  · obtain ⟨_, _, _, _, rfl, _⟩ := h
    rfl
  · obtain ⟨p, d, b, n, rfl, B, hn, hl, k⟩ := h
    obtain ⟨⟨dx, h1⟩, h2⟩ := id B
    refine ⟨_, (pss_cons (ps_if (pt_cmpR op_notIn_seq (pv 1) (C8.pe_mt0 mThere hr (by decide) (pv 0)) (by rfl)) (pss_one ps_never) pss_nil)
      (pss_one (ps_expr (pe_dpop1 (pe_fld (pv 0) rfl) (pv 1) ⟨rfl, rfl, rfl, rfl⟩)))), ?_⟩
    refine ⟨_, rfl, _, rfl, p, dx, _, rfl, h1, f_no _ _ _ (by decide +kernel), p, d, b, rfl, B, hl, fun q ys H1 hp hq s1 => ?_⟩
    have B1 := B.same s1
    have npd := B1.ne
    obtain ⟨⟨dy, g1⟩, g2⟩ := id B1
    refine ⟨q, _, rfl, .inr (SqT.of hq), rfl, flat_strs _, _, rfl, ?_⟩
    rw [inV_str, decide_eq_true (hp.mem_iff.mpr hn)]
    refine iteF ?_
    refine ⟨_, rfl, p, C, dy, _, _, rfl, g1, T.cl, T.a_tops, f_tops _ _, d, rfl, .inl ⟨_, .inl g2⟩, _, rfl, ?_⟩
    obtain ⟨x, hx⟩ := lk_in hn
    refine ⟨_, Sum.inr n, .int x, g2, rfl, by rw [valV_kvs, hx]; rfl, ?_⟩
    refine k _ ⟨⟨dy, Eq.trans (upd_ne npd) g1⟩, by rw [upd_same, kvs_drop]⟩ fun c o e hp hd => ?_
    rw [upd_ne hd]
    exact s1 _ _ e
theorem ok_wei (F : Fun K "weights" "Book.weights" sWei f fd) (T : Txt K mg C) : FnOk P w K mg base CX0 1 f fd ["self"] (spWei C) := by
  refine F.ok scWei (fun vs H Q E h => ?_) (fun cdv A outer s H vs Q E hr h => ?_)
  · obtain ⟨_, _, _, rfl, _⟩ := h
    rfl
  · obtain ⟨p, d, b, rfl, B, k⟩ := h
    obtain ⟨⟨dx, h1⟩, h2⟩ := id B
    refine ⟨_, (pss_one (ps_ret (pe_tup (pa_cons (pe_callTy call_dictD (by rfl) T.n_dict (by decide +kernel) (pa_cons (pe_fld (pv 0) rfl) pa_nil)) (pa_cons (pe_fld (pv 0) rfl) pa_nil))))), ?_⟩
    refine ⟨_, rfl, p, C, dx, _, _, rfl, h1, T.cl, T.a_tops, f_tops _ _, d, _, rfl, .inl h2, fun e he => ?_⟩
    have npe : p ≠ e := ne_of_none h1 he
    refine ⟨_, rfl, p, C, dx, _, _, rfl, Eq.trans (upd_ne npe) h1, T.cl, T.a_under, f_under _ _, (by show 2 ≤ sizeLine; decide), fun q hq => ?_⟩
    have s1 : Same H _ := same_upd (o := .dK (kvs b.ts)) he
    have neq : e ≠ q := ne_of_none (upd_same (H := H) (a := e) (o := .dK (kvs b.ts))) hq
    exact k e q _ he (s1.free hq) (Eq.trans (upd_ne neq) upd_same) upd_same (s1.trans (same_upd hq))
end
end K8

set_option Elab.async false
set_option linter.all false
set_option maxRecDepth 100000
set_option maxHeartbeats 4000000
/-! Pairs at the heap, sorted; data of ints and pairs. -/
namespace K8
open PySem PySem.Spec PyProof.Rows L2
theorem sqT_same {K : PySem.W.Frag} {H H' : Hp} {a : Addr} {xs : List V} (e : Same H H') (h : SqT K H a xs) : SqT K H' a xs := by
  rcases h with (h | ⟨o, h⟩) | h
  · exact .inl (.inl (e _ _ h))
  · exact .inl (.inr ⟨o, e _ _ h⟩)
  · exact .inr h
theorem take_snoc {α : Type} {l : List α} {i : Nat} {x : α} (h : l[i]? = some x) : l.take (i + 1) = l.take i ++ [x] := by
  rw [List.take_add_one, h]; rfl
theorem drop_cons {α : Type} {l : List α} {i : Nat} {x : α} (h : l[i]? = some x) : l.drop i = x :: l.drop (i + 1) := by
  obtain ⟨hl, e⟩ := List.getElem?_eq_some_iff.mp h
  rw [List.drop_eq_getElem_cons hl, e]
theorem map_at {α β : Type} {g : α → β} {l : List α} {i : Nat} {y : β} (h : (l.map g)[i]? = some y) : ∃ x, l[i]? = some x ∧ y = g x := by
  rw [List.getElem?_map] at h
  cases e : l[i]? with
  | none => rw [e] at h; cases h
  | some x => rw [e] at h; exact ⟨x, rfl, (Option.some.inj h).symm⟩
/-! ### data -/
theorem dp_ints {K : PySem.W.Frag} {H : Hp} : ∀ ns : List Int, DpAll K H (ns.map V.int) (ns.map PyData.int)
  | [] => .nil
  | n :: r => .cons (.int n) (dp_ints r)
theorem canLay_ints : ∀ ns : List Int, PyData.canLayAll0 (ns.map PyData.int) = true
  | [] => by simp [PyData.canLayAll0]
  | _ :: r => by simp [PyData.canLayAll0, PyData.canLay0, canLay_ints r]
theorem depth_ints : ∀ ns : List Int, PyData.depthAll (ns.map PyData.int) ≤ 1
  | [] => by simp [PyData.depthAll]
  | _ :: r => by
    have := depth_ints r
    simp only [List.map_cons, PyData.depthAll, PyData.depth]
    omega
theorem shaped_tup (ns : List Int) : SeqAt.shaped (.tuple (ns.map PyData.int)) = true := by
  have h1 := depth_ints ns
  have h2 : PyData.depth (.tuple (ns.map PyData.int)) ≤ 64 := by simp only [PyData.depth]; omega
  show (PyData.canLay0 (.tuple (ns.map PyData.int)) && decide (PyData.depth (.tuple (ns.map PyData.int)) ≤ 64)) = true
  rw [Bool.and_eq_true]
  exact ⟨by simp only [PyData.canLay0]; exact canLay_ints ns, decide_eq_true h2⟩
theorem eqv_tup (ns : List Int) : PyData.eqv (.tuple (ns.map PyData.int)) (.tuple []) = decide (ns = []) := by
  cases ns with
  | nil => simp [PyData.eqv, PyData.eqvAll]
  | cons n r => simp [PyData.eqv, PyData.eqvAll]
def dPr (p : PII) : PyData := .tuple [.int p.1, .int p.2]
theorem canLay_prs : ∀ ps : List PII, PyData.canLayAll0 (ps.map dPr) = true
  | [] => by simp [PyData.canLayAll0]
  | p :: r => by simp [PyData.canLayAll0, PyData.canLay0, dPr, canLay_prs r]
theorem depth_prs : ∀ ps : List PII, PyData.depthAll (ps.map dPr) ≤ 3
  | [] => by simp [PyData.depthAll]
  | _ :: r => by
    have := depth_prs r
    simp only [List.map_cons, PyData.depthAll, PyData.depth, dPr]
    omega
theorem shaped_prs (ps : List PII) : SeqAt.shaped (.list (ps.map dPr)) = true := by
  have h1 := depth_prs ps
  have h2 : PyData.depth (.list (ps.map dPr)) ≤ 64 := by simp only [PyData.depth]; omega
  show (PyData.canLay0 (.list (ps.map dPr)) && decide (PyData.depth (.list (ps.map dPr)) ≤ 64)) = true
  rw [Bool.and_eq_true]
  exact ⟨by simp only [PyData.canLay0]; exact canLay_prs ps, decide_eq_true h2⟩
theorem eqv_prs (ps : List PII) : PyData.eqv (.list (ps.map dPr)) (.list []) = decide (ps = []) := by
  cases ps with
  | nil => simp [PyData.eqv, PyData.eqvAll]
  | cons n r => simp [PyData.eqv, PyData.eqvAll]
theorem PrsAt.same {H H' : Hp} {qs : List Addr} {ps : List PII} (h : PrsAt H qs ps) (s : Same H H') : PrsAt H' qs ps := ⟨h.1, fun j q p a b => s _ _ (h.2 j q p a b)⟩
theorem dp_prs {K : PySem.W.Frag} {H : Hp} : ∀ {qs : List Addr} {ps : List PII}, PrsAt H qs ps → DpAll K H (qs.map V.ref) (ps.map dPr)
  | [], [], _ => .nil
  | [], _ :: _, h => nomatch h.1
  | _ :: _, [], h => nomatch h.1
  | q :: qs, p :: ps, h => .cons (.tup (SqT.of (h.2 0 q p rfl rfl)) (.cons (.int _) (.cons (.int _) .nil))) (dp_prs ⟨Nat.succ.inj h.1, fun j a b x y => h.2 (j + 1) a b x y⟩)
/-! ### pairs, sorted -/
def kO : Option HO → Int × Int
  | some (.tup [.int i, .int j]) => (i, j)
  | _ => (0, 0)
def kH (H : Hp) : V → Int × Int
  | .ref t => kO (H t)
  | _ => (0, 0)
theorem kH_at {H : Hp} {t : Addr} {i j : Int} (h : H t = some (.tup [.int i, .int j])) : kH H (.ref t) = (i, j) := by
  show kO (H t) = (i, j)
  rw [h]
  rfl
theorem kH_map {H : Hp} : ∀ {qs : List Addr} {ps : List PII}, PrsAt H qs ps → (qs.map V.ref).map (kH H) = ps
  | [], [], _ => rfl
  | [], _ :: _, h => nomatch h.1
  | _ :: _, [], h => nomatch h.1
  | q :: qs, p :: ps, h => by
    rw [List.map_cons, List.map_cons, kH_at (h.2 0 q p rfl rfl), kH_map ⟨Nat.succ.inj h.1, fun j a b x y => h.2 (j + 1) a b x y⟩]
theorem prs_k {H : Hp} {qs : List Addr} {ps : List PII} (h : PrsAt H qs ps) {x : V} (m : x ∈ qs.map V.ref) : ∃ t, x = V.ref t ∧ H t = some (.tup [.int (kH H x).1, .int (kH H x).2]) := by
  obtain ⟨q, hq, rfl⟩ := List.mem_map.mp m
  obtain ⟨j, hj, e⟩ := List.getElem_of_mem hq
  have hj2 : j < ps.length := by rw [← h.1]; exact hj
  have z := h.2 j q ps[j] (by rw [List.getElem?_eq_getElem hj, e]) (List.getElem?_eq_getElem hj2)
  exact ⟨q, rfl, by rw [kH_at z]; exact z⟩
theorem sorted_prs {H : Hp} {qs : List Addr} {ps : List PII} {ys : List V} (h : PrsAt H qs ps) (s : SrtO.Srtd (ltP (kH H)) ys) (st : SrtO.Stb (ltP (kH H)) ys (qs.map V.ref)) :
    ∃ rs : List Addr, ys = rs.map V.ref ∧ PrsAt H rs (ps.mergeSort leP) := by
  have hp : ys.Perm (qs.map V.ref) := st.perm
  have e : ys.map (kH H) = ps.mergeSort leP := by
    refine sorted_uniq (by have z := hp.map (kH H); rw [kH_map h] at z; exact z) ?_
    rw [List.pairwise_map]
    refine List.Pairwise.imp (fun {a b} z => ?_) s
    have z2 := SrtO.lexB_no.mp z
    rw [leP_iff]
    omega
  have hr : ∀ x ∈ ys, ∃ t, x = V.ref t ∧ H t = some (.tup [.int (kH H x).1, .int (kH H x).2]) := fun x m => prs_k h (hp.mem_iff.mp m)
  let un : V → Addr := fun v => match v with
    | .ref t => t
    | _ => 0
  refine ⟨ys.map un, ?_, ?_, ?_⟩
  · rw [List.map_map]
    refine (List.map_id ys).symm.trans (List.map_congr_left fun x m => ?_)
    obtain ⟨t, rfl, _⟩ := hr x m
    rfl
  · rw [List.length_map, ← e, List.length_map]
  · intro j q p hq hp2
    obtain ⟨x, hx, rfl⟩ := map_at hq
    obtain ⟨t, rfl, ht⟩ := hr x (List.mem_of_getElem? hx)
    rw [← e, List.getElem?_map, hx] at hp2
    have e3 := Option.some.inj hp2
    rw [← e3]
    exact ht
/-! ### the middle's parts -/
theorem zip_ones : ∀ {ns ws : List Int}, ns.length = ws.length → ones (ns.zip ws) = ns.zip (List.replicate ns.length 1)
  | [], [], _ => rfl
  | [], _ :: _, h => nomatch h
  | _ :: _, [], h => nomatch h
  | n :: ns, w :: ws, h => by
    have ih := zip_ones (ns := ns) (ws := ws) (Nat.succ.inj h)
    unfold ones at ih ⊢
    rw [List.zip_cons_cons, List.map_cons, ih]
    rfl
theorem wsum_zip {ns ws : List Int} (h : ns.length = ws.length) : wsum (ns.zip ws) = ws.sum := by
  unfold wsum
  rw [show (fun p : PII => p.2) = Prod.snd from rfl, List.map_snd_zip (by omega)]
theorem mid_ne {ps : List PII} (h : ps ≠ []) : mid ps = scan (wsum (fixw ps)) 0 ((fixw ps).mergeSort leP) := by unfold mid; rw [if_neg h]
theorem scan_nil (w t : Int) : scan w t [] = 0 := rfl
theorem scan_cons (w t : Int) (p : PII) (r : List PII) : scan w t (p :: r) = if w ≤ 2 * (t + p.2) then p.1 else scan w (t + p.2) r := rfl
theorem zip_ne {ns ws : List Int} (h : ns.length = ws.length) (hn : ns ≠ []) : ns.zip ws ≠ [] := by
  cases ns with
  | nil => exact absurd rfl hn
  | cons n r => cases ws with
    | nil => cases h
    | cons w q => simp
end K8

set_option Elab.async false
set_option linter.all false
set_option maxRecDepth 100000
set_option maxHeartbeats 4000000
/-! middle and _law_middle. -/
namespace K8
open PySem PySem.Spec PyProof.Rows L2
section
variable {P : Program} {w : World} {K : PySem.W.Frag} {mg : Str → Option Value} {base : Heap} {f C : Addr} {fd : FuncData}
theorem ok_mid (F : Fun K "middle" "middle" sMid f fd) (T : Txt K mg C) : FnOk P w K mg base CX0 1 f fd ["numbers", "weights"] (spMid K) := by
  refine F.ok scMid (fun vs H Q E h => ?_) (fun cdv A outer s H vs Q E hr h => ?_)
  · obtain ⟨_, _, _, _, rfl, _⟩ := h
    rfl
  · obtain ⟨a, b, ns, ws, rfl, ha, hb, hl, h100, k⟩ := h
    refine ⟨_, (pss_cons (ps_if (pt_cmpR (op_eqD hr.units) (pv 0) (pe_tup pa_nil) (nomark _)) (pss_one (ps_ret pe_int)) pss_nil)
      (C8.pss_cut (ps_if (pt_cmpR op_eq (pe_callB (cr_sumT rfl) (by rfl) T.n_sum (by decide +kernel) (pa_cons (pv 1) pa_nil)) pe_int (nomark _)) (pss_one (ps_set (i := 1) scMid.nd rfl (.inl rfl) (pe_callTy call_tuple_of (by rfl) T.n_tuple (by decide +kernel) (pa_cons (pe_lc (own := [("number", 2)]) (g := gName 2) (tt := tYes) rfl scMid.nd (pi_tup (pv 0)) (blkOk_by (own := [("number", 2)]) (N := NMid) (sc := defScope sMid) (by decide +kernel)) (fun _ _ _ _ _ => pg_name (i := 2) scMid.nd rfl (Or.inl rfl)) (fun _ _ _ _ _ => pts_nil) (fun _ _ _ _ _ => pe_int)) pa_nil)))) pss_nil)
      (pss_cons (ps_set (i := 3) scMid.nd rfl (.inl rfl) (pe_callB (cr_sumT rfl) (by rfl) T.n_sum (by decide +kernel) (pa_cons (pv 1) pa_nil)))
      (pss_cons (ps_set (i := 4) scMid.nd rfl (.inl rfl) pe_int)
      (pss_cons (ps_for PassesOwn.never rfl (pi_list (pe_callB cr_sortedPO (by rfl) T.n_sorted (by decide +kernel) (pa_cons (pe_listZip rfl (by rfl) T.n_zip (by rfl) T.n_list (by decide +kernel) (pa_cons (pv 0) (pa_cons (pv 1) pa_nil))) pa_nil))) (pg_tup rfl (pgs_cons (pg_name (i := 2) scMid.nd rfl (.inl rfl)) (pgs_cons (pg_name (i := 5) scMid.nd rfl (.inl rfl)) pgs_nil))) (pss_cons (ps_aug (i := 4) scMid.nd rfl (.inl rfl) (pv 5) ip_add)
      (pss_one (ps_if (pt_cmpR op_ge (pe_op op_mul pe_int (pv 4)) (pv 3) (nomark _)) (pss_one (ps_ret (pv 2))) pss_nil))))
      (pss_one (ps_ret pe_int))))))), ?_⟩
    refine ⟨_, rfl, by show 0 ≤ sizeLine; decide, fun t0 ht0 => ?_⟩
    have s0 : Same H _ := same_upd (o := .tup []) ht0
    refine ⟨.tuple (ns.map PyData.int), .tuple [], .tup (sqT_same s0 ha) (dp_ints ns), .tup (SqT.of upd_same) .nil, shaped_tup ns, by decide, _, rfl, ?_⟩
    rw [eqv_tup]
    by_cases en : ns = []
    · rw [decide_eq_true en]
      refine iteT ?_
      have z := k _ s0
      rw [en, List.zip_nil_left, mid_nil] at z
      exact z
    rw [decide_eq_false en]
    refine iteF ?_
    refine ⟨fun σ' H' => ∃ (b1 : Addr) (ws1 : List Int) (v2 v3 v4 v5 : Option V), σ' = [some (.ref a), some (.ref b1), v2, v3, v4, v5] ∧ Same H H' ∧ SqT K H' b1 (ws1.map V.int) ∧ ns.length = ws1.length ∧ ns.zip ws1 = fixw (ns.zip ws), ?_, ?_⟩
    · -- if sum(weights) == 0
      refine ⟨_, rfl, b, ws, rfl, sqT_same s0 hb, rfl, _, rfl, ?_⟩
      by_cases ez : ws.sum = 0
      · rw [decide_eq_true (show V.int ws.sum = V.int 0 by rw [ez])]
        refine iteT ?_
        refine ⟨_, rfl, a, rfl, ⟨_, sqT_same s0 ha⟩, fun D hD => ?_⟩
        refine lc_tup (K := K) (a := a) (xs := ns.map V.int) (fun i H2 => Same (upd H t0 (.tup [])) H2 ∧ H2 D = some (.lst ((List.replicate i (1 : Int)).map V.int))) ⟨same_upd hD, upd_same⟩ (fun i H2 _ h => sqT_same (s0.trans h.1) ha) ?_ ?_
        · rintro i x H2 hi ⟨s2, h2⟩
          have hil := (List.getElem?_eq_some_iff.mp hi).1
          rw [List.length_map] at hil
          refine ⟨rfl, ?_⟩
          refine ⟨_, h2, small1000 (by simp; omega), ?_⟩
          refine ⟨fun c o e => ?_, ?_⟩
          · rw [upd_ne (ne_of_none e hD)]
            exact s2 c o e
          · rw [upd_same, List.replicate_succ', List.map_append]
            all_goals rfl
        · rintro H2 ⟨s2, h2⟩
          rw [List.length_map] at h2
          refine ⟨D, _, rfl, .inl ⟨SqL.of h2, fun l hl0 => ?_⟩⟩
          refine ⟨l, List.replicate ns.length 1, _, _, _, _, rfl, (s0.trans s2).trans (same_upd hl0), SqT.of upd_same, by simp, ?_⟩
          unfold fixw
          rw [wsum_zip hl, if_pos ez, zip_ones hl]
      · rw [decide_eq_false (show ¬ (V.int ws.sum = V.int 0) from fun e => ez (by injection e))]
        refine iteF ?_
        refine ⟨b, ws, _, _, _, _, rfl, s0, sqT_same s0 hb, hl, ?_⟩
        unfold fixw
        rw [wsum_zip hl, if_neg ez]
    · rintro σ' H1 ⟨b1, ws1, v2, v3, v4, v5, rfl, s1, hb1, hl1, hf⟩
      refine ⟨_, rfl, b1, ws1, rfl, hb1, ?_⟩
      refine ⟨_, rfl, _, rfl, a, b1, _, _, rfl, sqT_same s1 ha, hb1, by rw [List.length_map, List.length_map]; exact hl1, fun H2 p ts s2 hp hp2 hlen hat => ?_⟩
      have hpr : PrsAt H2 ts (ns.zip ws1) := by
        refine ⟨by rw [hlen, List.length_map, List.length_zip]; omega, fun j q r hq hr => ?_⟩
        obtain ⟨z1, z2⟩ := List.getElem?_zip_eq_some.mp hr
        exact hat j q _ _ hq (by rw [List.getElem?_map, z1]; rfl) (by rw [List.getElem?_map, z2]; rfl)
      refine ⟨p, _, kH H2, rfl, SqL.of hp2, fun x m => prs_k hpr m, fun ys q srt stb hq => ?_⟩
      obtain ⟨rs, rfl, hrs⟩ := sorted_prs hpr srt stb
      rw [hf] at hrs
      have hW : ws1.sum = wsum (fixw (ns.zip ws)) := by rw [← hf, wsum_zip hl1]
      have hM : mid (ns.zip ws) = scan (ws1.sum) 0 ((fixw (ns.zip ws)).mergeSort leP) := by rw [hW, mid_ne (zip_ne hl en)]
      have s3 : Same H2 _ := same_upd (o := .lst (rs.map V.ref)) hq
      refine ⟨q, rfl, ⟨_, SqL.of upd_same⟩, for_list (K := K) (a := q) (xs := rs.map V.ref) (fun i σ H3 => H3 = upd H2 q (.lst (rs.map V.ref)) ∧ ∃ (t : Int) (u2 u5 : Option V), σ = [some (.ref a), some (.ref b1), u2, some (.int ws1.sum), some (.int t), u5] ∧ mid (ns.zip ws) = scan ws1.sum t (((fixw (ns.zip ws)).mergeSort leP).drop i))
        ⟨rfl, 0, v2, v5, rfl, by rw [List.drop_zero]; exact hM⟩ (fun i σ H3 _ h => by rw [h.1]; exact SqL.of upd_same) ?_ ?_⟩
      · rintro i x σ H3 hi ⟨rfl, t, u2, u5, rfl, hsc⟩
        obtain ⟨r, hr, rfl⟩ := map_at hi
        have hil := (List.getElem?_eq_some_iff.mp hr).1
        rw [hrs.1] at hil
        have hS := List.getElem?_eq_getElem hil
        have hrt := s3 _ _ (hrs.2 i r _ hr hS)
        refine ⟨r, _, rfl, SqT.of hrt, rfl, _, _, rfl, _, _, rfl, rfl, ?_⟩
        refine ⟨_, rfl, _, rfl, _, _, rfl, rfl, ?_⟩
        refine ⟨_, rfl, _, _, rfl, rfl, .inl ⟨by decide, by decide⟩, _, rfl, _, _, rfl, rfl, _, rfl, ?_⟩
        rw [drop_cons hS, scan_cons] at hsc
        refine ite2 (fun hd => ?_) (fun hd => ?_)
        · have hd := of_decide_eq_true hd
          rw [if_pos hd] at hsc
          have z := k _ ((s1.trans s2).trans s3)
          rw [hsc] at z
          exact ⟨_, rfl, z⟩
        · have hd : ¬ _ := fun z => hd (decide_eq_true z)
          rw [if_neg hd] at hsc
          exact ⟨rfl, _, _, _, rfl, hsc⟩
      · rintro σ H3 ⟨rfl, t, u2, u5, rfl, hsc⟩
        rw [List.length_map, hrs.1, List.drop_length, scan_nil] at hsc
        have z := k _ ((s1.trans s2).trans s3)
        rw [hsc] at z
        exact z
end
end K8

set_option Elab.async false
set_option linter.all false
set_option maxRecDepth 100000
set_option maxHeartbeats 4000000
/-! _law_middle. -/
namespace K8
open PySem PySem.Spec PyProof.Rows L2
section
variable {P : Program} {w : World} {K : PySem.W.Frag} {mg : Str → Option Value} {base : Heap} {f C : Addr} {fd : FuncData}
theorem ok_midL (F : Fun K "_law_middle" "_law_middle" sMidL f fd) (T : Txt K mg C) : FnOk P w K mg base CX0 1 f fd ["_law_pairs"] spMidL := by
  refine F.ok scMidL (fun vs H Q E h => ?_) (fun cdv A outer s H vs Q E hr h => ?_)
  · obtain ⟨_, _, _, rfl, _⟩ := h
    rfl
  · obtain ⟨a, qs, ps, rfl, ha, hpr0, h100, k⟩ := h
    refine ⟨_, (pss_cons (ps_if (pt_cmpR (op_eqD hr.units) (pv 0) (pe_lst pa_nil) (nomark _)) (pss_one (ps_ret pe_int)) pss_nil)
      (pss_cons (ps_set (i := 3) scMidL.nd rfl (.inl rfl) (pe_callB (cr_sum rfl) (by rfl) T.n_sum (by decide +kernel) (pa_cons (pe_lc (own := [("_law_number", 1), ("_law_weight", 2)]) (g := gTup K 2 (gCons (gName 1) (gCons (gName 2) gNil))) (tt := tYes) rfl scMidL.nd (pi_list (pv 0)) (blkOk_by (own := [("_law_number", 1), ("_law_weight", 2)]) (N := NMidL) (sc := defScope sMidL) (by decide +kernel)) (fun _ _ _ _ _ => pg_tup rfl (pgs_cons (pg_name (i := 1) scMidL.nd rfl (Or.inl rfl)) (pgs_cons (pg_name (i := 2) scMidL.nd rfl (Or.inl rfl)) pgs_nil))) (fun _ _ _ _ _ => pts_nil) (fun _ _ _ _ _ => (pv 2))) pa_nil)))
      (C8.pss_cut (ps_if (pt_cmpR op_eq (pv 3) pe_int (nomark _)) (pss_cons (ps_setLc (i := 0) (own := [("_law_number", 1), ("_law_weight", 2)]) (g := gTup K 2 (gCons (gName 1) (gCons (gName 2) gNil))) (tt := tYes) rfl scMidL.nd rfl rfl (sw_true rfl rfl rfl (by decide +kernel)) (pi_list (pv 0)) (blkOk_by (own := [("_law_number", 1), ("_law_weight", 2)]) (N := NMidL) (sc := defScope sMidL) (by decide +kernel)) (fun _ _ _ _ _ => pg_tup rfl (pgs_cons (pg_name (i := 1) scMidL.nd rfl (Or.inl rfl)) (pgs_cons (pg_name (i := 2) scMidL.nd rfl (Or.inl rfl)) pgs_nil))) (fun _ _ _ _ _ => pts_nil) (fun _ _ _ _ _ => (pe_tup (pa_cons (pv 1) (pa_cons pe_int pa_nil)))))
      (pss_one (ps_set (i := 3) scMidL.nd rfl (.inl rfl) (pe_callB call_len_seq (by rfl) T.n_len (by decide +kernel) (pa_cons (pv 0) pa_nil))))) pss_nil)
      (pss_cons (ps_set (i := 4) scMidL.nd rfl (.inl rfl) pe_int)
      (pss_cons (ps_for PassesOwn.never rfl (pi_list (pe_callB cr_sortedPO (by rfl) T.n_sorted (by decide +kernel) (pa_cons (pv 0) pa_nil))) (pg_tup rfl (pgs_cons (pg_name (i := 1) scMidL.nd rfl (.inl rfl)) (pgs_cons (pg_name (i := 2) scMidL.nd rfl (.inl rfl)) pgs_nil))) (pss_cons (ps_set (i := 4) scMidL.nd rfl (.inl rfl) (pe_op op_add (pv 4) (pv 2)))
      (pss_one (ps_if (pt_cmpR op_ge (pe_op op_mul pe_int (pv 4)) (pv 3) (nomark _)) (pss_one (ps_ret (pv 1))) pss_nil))))
      (pss_one (ps_ret pe_int))))))), ?_⟩
    refine ⟨_, rfl, by show 0 ≤ sizeLine; decide, fun t0 ht0 => ?_⟩
    have s0 : Same H _ := same_upd (o := .lst []) ht0
    refine ⟨.list (ps.map dPr), .list [], .lst (SqL.of (s0 _ _ ha)) (dp_prs (hpr0.same s0)), .lst (SqL.of upd_same) .nil, shaped_prs ps, by decide, _, rfl, ?_⟩
    rw [eqv_prs]
    by_cases en : ps = []
    · rw [decide_eq_true en]
      refine iteT ?_
      have z := k _ s0
      rw [en, mid_nil] at z
      exact z
    rw [decide_eq_false en]
    refine iteF ?_
    have ha0 := s0 _ _ ha
    have hpr := hpr0.same s0
    refine ⟨_, rfl, a, rfl, ⟨_, SqL.of ha0⟩, fun D hD => ?_⟩
    refine lc_list (K := K) (a := a) (xs := qs.map V.ref) (fun i H2 => Same (upd H t0 (.lst [])) H2 ∧ H2 D = some (.lst (((ps.take i).map (·.2)).map V.int))) ⟨same_upd hD, upd_same⟩ (fun i H2 _ h => SqL.of (h.1 _ _ ha0)) ?_ ?_
    · rintro i x H2 hi ⟨s2, h2⟩
      obtain ⟨q, hq, rfl⟩ := map_at hi
      have hil := (List.getElem?_eq_some_iff.mp hq).1
      rw [hpr.1] at hil
      have hS := List.getElem?_eq_getElem hil
      refine ⟨q, _, rfl, SqT.of (s2 _ _ (hpr.2 i q _ hq hS)), rfl, _, _, rfl, _, _, rfl, rfl, ?_⟩
      refine ⟨rfl, ?_⟩
      refine ⟨_, rfl, _, h2, small1000 (by simp; omega), ?_⟩
      refine ⟨fun c o e => ?_, ?_⟩
      · rw [upd_ne (ne_of_none e hD)]
        exact s2 c o e
      · rw [upd_same, take_snoc hS, List.map_append, List.map_append]
        all_goals rfl
    rintro H2 ⟨s2, h2⟩
    rw [List.length_map, hpr.1, List.take_length] at h2
    refine ⟨D, _, rfl, SqL.of h2, ?_⟩
    have s02 := s0.trans s2
    have hW0 : (ps.map (·.2)).sum = wsum ps := rfl
    rw [hW0]
    refine ⟨fun σ' H' => ∃ (a1 : Addr) (qs1 : List Addr) (v1 v2 v4 : Option V), σ' = [some (.ref a1), v1, v2, some (.int (wsum (fixw ps))), v4] ∧ Same H H' ∧ H' a1 = some (.lst (qs1.map V.ref)) ∧ PrsAt H' qs1 (fixw ps), ?_, ?_⟩
    · -- if whole == 0
      refine ⟨_, rfl, rfl, _, rfl, ?_⟩
      by_cases ez : wsum ps = 0
      · rw [decide_eq_true (show V.int (wsum ps) = V.int 0 by rw [ez])]
        refine iteT ?_
        have ha2 := s2 _ _ ha0
        have hpr2 := hpr.same s2
        refine ⟨_, rfl, a, rfl, ⟨_, SqL.of ha2⟩, fun D2 hD2 => ?_⟩
        refine lc_list (K := K) (a := a) (xs := qs.map V.ref) (fun i H3 => Same H2 H3 ∧ ∃ rs : List Addr, H3 D2 = some (.lst (rs.map V.ref)) ∧ PrsAt H3 rs (ones (ps.take i)) ∧ ∀ r ∈ rs, r ≠ D2) ⟨same_upd hD2, [], upd_same, ⟨rfl, fun j q p e => by cases e⟩, fun r m => by cases m⟩ (fun i H3 _ h => SqL.of (h.1 _ _ ha2)) ?_ ?_
        · rintro i x H3 hi ⟨s3, rs, h3, hrs, hne⟩
          obtain ⟨q, hq, rfl⟩ := map_at hi
          have hil := (List.getElem?_eq_some_iff.mp hq).1
          rw [hpr.1] at hil
          have hS := List.getElem?_eq_getElem hil
          refine ⟨q, _, rfl, SqT.of (s3 _ _ (hpr2.2 i q _ hq hS)), rfl, _, _, rfl, _, _, rfl, rfl, ?_⟩
          refine ⟨rfl, ?_⟩
          refine ⟨_, rfl, by show 2 ≤ sizeLine; decide, fun t ht => ?_⟩
          have hDt : D2 ≠ t := ne_of_none h3 ht
          have lrs : rs.length = i := by rw [hrs.1]; unfold ones; rw [List.length_map, List.length_take]; omega
          refine ⟨_, Eq.trans (upd_ne hDt) h3, small1000 (by rw [List.length_map]; omega), ?_⟩
          refine ⟨fun c o e => ?_, rs ++ [t], ?_, ⟨?_, ?_⟩, ?_⟩
          · rw [upd_ne (ne_of_none e hD2), upd_ne (ne_of_none (s3 _ _ e) ht)]
            exact s3 c o e
          · rw [upd_same, List.map_append]
            all_goals rfl
          · rw [List.length_append, hrs.1, take_snoc hS]
            unfold ones
            rw [List.map_append, List.length_append]
            rfl
          · intro j r p hr hp
            rw [take_snoc hS] at hp
            unfold ones at hp
            rw [List.map_append] at hp
            by_cases hj : j < rs.length
            · rw [List.getElem?_append_left hj] at hr
              rw [List.getElem?_append_left (by have := hrs.1; unfold ones at this; omega)] at hp
              have z := hrs.2 j r p hr (by unfold ones; exact hp)
              rw [upd_ne (ne_of_none z ht |> fun _ => hne r (List.mem_of_getElem? hr)), upd_ne (ne_of_none z ht)]
              exact z
            · have hjl := (List.getElem?_eq_some_iff.mp hr).1
              rw [List.length_append, List.length_singleton] at hjl
              have hje : j = rs.length := by omega
              subst hje
              rw [List.getElem?_append_right (Nat.le_refl _), Nat.sub_self] at hr
              have l2 : rs.length = (List.map (fun p : PII => (p.1, (1 : Int))) (List.take i ps)).length := hrs.1
              rw [l2, List.getElem?_append_right (Nat.le_refl _), Nat.sub_self] at hp
              cases hr
              cases hp
              rw [upd_ne hDt.symm, upd_same]
          · intro r m
            rcases List.mem_append.mp m with m | m
            · exact hne r m
            · rw [List.mem_singleton.mp m]
              exact hDt.symm
        · rintro H3 ⟨s3, rs, h3, hrs, hne⟩
          rw [List.length_map, hpr.1, List.take_length] at hrs
          have l3 : rs.length = ps.length := by rw [hrs.1]; unfold ones; rw [List.length_map]
          refine ⟨_, rfl, D2, _, rfl, .inl (SqL.of h3), ?_⟩
          refine ⟨D2, rs, none, none, none, ?_, s02.trans s3, h3, ?_⟩
          · have e1 : wsum (fixw ps) = (ps.length : Int) := by
              unfold fixw
              rw [if_pos ez]
              unfold wsum ones
              rw [List.map_map]
              have : ∀ l : List PII, (List.map ((fun x : PII => x.2) ∘ fun p : PII => (p.1, (1 : Int))) l).sum = (l.length : Int) := by
                intro l
                induction l with
                | nil => rfl
                | cons p r ih => rw [List.map_cons, List.sum_cons, ih, List.length_cons]; show (1 : Int) + _ = _; omega
              exact this ps
            rw [e1, List.length_map, l3]
            rfl
          · unfold fixw
            rw [if_pos ez]
            exact hrs
      · rw [decide_eq_false (show ¬ (V.int (wsum ps) = V.int 0) from fun e => ez (by injection e))]
        refine iteF ?_
        have ef : fixw ps = ps := by unfold fixw; rw [if_neg ez]
        refine ⟨a, qs, none, none, none, ?_, s02, s2 _ _ ha0, ?_⟩
        · rw [ef]; rfl
        · rw [ef]; exact hpr.same s2
    · rintro σ' H1 ⟨a1, qs1, v1, v2, v4, rfl, s1, ha1, hpr1⟩
      refine ⟨_, rfl, ?_⟩
      refine ⟨a1, _, kH H1, rfl, SqL.of ha1, fun x m => prs_k hpr1 m, fun ys q srt stb hq => ?_⟩
      obtain ⟨rs, rfl, hrs⟩ := sorted_prs hpr1 srt stb
      have hM := mid_ne en
      have s3 : Same H1 _ := same_upd (o := .lst (rs.map V.ref)) hq
      refine ⟨q, rfl, ⟨_, SqL.of upd_same⟩, for_list (K := K) (a := q) (xs := rs.map V.ref) (fun i σ H3 => H3 = upd H1 q (.lst (rs.map V.ref)) ∧ ∃ (t : Int) (u1 u2 : Option V), σ = [some (.ref a1), u1, u2, some (.int (wsum (fixw ps))), some (.int t)] ∧ mid ps = scan (wsum (fixw ps)) t (((fixw ps).mergeSort leP).drop i))
        ⟨rfl, 0, v1, v2, rfl, by rw [List.drop_zero]; exact hM⟩ (fun i σ H3 _ h => by rw [h.1]; exact SqL.of upd_same) ?_ ?_⟩
      · rintro i x σ H3 hi ⟨rfl, t, u1, u2, rfl, hsc⟩
        obtain ⟨r, hr, rfl⟩ := map_at hi
        have hil := (List.getElem?_eq_some_iff.mp hr).1
        rw [hrs.1] at hil
        have hS := List.getElem?_eq_getElem hil
        have hrt := s3 _ _ (hrs.2 i r _ hr hS)
        refine ⟨r, _, rfl, SqT.of hrt, rfl, _, _, rfl, _, _, rfl, rfl, ?_⟩
        refine ⟨_, rfl, _, rfl, _, _, rfl, rfl, ?_⟩
        refine ⟨_, rfl, _, _, rfl, rfl, .inl ⟨by decide, by decide⟩, _, rfl, _, _, rfl, rfl, _, rfl, ?_⟩
        rw [drop_cons hS, scan_cons] at hsc
        refine ite2 (fun hd => ?_) (fun hd => ?_)
        · have hd := of_decide_eq_true hd
          rw [if_pos hd] at hsc
          have z := k _ (s1.trans s3)
          rw [hsc] at z
          exact ⟨_, rfl, z⟩
        · have hd : ¬ _ := fun z => hd (decide_eq_true z)
          rw [if_neg hd] at hsc
          exact ⟨rfl, _, _, _, rfl, hsc⟩
      · rintro σ H3 ⟨rfl, t, u1, u2, rfl, hsc⟩
        rw [List.length_map, hrs.1, List.drop_length, scan_nil] at hsc
        have z := k _ (s1.trans s3)
        rw [hsc] at z
        exact z
end
end K8

set_option Elab.async false
set_option linter.all false
set_option maxRecDepth 100000
set_option maxHeartbeats 4000000
/-! check, say, told. -/
namespace K8
open PySem PySem.Spec PyProof.Rows L2
theorem pe_fldB {X : Cx} {K : PySem.W.Frag} {e : Expr} {f : Str} {ta : TE} {pos : Pos} (hK : X.K = K) (he : PE X e ta) (hb : attributeBase e f X.env (eval e X.env) = eval e X.env) : PE X (.Attribute e f pos) (tFld K ta f) := by
  subst hK
  exact pe_fld he hb
theorem ix_tupB {X : Cx} {K : PySem.W.Frag} (hK : X.K = K) : IxR X (rIxT K) := by
  subst hK
  exact ix_tup
section
variable {P : Program} {w : World} {K : PySem.W.Frag} {mg : Str → Option Value} {base : Heap} {f C : Addr} {fd : FuncData}
theorem ok_check (F : Fun K "check" "Book.check" sCheck f fd) (T : Txt K mg C) (cOn : C8.Cal P w K mg base 2 "on_scale" spOn []) : FnOk P w K mg base CX0 3 f fd ["self", "said"] (spCheck C) := by
  refine F.ok scCheck (fun vs H Q E h => ?_) (fun cdv A outer s H vs Q E hr h => ?_)
  · obtain ⟨_, _, _, _, _, rfl, _⟩ := h
    rfl
  · obtain ⟨p, d, a, b, sd, rfl, B, ha, had, ⟨nd, hin, hv, hl⟩, k⟩ := h
    have hu := hu_of hr
    obtain ⟨⟨dx, h1⟩, h2⟩ := id B
    have npa : p ≠ a := ne_of h1 ha (by intro z; cases z)
    refine ⟨_, (pss_cons (ps_lock (ps_for PassesOwn.never rfl (pi_keys (pv 1)) (pg_name (i := 2) scCheck.nd rfl (.inl rfl)) (pss_one (ps_if (pt_cmp (pc_dnotin hu (pv 2) (pe_fld (pv 0) rfl))) (pss_one ps_never) pss_nil))))
      (pss_one (ps_lock (ps_for PassesOwn.never rfl (pi_keys (pv 1)) (pg_name (i := 2) scCheck.nd rfl (.inl rfl)) (pss_one (ps_if (pt_not (pt_val (C8.pe_c cOn hr (by decide) (by rfl) (pa_cons (pe_fld (pv 0) rfl) (pa_cons (pe_dget hu (pv 1) (pv 2) (fun _ _ => rfl)) pa_nil))))) (pss_one ps_never) pss_nil)))))), ?_⟩
    refine ⟨a, _, ha, trivial, fun od => ?_⟩
    have g1 : upd H a (.frz od (.dK (kvs sd))) p = _ := Eq.trans (upd_ne npa) h1
    have g2 : upd H a (.frz od (.dK (kvs sd))) d = _ := Eq.trans (upd_ne had.symm) h2
    refine ⟨_, rfl, a, od, rfl, .inl ⟨_, upd_same, for_it walk_keys (fun i σ H2 => H2 = upd H a (.frz od (.dK (kvs sd))) ∧ ∃ v, σ = [some (.ref p), some (.ref a), v]) ⟨rfl, none, rfl⟩ (fun i σ H2 _ h => by rw [h.1]; exact upd_same) ?_ ?_⟩⟩
    · rintro i x σ H2 H3 hi ⟨rfl, v, rfl⟩ ⟨rfl, kk, vv, hk, rfl⟩
      obtain ⟨q, hq, rfl, rfl⟩ := key_at hk
      have hqm := List.mem_of_getElem? hq
      obtain ⟨x, hx⟩ := lk_in (hin q.1 (List.mem_map.mpr ⟨q, hqm, rfl⟩))
      refine ⟨_, rfl, _, rfl, p, C, dx, _, _, rfl, g1, T.cl, T.a_tops, f_tops _ _, d, _, rfl, dget_o (.inl g2), _, rfl, ?_⟩
      rw [hx]
      refine iteF ?_
      exact ⟨rfl, _, rfl⟩
    · rintro σ H2 ⟨rfl, v, rfl⟩
      refine ⟨upd_same, ?_⟩
      rw [upd_back ha]
      refine ⟨a, _, ha, trivial, fun od => ?_⟩
      have g1 : upd H a (.frz od (.dK (kvs sd))) p = _ := Eq.trans (upd_ne npa) h1
      refine ⟨_, rfl, a, od, rfl, .inl ⟨_, upd_same, for_it walk_keys (fun i σ H2 => H2 = upd H a (.frz od (.dK (kvs sd))) ∧ ∃ v, σ = [some (.ref p), some (.ref a), v]) ⟨rfl, _, rfl⟩ (fun i σ H2 _ h => by rw [h.1]; exact upd_same) ?_ ?_⟩⟩
      · rintro i x σ H2 H3 hi ⟨rfl, v, rfl⟩ ⟨rfl, kk, vv, hk, rfl⟩
        obtain ⟨q, hq, rfl, rfl⟩ := key_at hk
        have hqm := List.mem_of_getElem? hq
        refine ⟨_, rfl, p, C, dx, _, _, rfl, g1, T.cl, T.a_scale, f_scale _ _, ?_⟩
        refine ⟨_, rfl, _, rfl, a, _, rfl, dget_s (.inr ⟨od, upd_same⟩) (lk_of_mem nd hqm), ?_⟩
        refine ⟨_, _, rfl, (hv q hqm).1, (hv q hqm).2, ?_⟩
        refine ⟨_, rfl, ?_⟩
        refine iteF ?_
        exact ⟨rfl, _, rfl⟩
      · rintro σ H2 ⟨rfl, v, rfl⟩
        refine ⟨upd_same, ?_⟩
        rw [upd_back ha]
        exact k
theorem ok_say (F : Fun K "say" "Book.say" sSay f fd) (T : Txt K mg C) (mCheck : C8.Met P w K mg base 3 C "check" (spCheck C) []) (cMid : C8.Cal P w K mg base 1 "middle" (spMid K) []) : FnOk P w K mg base CX0 4 f fd ["self", "said"] (spSay C) := by
  refine F.ok scSay (fun vs H Q E h => ?_) (fun cdv A outer s H vs Q E hr h => ?_)
  · obtain ⟨_, _, _, _, _, rfl, _⟩ := h
    rfl
  · obtain ⟨p, d, a, b, sd, rfl, B, ha, had, S, k⟩ := h
    obtain ⟨nd, hin, hv, hl⟩ := id S
    have hu := hu_of hr
    obtain ⟨⟨dx, h1⟩, h2⟩ := id B
    refine ⟨_, (pss_cons (ps_expr (C8.pe_mt mCheck hr (by decide) (pv 0) (pa_cons (pv 1) pa_nil)))
      (pss_cons (ps_set (i := 2) scSay.nd rfl (.inl rfl) (pe_callB cr_sortedS (by rfl) T.n_sorted (by decide +kernel) (pa_cons (pe_callTy (call_listD rfl) (by rfl) T.n_list (by decide +kernel) (pa_cons (pv 1) pa_nil)) pa_nil)))
      (pss_one (ps_ret (C8.pe_c cMid hr (by decide) (by rfl) (pa_cons (pe_callTy call_tuple_of (by rfl) T.n_tuple (by decide +kernel) (pa_cons (pe_lc (own := [("name", 3)]) (g := gName 3) (tt := tYes) rfl scSay.nd (pi_list (pv 2)) (blkOk_by (own := [("name", 3)]) (N := NSay) (sc := defScope sSay) (by decide +kernel)) (fun _ _ _ _ _ => pg_name (i := 3) scSay.nd rfl (Or.inl rfl)) (fun _ _ _ _ _ => pts_nil) (fun _ _ _ _ _ => (pe_dget hu (pv 1) (pv 3) (fun _ _ => rfl)))) pa_nil)) (pa_cons (pe_callTy call_tuple_of (by rfl) T.n_tuple (by decide +kernel) (pa_cons (pe_lc (own := [("name", 3)]) (g := gName 3) (tt := tYes) rfl scSay.nd (pi_list (pv 2)) (blkOk_by (own := [("name", 3)]) (N := NSay) (sc := defScope sSay) (by decide +kernel)) (fun _ _ _ _ _ => pg_name (i := 3) scSay.nd rfl (Or.inl rfl)) (fun _ _ _ _ _ => pts_nil) (fun _ _ _ _ _ => (pe_dget hu (pe_fldB (K := K) rfl (pv 0) rfl) (pv 3) (fun _ _ => rfl)))) pa_nil)) pa_nil))))))), ?_⟩
    refine ⟨_, rfl, p, dx, _, rfl, h1, f_no _ _ _ (by decide +kernel), _, rfl, p, d, a, b, sd, rfl, B, ha, had, S, ?_⟩
    refine ⟨_, rfl, a, _, rfl, .inl ha, fun l hl0 => ?_⟩
    have s1 : Same H _ := same_upd (o := .lst ((kvs sd).map fun kv => kV kv.1)) hl0
    refine ⟨l, ks sd, rfl, SqL.of (by rw [upd_same, kvs_names]), by rw [ks_len]; exact hl, fun ys r hp _ hr0 => ?_⟩
    have s2 := s1.trans (same_upd (o := .lst (ys.map V.str)) hr0)
    have hrl : upd (upd H l (.lst ((kvs sd).map fun kv => kV kv.1))) r (.lst (ys.map V.str)) r = _ := upd_same
    generalize upd (upd H l (.lst ((kvs sd).map fun kv => kV kv.1))) r (.lst (ys.map V.str)) = H1 at s2 hrl
    have hly : ys.length = sd.length := by rw [hp.length_eq, ks_len]
    refine ⟨_, rfl, r, rfl, ⟨_, SqL.of hrl⟩, fun D hD => ?_⟩
    refine lc_list (K := K) (a := r) (xs := ys.map V.str) (fun i H2 => Same H1 H2 ∧ H2 D = some (.lst (((ys.take i).map fun n => (lk sd n).getD 0).map V.int))) ⟨same_upd hD, upd_same⟩ (fun i H2 _ h => SqL.of (h.1 _ _ hrl)) ?_ ?_
    · rintro i x H2 hi ⟨s3, h3⟩
      obtain ⟨n, hn, rfl⟩ := map_at hi
      have hil := (List.getElem?_eq_some_iff.mp hn).1
      obtain ⟨x, hx⟩ := lk_in (hp.mem_iff.mp (List.mem_of_getElem? hn))
      refine ⟨rfl, ?_⟩
      refine ⟨_, rfl, _, rfl, a, _, rfl, dget_s (.inl (s3 _ _ (s2 _ _ ha))) hx, ?_⟩
      refine ⟨_, h3, small1000 (by simp; omega), ?_⟩
      refine ⟨fun c o e => ?_, ?_⟩
      · rw [upd_ne (ne_of_none e hD)]
        exact s3 c o e
      · rw [upd_same, take_snoc hn, List.map_append, List.map_append]
        show _ = some (HO.lst (_ ++ [V.int ((lk sd n).getD 0)]))
        rw [hx]
        all_goals rfl
    rintro H2 ⟨s3, h3⟩
    rw [List.length_map, List.take_length] at h3
    refine ⟨D, _, rfl, .inl ⟨SqL.of h3, fun t1 ht1 => ?_⟩⟩
    have s4 := (s2.trans s3).trans (same_upd (o := .tup ((ys.map fun n => (lk sd n).getD 0).map V.int)) ht1)
    have hrl4 := same_upd (o := .tup ((ys.map fun n => (lk sd n).getD 0).map V.int)) ht1 _ _ (s3 _ _ hrl)
    have ht14 : upd H2 t1 (.tup ((ys.map fun n => (lk sd n).getD 0).map V.int)) t1 = _ := upd_same
    generalize upd H2 t1 (.tup ((ys.map fun n => (lk sd n).getD 0).map V.int)) = H4 at s4 hrl4 ht14
    refine ⟨_, rfl, r, rfl, ⟨_, SqL.of hrl4⟩, fun D2 hD2 => ?_⟩
    refine lc_list (K := K) (a := r) (xs := ys.map V.str) (fun i H2 => Same H4 H2 ∧ H2 D2 = some (.lst (((ys.take i).map fun n => (lk b.ts n).getD 0).map V.int))) ⟨same_upd hD2, upd_same⟩ (fun i H2 _ h => SqL.of (h.1 _ _ hrl4)) ?_ ?_
    · rintro i x H5 hi ⟨s5, h5⟩
      obtain ⟨n, hn, rfl⟩ := map_at hi
      have hil := (List.getElem?_eq_some_iff.mp hn).1
      obtain ⟨x, hx⟩ := lk_in (hin n (hp.mem_iff.mp (List.mem_of_getElem? hn)))
      obtain ⟨⟨dy, g1⟩, g2⟩ := B.same (s4.trans s5)
      refine ⟨rfl, ?_⟩
      refine ⟨_, rfl, p, C, dy, _, _, rfl, g1, T.cl, T.a_tops, f_tops _ _, _, rfl, d, _, rfl, dget_s (.inl g2) hx, ?_⟩
      refine ⟨_, h5, small1000 (by simp; omega), ?_⟩
      refine ⟨fun c o e => ?_, ?_⟩
      · rw [upd_ne (ne_of_none e hD2)]
        exact s5 c o e
      · rw [upd_same, take_snoc hn, List.map_append, List.map_append]
        show _ = some (HO.lst (_ ++ [V.int ((lk b.ts n).getD 0)]))
        rw [hx]
        all_goals rfl
    rintro H5 ⟨s5, h5⟩
    rw [List.length_map, List.take_length] at h5
    refine ⟨D2, _, rfl, .inl ⟨SqL.of h5, fun t2 ht2 => ?_⟩⟩
    have s6 := same_upd (o := .tup ((ys.map fun n => (lk b.ts n).getD 0).map V.int)) ht2
    refine ⟨t1, t2, _, _, rfl, SqT.of (s6 _ _ (s5 _ _ ht14)), SqT.of upd_same, by rw [List.length_map, List.length_map], by rw [List.length_map]; omega, fun H7 s7 => ?_⟩
    have e : mid ((ys.map fun n => (lk sd n).getD 0).zip (ys.map fun n => (lk b.ts n).getD 0)) = mid (prs sd b.ts) := by
      rw [List.zip_map']
      exact mid_perm (hp.map (f2 sd b.ts))
    rw [e]
    exact k _ (((s4.trans s5).trans s6).trans s7)
theorem ok_told (F : Fun K "_law_told" "_law_told" sTold f fd) (T : Txt K mg C) (mSay : C8.Met P w K mg base 4 C "say" (spSay C) []) : FnOk P w K mg base CX0 5 f fd ["_law_book", "_law_said_here"] (spSay C) := by
  refine F.ok scTold (fun vs H Q E h => ?_) (fun cdv A outer s H vs Q E hr h => ?_)
  · obtain ⟨_, _, _, _, _, rfl, _⟩ := h
    rfl
  · obtain ⟨p, d, a, b, sd, rfl, B, ha, had, S, k⟩ := h
    obtain ⟨⟨dx, h1⟩, h2⟩ := id B
    refine ⟨_, (pss_cons (ps_set (i := 2) scTold.nd rfl (.inl rfl) (C8.pe_mt mSay hr (by decide) (pv 0) (pa_cons (pv 1) pa_nil)))
      (pss_cons (ps_if (PW.pt (pw_or (pt_not (pt_val (pe_callB call_isi (by rfl) T.n_isinstance (by decide +kernel) (pa_cons (pv 2) (pa_cons (pe_bltn (v := .ty "int") (by rfl) T.n_int (by decide +kernel) rfl) pa_nil))))) (pw_or1 (pt_val (pe_callB call_isi (by rfl) T.n_isinstance (by decide +kernel) (pa_cons (pv 2) (pa_cons (pe_bltn (v := .ty "bool") (by rfl) T.n_bool (by decide +kernel) rfl) pa_nil))))))) (pss_one (ps_ret (pe_un un_neg pe_int))) pss_nil)
      (pss_one (ps_ret (pv 2))))), ?_⟩
    refine ⟨_, rfl, p, dx, _, rfl, h1, f_no _ _ _ (by decide +kernel), _, rfl, p, d, a, b, sd, rfl, B, ha, had, S, fun H1 s1 => ?_⟩
    refine ⟨_, rfl, _, _, _, _, true, rfl, ClsV.ty _, TyX.base (TyOf.int _), kit_ty (by decide +kernel), _, rfl, ?_⟩
    refine iteF ?_
    refine ⟨_, rfl, _, _, _, _, false, rfl, ClsV.ty _, TyX.base (TyOf.int _), kit_ty (by decide +kernel), _, rfl, ?_⟩
    refine iteF ?_
    exact ⟨_, rfl, k _ s1⟩
theorem ok_turn (F : Fun K "_law_turned" "_law_turned" sTurn f fd) (T : Txt K mg C) : FnOk P w K mg base CX0 1 f fd ["_law_said_here", "_law_scale"] spTurn := by
  refine F.ok scTurn (fun vs H Q E h => ?_) (fun cdv A outer s H vs Q E hr h => ?_)
  · obtain ⟨_, _, _, rfl, _⟩ := h
    rfl
  · obtain ⟨a, sd, sc, rfl, ha, nd, hl, k⟩ := h
    have hu := hu_of hr
    refine ⟨_, (pss_cons (ps_set (i := 2) scTurn.nd rfl (.inl rfl) pe_dnewK)
      (pss_cons (ps_lock (ps_for PassesOwn.never rfl (pi_keys (pv 0)) (pg_name (i := 3) scTurn.nd rfl (.inl rfl)) (pss_one (ps_dput hu (pv 2) (pv 3) (pe_op op_sub (pv 1) (pe_dget hu (pv 0) (pv 3) (fun _ _ => rfl))) rfl))))
      (pss_one (ps_ret (pv 2))))), ?_⟩
    intro e he
    have nae : a ≠ e := ne_of_none ha he
    have ha1 : upd H e (.dK []) a = _ := Eq.trans (upd_ne nae) ha
    refine ⟨a, _, ha1, trivial, fun od => ?_⟩
    refine ⟨_, rfl, a, od, rfl, .inl ⟨_, upd_same, for_it walk_keys (fun i σ H2 => (∃ v, σ = [some (.ref a), some (.int sc), some (.ref e), v]) ∧ H2 a = some (.frz od (.dK (kvs sd))) ∧ H2 e = some (.dK (kvs ((sd.take i).map fun q => (q.1, sc - q.2)))) ∧ ∀ c o, H c = some o → c ≠ a → H2 c = some o)
      ⟨⟨none, rfl⟩, upd_same, by rw [upd_ne nae.symm, upd_same]; rfl, fun c o h hc => by rw [upd_ne hc, upd_ne (ne_of_none h he)]; exact h⟩ (fun i σ H2 _ h => h.2.1) ?_ ?_⟩⟩
    · rintro i x σ H2 H3 hi ⟨⟨v, rfl⟩, g1, g2, g3⟩ ⟨rfl, kk, vv, hk, rfl⟩
      obtain ⟨q, hq, rfl, rfl⟩ := key_at hk
      have hqm := List.mem_of_getElem? hq
      have hil := (List.getElem?_eq_some_iff.mp hq).1
      refine ⟨_, rfl, _, rfl, _, rfl, a, _, rfl, dget_s (.inr ⟨od, g1⟩) (lk_of_mem nd hqm), _, _, rfl, rfl, ?_⟩
      refine ⟨_, rfl, _, rfl, e, _, rfl, dput_s g2 (by simp; omega), ?_⟩
      refine ⟨⟨_, rfl⟩, Eq.trans (upd_ne nae) g1, ?_, fun c o h hc => ?_⟩
      · rw [upd_same]
        have hni : q.1 ∉ ks ((sd.take i).map fun q => (q.1, sc - q.2)) := by
          intro m
          obtain ⟨r, hr2, er⟩ := List.mem_map.mp m
          obtain ⟨r2, hr3, rfl⟩ := List.mem_map.mp hr2
          obtain ⟨j, hj, ej⟩ := List.getElem_of_mem hr3
          rw [List.length_take] at hj
          rw [List.getElem_take] at ej
          have q1 : (ks sd)[j]? = some q.1 := by
            unfold ks
            rw [List.getElem?_map, List.getElem?_eq_getElem (by omega), ej]
            exact congrArg some er
          have q2 : (ks sd)[i]? = some q.1 := by
            unfold ks
            rw [List.getElem?_map, hq]
            rfl
          have := nd_ix nd q1 q2
          omega
        rw [pt_new _ hni, take_snoc hq, List.map_append]
        rfl
      · rw [upd_ne (ne_of_none h he)]
        exact g3 c o h hc
    · rintro σ H2 ⟨⟨v, rfl⟩, g1, g2, g3⟩
      refine ⟨g1, ?_⟩
      rw [kvs_len, List.take_length] at g2
      refine ⟨_, rfl, ?_⟩
      refine k e _ he (Eq.trans (upd_ne nae.symm) g2) fun c o h => ?_
      by_cases hc : c = a
      · subst hc
        rw [upd_same, ← h, ha]
      · rw [upd_ne hc]
        exact g3 c o h hc
end
end K8

set_option Elab.async false
set_option linter.all false
set_option maxRecDepth 100000
set_option maxHeartbeats 4000000
/-! hear, still. -/
namespace K8
open PySem PySem.Spec PyProof.Rows L2
theorem prs_in {sc : Int} {sd ts : List (Str × Int)} (nd : (ks sd).Nodup) (hv : ∀ q ∈ sd, 0 ≤ q.2 ∧ q.2 ≤ sc) : ∀ p ∈ prs sd ts, 0 ≤ p.1 ∧ p.1 ≤ sc := by
  intro p hp
  obtain ⟨n, hn, rfl⟩ := List.mem_map.mp hp
  obtain ⟨q, hq, rfl⟩ := List.mem_map.mp hn
  show 0 ≤ (lk sd q.1).getD 0 ∧ (lk sd q.1).getD 0 ≤ sc
  rw [lk_of_mem nd hq]
  exact hv q hq
section
variable {P : Program} {w : World} {K : PySem.W.Frag} {mg : Str → Option Value} {base : Heap} {f C : Addr} {fd : FuncData}
theorem ok_hear (F : Fun K "hear" "Book.hear" sHear f fd) (T : Txt K mg C) (mCheck : C8.Met P w K mg base 3 C "check" (spCheck C) []) (mSay : C8.Met P w K mg base 4 C "say" (spSay C) []) (cOn : C8.Cal P w K mg base 2 "on_scale" spOn [])
    (cCh : C8.Cal P w K mg base 1 "charge" spCh []) (cSl : C8.Cal P w K mg base 2 "asleep_factor" spSl []) (cAw : C8.Cal P w K mg base 2 "awake_factor" spAw []) : FnOk P w K mg base CX0 5 f fd ["self", "said", "so"] (spHear C) := by
  refine F.ok scHear (fun vs H Q E h => ?_) (fun cdv A outer s H vs Q E hr h => ?_)
  · obtain ⟨_, _, _, _, _, _, _, rfl, _⟩ := h
    rfl
  · obtain ⟨p, d, a, b, sd, so, kk, rfl, B, ha, had, S, hscl, so0, so1, ndT, hlT, ⟨bd1, bd2, bd3⟩, hk, k⟩ := h
    obtain ⟨nd, hin, hv, hl⟩ := id S
    have hu := hu_of hr
    obtain ⟨⟨dx, h1⟩, h2⟩ := id B
    refine ⟨_, (pss_cons (ps_expr (C8.pe_mt mCheck hr (by decide) (pv 0) (pa_cons (pv 1) pa_nil)))
      (pss_cons (ps_if (pt_not (pt_val (C8.pe_c cOn hr (by decide) (by rfl) (pa_cons (pe_fld (pv 0) rfl) (pa_cons (pv 2) pa_nil))))) (pss_one ps_never) pss_nil)
      (pss_cons (ps_set (i := 3) scHear.nd rfl (.inl rfl) (C8.pe_c cCh hr (by decide) (by rfl) (pa_cons (C8.pe_mt mSay hr (by decide) (pv 0) (pa_cons (pv 1) pa_nil)) (pa_cons (pv 2) pa_nil))))
      (pss_cons (ps_set (i := 4) scHear.nd rfl (.inl rfl) (C8.pe_c cSl hr (by decide) (by rfl) (pa_cons (pe_fld (pv 0) rfl) (pa_cons (pe_fld (pv 0) rfl) (pa_cons (pe_fld (pv 0) rfl) (pa_cons (pv 3) pa_nil))))))
      (pss_cons (ps_for PassesOwn.never rfl (pi_list (pe_callTy (call_listD rfl) (by rfl) T.n_list (by decide +kernel) (pa_cons (pe_fld (pv 0) rfl) pa_nil))) (pg_name (i := 5) scHear.nd rfl (.inl rfl)) (pss_one (ps_if (pt_cmp (pc_din hu (pv 5) (pv 1))) (pss_cons (ps_set (i := 6) scHear.nd rfl (.inl rfl) (C8.pe_c cCh hr (by decide) (by rfl) (pa_cons (pe_dget hu (pv 1) (pv 5) (fun _ _ => rfl)) (pa_cons (pv 2) pa_nil))))
      (pss_one (ps_daug hu (pe_fld (pv 0) rfl) (pv 5) (C8.pe_c cAw hr (by decide) (by rfl) (pa_cons (pe_fld (pv 0) rfl) (pa_cons (pe_fld (pv 0) rfl) (pa_cons (pe_fld (pv 0) rfl) (pa_cons (pv 3) (pa_cons (pv 6) pa_nil)))))) in_mulW (fun _ _ _ => rfl)))) (pss_one (ps_daug hu (pe_fld (pv 0) rfl) (pv 5) (pv 4) in_mulW (fun _ _ _ => rfl))))))
      (pss_one (ps_fldaug (pv 0) (pv 4) in_mulW))))))), ?_⟩
    refine ⟨_, rfl, p, dx, _, rfl, h1, f_no _ _ _ (by decide +kernel), _, rfl, p, d, a, b, sd, rfl, B, ha, had, S, ?_⟩
    refine ⟨_, rfl, p, C, dx, _, _, rfl, h1, T.cl, T.a_scale, f_scale _ _, _, rfl, _, _, rfl, so0, so1, _, rfl, ?_⟩
    refine iteF ?_
    refine ⟨_, rfl, p, dx, _, rfl, h1, f_no _ _ _ (by decide +kernel), _, rfl, p, d, a, b, sd, rfl, B, ha, had, S, fun H1 s1 => ?_⟩
    have B1 := B.same s1
    have ha1 := s1 _ _ ha
    obtain ⟨⟨dx, h1⟩, h2⟩ := id B1
    obtain ⟨m0, m1⟩ := mid_in (sc := b.sc) (by omega) (prs_in (ts := b.ts) nd hv)
    refine ⟨_, rfl, _, _, rfl, ?_⟩
    obtain ⟨z1, z2, z3, z4, z5⟩ := id hscl
    have off0 : (0 : Int) ≤ ((mid (prs sd b.ts) - so).natAbs : Int) := by omega
    have off1 : ((mid (prs sd b.ts) - so).natAbs : Int) ≤ 10 := by omega
    generalize ((mid (prs sd b.ts) - so).natAbs : Int) = off at off0 off1
    refine ⟨_, rfl, p, C, dx, _, _, rfl, h1, T.cl, T.a_scale, f_scale _ _, _, rfl, p, C, dx, _, _, rfl, h1, T.cl, T.a_top, f_top _ _, _, rfl, p, C, dx, _, _, rfl, h1, T.cl, T.a_bottom, f_bottom _ _, _, rfl, ?_⟩
    refine ⟨_, _, _, _, rfl, hscl, off0, off1, fun rest r0 r1 => ?_⟩
    refine ⟨_, rfl, p, C, dx, _, _, rfl, h1, T.cl, T.a_tops, f_tops _ _, d, _, rfl, .inl h2, fun l hl0 => ?_⟩
    have s2 : Same H1 _ := same_upd (o := .lst ((kvs b.ts).map fun kv => kV kv.1)) hl0
    have hl2 : upd H1 l (.lst ((kvs b.ts).map fun kv => kV kv.1)) l = some (.lst ((ks b.ts).map V.str)) := by rw [upd_same, kvs_names]
    generalize upd H1 l (.lst ((kvs b.ts).map fun kv => kV kv.1)) = H2 at s2 hl2
    have B2 := B1.same s2
    have ha2 := s2 _ _ ha1
    obtain ⟨⟨dx, h1⟩, h2⟩ := id B2
    have nlp : l ≠ p := ne_of hl2 h1 (by intro z; cases z)
    have nld : l ≠ d := ne_of hl2 h2 (by intro z; cases z)
    have nap : a ≠ p := ne_of ha2 h1 (by intro z; cases z)
    have npd := B2.ne
    refine ⟨l, rfl, ⟨_, SqL.of hl2⟩, for_list (K := K) (a := l) (xs := (ks b.ts).map V.str) (fun i σ H3 => ∃ (ts2 : List (Str × Int)) (v5 v6 : Option V), σ = [some (.ref p), some (.ref a), some (.int so), some (.int off), some (.int rest), v5, v6] ∧ ks ts2 = ks b.ts ∧ H3 d = some (.dK (kvs ts2)) ∧ (∀ c o, H2 c = some o → c ≠ d → H3 c = some o) ∧
        (∀ (j : Nat) (n : Str), (ks b.ts)[j]? = some n → j < i → ∃ x, lk ts2 n = some x ∧ 0 ≤ x ∧ x.natAbs < 2 ^ (220 * (kk + 1) + 1)) ∧ (∀ (j : Nat) (n : Str), (ks b.ts)[j]? = some n → i ≤ j → lk ts2 n = lk b.ts n))
      ⟨b.ts, none, none, rfl, rfl, h2, fun c o e _ => e, fun j n _ h => absurd h (Nat.not_lt_zero _), fun j n _ _ => rfl⟩ (fun i σ H3 _ ⟨_, _, _, _, _, _, e, _⟩ => SqL.of (e _ _ hl2 nld)) ?_ ?_⟩
    · rintro i x σ H3 hi ⟨ts2, v5, v6, rfl, hks, g2, kp, hb1, hb2⟩
      obtain ⟨n, hn, rfl⟩ := map_at hi
      have hnm : n ∈ ks b.ts := List.mem_of_getElem? hn
      have ha3 := kp _ _ ha2 had
      have g1 := kp _ _ h1 npd
      obtain ⟨x, hx⟩ := lk_in hnm
      have hx2 : lk ts2 n = some x := by rw [hb2 i n hn (Nat.le_refl _)]; exact hx
      obtain ⟨x0, x1⟩ := bd1 _ (lk_some_mem hx)
      have hl2' : ts2.length ≤ 1000 := by
        have e := congrArg List.length hks
        rw [ks_len, ks_len] at e
        omega
      have fin : ∀ (r : Int) (v : Option V), 0 ≤ r → r.natAbs < 2 ^ 220 → ∃ (ts3 : List (Str × Int)) (v5 v6 : Option V), [some (V.ref p), some (V.ref a), some (V.int so), some (V.int off), some (V.int rest), some (V.str n), v] = [some (V.ref p), some (V.ref a), some (V.int so), some (V.int off), some (V.int rest), v5, v6] ∧ ks ts3 = ks b.ts ∧ upd H3 d (.dK (kvs (pt ts2 n (x * r)))) d = some (.dK (kvs ts3)) ∧ (∀ c o, H2 c = some o → c ≠ d → upd H3 d (.dK (kvs (pt ts2 n (x * r)))) c = some o) ∧
          (∀ (j : Nat) (n : Str), (ks b.ts)[j]? = some n → j < i + 1 → ∃ x, lk ts3 n = some x ∧ 0 ≤ x ∧ x.natAbs < 2 ^ (220 * (kk + 1) + 1)) ∧ (∀ (j : Nat) (n : Str), (ks b.ts)[j]? = some n → i + 1 ≤ j → lk ts3 n = lk b.ts n) := by
        intro r v r0 r1
        refine ⟨pt ts2 n (x * r), _, _, rfl, by rw [ks_pt_old _ (by rw [hks]; exact hnm), hks], upd_same, fun c o e hc => by rw [upd_ne hc]; exact kp c o e hc, fun j m hm hj => ?_, fun j m hm hj => ?_⟩
        · by_cases e : m = n
          · subst e
            refine ⟨x * r, by rw [lk_pt, if_pos rfl], Int.mul_nonneg x0 r0, ?_⟩
            have z := wide_lt x1 r1
            rw [show 220 * kk + 1 + 220 = 220 * (kk + 1) + 1 by omega] at z
            exact z
          · rw [lk_pt, if_neg e]
            by_cases hji : j = i
            · subst hji
              rw [hn] at hm
              exact absurd (Option.some.inj hm).symm e
            · exact hb1 j m hm (by omega)
        · have e : m ≠ n := fun e => by
            subst e
            have := nd_ix ndT hm hn
            omega
          rw [lk_pt, if_neg e]
          exact hb2 j m hm (by omega)
      refine ⟨_, rfl, _, rfl, a, _, rfl, dget_o (.inl ha3), _, rfl, ?_⟩
      cases e : lk sd n with
      | none =>
        refine iteF ?_
        refine ⟨_, rfl, p, C, dx, _, _, rfl, g1, T.cl, T.a_tops, f_tops _ _, _, rfl, d, _, rfl, dget_s (.inl g2) hx2, _, rfl, _, _, rfl, rfl, wide_mul x1 r1 (by omega) (by decide) (by omega), _, dput_s g2 hl2', ?_⟩
        exact fin rest v6 r0 r1
      | some v =>
        refine iteT ?_
        obtain ⟨v0, v1⟩ := hv _ (lk_some_mem e)
        have v0 : 0 ≤ v := v0
        have v1 : v ≤ b.sc := v1
        refine ⟨_, rfl, _, rfl, a, _, rfl, dget_s (.inl ha3) e, _, rfl, _, _, rfl, ?_⟩
        refine ⟨_, rfl, p, C, dx, _, _, rfl, g1, T.cl, T.a_tops, f_tops _ _, _, rfl, d, _, rfl, dget_s (.inl g2) hx2, ?_⟩
        refine ⟨_, rfl, p, C, dx, _, _, rfl, g1, T.cl, T.a_scale, f_scale _ _, _, rfl, p, C, dx, _, _, rfl, g1, T.cl, T.a_top, f_top _ _, _, rfl, p, C, dx, _, _, rfl, g1, T.cl, T.a_bottom, f_bottom _ _, _, rfl, _, rfl, ?_⟩
        refine ⟨_, _, _, _, _, rfl, hscl, off0, off1, by omega, by omega, fun r q0 q1 => ?_⟩
        refine ⟨_, _, rfl, rfl, wide_mul x1 q1 (by omega) (by decide) (by omega), _, dput_s g2 hl2', ?_⟩
        exact fin r _ q0 q1
    · rintro σ H3 ⟨ts2, v5, v6, rfl, hks, g2, kp, hb1, hb2⟩
      have g1 := kp _ _ h1 npd
      refine ⟨_, rfl, p, C, dx, _, _, rfl, g1, T.cl, T.a_under, f_under _ _, _, rfl, _, _, rfl, rfl, wide_mul bd3 r1 (by omega) (by decide) (by omega), dx, _, g1, (by show 6 < 1000; decide), ?_⟩
      refine k _ ts2 (b.un * rest) hks ⟨fun q hq => ?_, Int.mul_nonneg bd2 r0, ?_⟩ ⟨⟨dx, Eq.trans upd_same (congrArg (fun l => some (HO.ins C dx l)) (p_under d b (b.un * rest)))⟩, Eq.trans (upd_ne npd.symm) g2⟩ fun c o e hp hd => ?_
      · have hm : q.1 ∈ ks b.ts := by rw [← hks]; exact List.mem_map.mpr ⟨q, hq, rfl⟩
        obtain ⟨j, hj, ej⟩ := List.getElem_of_mem hm
        obtain ⟨y, hy, y0, y1⟩ := hb1 j q.1 (by rw [List.getElem?_eq_getElem hj, ej]) (by rw [List.length_map]; exact hj)
        rw [lk_of_mem (by rw [hks]; exact ndT) hq] at hy
        cases hy
        exact ⟨y0, y1⟩
      · have z := wide_lt bd3 r1
        rw [show 220 * kk + 1 + 220 = 220 * (kk + 1) + 1 by omega] at z
        exact z
      · rw [upd_ne hp]
        exact kp _ _ (s2 _ _ (s1 _ _ e)) hd
end
end K8

set_option Elab.async false
set_option linter.all false
set_option maxRecDepth 100000
set_option maxHeartbeats 4000000
/-! still; the locked comprehension of pairs. -/
namespace K8
open PySem PySem.Spec PyProof.Rows L2
theorem prs_snoc {H H' : Hp} {rs : List Addr} {l : List PII} {p : PII} {t : Addr} (h : PrsAt H rs l) (k : ∀ r ∈ rs, ∀ o, H r = some o → H' r = some o) (ht : H' t = some (.tup [.int p.1, .int p.2])) : PrsAt H' (rs ++ [t]) (l ++ [p]) := by
  refine ⟨by rw [List.length_append, List.length_append, h.1]; rfl, fun j r q hr hq => ?_⟩
  by_cases hj : j < rs.length
  · rw [List.getElem?_append_left hj] at hr
    rw [List.getElem?_append_left (by rw [← h.1]; exact hj)] at hq
    exact k r (List.mem_of_getElem? hr) _ (h.2 j r q hr hq)
  · have hjl := (List.getElem?_eq_some_iff.mp hr).1
    rw [List.length_append, List.length_singleton] at hjl
    have hje : j = rs.length := by omega
    subst hje
    rw [List.getElem?_append_right (Nat.le_refl _), Nat.sub_self] at hr
    rw [h.1, List.getElem?_append_right (Nat.le_refl _), Nat.sub_self] at hq
    cases hr
    cases hq
    exact ht
/-- [(said[name], tops[name]) for name in said] -/
theorem lock_pairs {H : Hp} {a : Addr} {sd ts : List (Str × Int)} {te : TE} {σ : L2.St} {vs : List Nat} {i ja : Nat} {Q : VK} (ha : H a = some (.dK (kvs sd))) (hs : σ[ja]? = some (some (.ref a))) (hl : sd.length < 64) (hin : ∀ n ∈ ks sd, n ∈ ks ts)
    (hw : ∀ n : Str, wipe ((wipe σ vs).set i (some (.str n))) vs = wipe σ vs)
    (hte : ∀ (n : Str) (x y : Int) (H2 : Hp) (od : Obj) (Q' : VK), lk sd n = some x → lk ts n = some y → H2 a = some (.frz od (.dK (kvs sd))) → (∀ c o, H c = some o → c ≠ a → H2 c = some o) → (∀ t, H2 t = none → Q' (.ref t) (upd H2 t (.tup [.int x, .int y]))) → te ((wipe σ vs).set i (some (.str n))) H2 Q')
    (k : ∀ (l : Addr) (qs : List Addr) (H' : Hp), Same H H' → H' l = some (.lst (qs.map V.ref)) → PrsAt H' qs (prs sd ts) → Q (.ref l) H') : tLockE (tLc (iKeys (tVar ja)) (gName i) tYes te vs) σ H Q := by
  refine ⟨a, _, ha, trivial, fun od => ?_⟩
  refine ⟨_, hs, a, od, rfl, .inl ⟨_, upd_same, fun D hD => ?_⟩⟩
  have hDa : D ≠ a := fun e => by rw [e, upd_same] at hD; cases hD
  have hD0 : H D = none := by rw [upd_ne hDa] at hD; exact hD
  refine lc_it walk_keys (fun j H2 => H2 a = some (.frz od (.dK (kvs sd))) ∧ (∀ c o, H c = some o → c ≠ a → H2 c = some o) ∧ ∃ rs : List Addr, H2 D = some (.lst (rs.map V.ref)) ∧ PrsAt H2 rs ((prs sd ts).take j) ∧ ∀ r ∈ rs, r ≠ D)
    ⟨Eq.trans (upd_ne hDa.symm) upd_same, fun c o e hc => by rw [upd_ne (ne_of_none e hD0), upd_ne hc]; exact e, [], upd_same, ⟨rfl, fun j q p e => by cases e⟩, fun r m => by cases m⟩ (fun j H2 _ h => h.1) ?_ ?_
  · rintro j x H2 H3 hj ⟨g1, g2, rs, g3, g4, g5⟩ ⟨rfl, kk, vv, hk, rfl⟩
    obtain ⟨q, hq, rfl, rfl⟩ := key_at hk
    have hnm : q.1 ∈ ks sd := List.mem_map.mpr ⟨q, List.mem_of_getElem? hq, rfl⟩
    obtain ⟨x, hx⟩ := lk_in hnm
    obtain ⟨y, hy⟩ := lk_in (hin _ hnm)
    refine ⟨hw q.1, ?_⟩
    have hjl := (List.getElem?_eq_some_iff.mp hq).1
    have hp : (prs sd ts)[j]? = some (x, y) := by
      unfold prs ks
      rw [List.getElem?_map, List.getElem?_map, hq]
      show some (f2 sd ts q.1) = _
      unfold f2
      rw [hx, hy]
      rfl
    have lrs : rs.length = j := by
      rw [g4.1, List.length_take]
      have := (List.getElem?_eq_some_iff.mp hp).1
      omega
    refine hte q.1 x y _ od _ hx hy g1 g2 fun t ht => ?_
    have hDt : D ≠ t := ne_of_none g3 ht
    have hat : a ≠ t := ne_of_none g1 ht
    refine ⟨_, Eq.trans (upd_ne hDt) g3, small1000 (by rw [List.length_map]; omega), ?_⟩
    refine ⟨by rw [upd_ne hDa.symm, upd_ne hat]; exact g1, fun c o e hc => ?_, rs ++ [t], ?_, ?_, ?_⟩
    · rw [upd_ne (ne_of_none e hD0), upd_ne (ne_of_none (g2 c o e hc) ht)]
      exact g2 c o e hc
    · rw [upd_same, List.map_append]
      all_goals rfl
    · rw [take_snoc hp]
      refine prs_snoc g4 (fun r m o e => ?_) ?_
      · rw [upd_ne (g5 r m), upd_ne (ne_of_none e ht)]
        exact e
      · rw [upd_ne hDt.symm, upd_same]
    · intro r m
      rcases List.mem_append.mp m with m | m
      · exact g5 r m
      · rw [List.mem_singleton.mp m]
        exact hDt.symm
  · rintro H2 ⟨g1, g2, rs, g3, g4, g5⟩
    have hlp : (prs sd ts).length = (kvs sd).length := by unfold prs ks; rw [List.length_map, List.length_map, kvs_len]
    rw [← hlp, List.take_length] at g4
    refine ⟨g1, ?_⟩
    refine k D rs _ (fun c o e => ?_) (by rw [upd_ne hDa]; exact g3) ⟨g4.1, fun j r p hr hp => ?_⟩
    · by_cases hc : c = a
      · subst hc
        rw [upd_same, ← e, ha]
      · rw [upd_ne hc]
        exact g2 c o e hc
    · have z := g4.2 j r p hr hp
      rw [upd_ne (ne_of z g1 (by intro z; cases z))]
      exact z
section
variable {P : Program} {w : World} {K : PySem.W.Frag} {mg : Str → Option Value} {base : Heap} {f C : Addr} {fd : FuncData}
theorem ok_still (F : Fun K "_law_still" "_law_still" sStill f fd) (T : Txt K mg C) (mWei : C8.Met P w K mg base 1 C "weights" (spWei C) []) (cTold : C8.Cal P w K mg base 5 "_law_told" (spSay C) []) (cMidL : C8.Cal P w K mg base 1 "_law_middle" spMidL []) : FnOk P w K mg base CX0 6 f fd ["_law_book", "_law_said_here"] (spStill C) := by
  refine F.ok scStill (fun vs H Q E h => ?_) (fun cdv A outer s H vs Q E hr h => ?_)
  · obtain ⟨_, _, _, _, _, rfl, _⟩ := h
    rfl
  · obtain ⟨p, d, a, b, sd, rfl, B, ha, had, nd, hv, hl, k⟩ := h
    have hu := hu_of hr
    obtain ⟨⟨dx, h1⟩, h2⟩ := id B
    refine ⟨_, (pss_cons (ps_set (i := 2) scStill.nd rfl (.inr rfl) (pe_ix ix_tup (C8.pe_mt0 mWei hr (by decide) (pv 0)) pe_int (fun _ _ => rfl)))
      (pss_cons (ps_lock (ps_for PassesOwn.never rfl (pi_keys (pv 1)) (pg_name (i := 3) scStill.nd rfl (.inl rfl)) (pss_one (ps_if (pt_cmp (pc_dnotin hu (pv 3) (pv 2))) (pss_one (ps_ret pe_bl)) pss_nil))))
      (pss_one (ps_ret (pe_cmpR op_eq (C8.pe_c cTold hr (by decide) (by rfl) (pa_cons (pv 0) (pa_cons (pv 1) pa_nil))) (C8.pe_c cMidL hr (by decide) (by rfl) (pa_cons (pe_lock (pe_lc (own := [("_law_name", 3)]) (g := gName 3) (tt := tYes) rfl scStill.nd (pi_keys (pv 1)) (blkOk_by (own := [("_law_name", 3)]) (N := NStill) (sc := defScope sStill) (by decide +kernel)) (fun _ _ _ _ _ => pg_name (i := 3) scStill.nd rfl (Or.inl rfl)) (fun _ _ _ _ _ => pts_nil) (fun _ _ _ _ _ => (pe_tup (pa_cons (pe_dget hu (pv 1) (pv 3) (fun _ _ => rfl)) (pa_cons (pe_dget hu (pv 2) (pv 3) (fun _ _ => rfl)) pa_nil)))))) pa_nil)) (nomark _)))))), ?_⟩
    refine ⟨_, rfl, p, dx, _, rfl, h1, f_no _ _ _ (by decide +kernel), p, d, b, rfl, B, fun e q H1 he hq g1 g2 s1 => ?_⟩
    refine ⟨q, _, _, _, rfl, rfl, SqT.of g2, at_of (j := 0) rfl rfl, ?_⟩
    have ha1 := s1 _ _ ha
    have B1 := B.same s1
    have nea : e ≠ a := (ne_of_none ha he).symm
    refine ⟨a, _, ha1, trivial, fun od => ?_⟩
    have g1' : upd H1 a (.frz od (.dK (kvs sd))) e = _ := Eq.trans (upd_ne nea) g1
    refine ⟨_, rfl, a, od, rfl, .inl ⟨_, upd_same, for_it walk_keys (fun i σ H2 => H2 = upd H1 a (.frz od (.dK (kvs sd))) ∧ (∃ v, σ = [some (.ref p), some (.ref a), some (.ref e), v]) ∧ ∀ (j : Nat) (n : Str), (ks sd)[j]? = some n → j < i → n ∈ ks b.ts) ⟨rfl, ⟨none, rfl⟩, fun j n _ h => absurd h (Nat.not_lt_zero _)⟩ (fun i σ H2 _ h => by rw [h.1]; exact upd_same) ?_ ?_⟩⟩
    · rintro i x σ H2 H3 hi ⟨rfl, ⟨v, rfl⟩, hj⟩ ⟨rfl, kk, vv, hk, rfl⟩
      obtain ⟨q, hq, rfl, rfl⟩ := key_at hk
      refine ⟨_, rfl, _, rfl, e, _, rfl, dget_o (.inl g1'), _, rfl, ?_⟩
      cases el : lk b.ts q.1 with
      | none =>
        refine iteT ?_
        refine ⟨upd_same, ?_⟩
        rw [upd_back ha1]
        exact k _ s1
      | some x =>
        refine iteF ?_
        refine ⟨rfl, ⟨_, rfl⟩, fun j n hn hji => ?_⟩
        by_cases hje : j = i
        · subst hje
          unfold ks at hn
          rw [List.getElem?_map, hq] at hn
          cases hn
          exact lk_isSome_iff.mp (by rw [el]; rfl)
        · exact hj j n hn (by omega)
    · rintro σ H2 ⟨rfl, ⟨v, rfl⟩, hj⟩
      refine ⟨upd_same, ?_⟩
      rw [upd_back ha1]
      have hin : ∀ n ∈ ks sd, n ∈ ks b.ts := fun n hn => by
        obtain ⟨j, hjl, ej⟩ := List.getElem_of_mem hn
        exact hj j n (by rw [List.getElem?_eq_getElem hjl, ej]) (by rw [kvs_len, ← ks_len]; exact hjl)
      refine ⟨_, rfl, _, rfl, p, d, a, b, sd, rfl, B1, ha1, had, ⟨nd, hin, hv, hl⟩, fun H2 s2 => ?_⟩
      refine lock_pairs (ts := b.ts) (s2 _ _ ha1) rfl hl hin (fun n => rfl) (fun n x y H3 od Q' hx hy g3 g4 hq => ?_) fun l qs H3 s3 hl3 hp3 => ?_
      · exact ⟨_, rfl, _, rfl, a, _, rfl, dget_s (.inr ⟨od, g3⟩) hx, _, rfl, _, rfl, e, _, rfl, dget_s (.inl (g4 _ _ (s2 _ _ g1) nea)) hy, by show 2 ≤ sizeLine; decide, hq⟩
      · refine ⟨l, qs, _, rfl, hl3, hp3, by unfold prs ks; rw [List.length_map, List.length_map]; omega, fun H4 s4 => ?_⟩
        refine ⟨rfl, ?_⟩
        show Q (V.bl (decide (V.int (mid (prs sd b.ts)) = V.int (mid (prs sd b.ts))))) _
        rw [decide_eq_true rfl]
        exact k _ (((s1.trans s2).trans s3).trans s4)
end
end K8

set_option Elab.async false
set_option linter.all false
set_option maxRecDepth 100000
set_option maxHeartbeats 4000000
/-! The law's helpers: cell_at, stream, rule, cells, names, said. -/
namespace K8
open PySem PySem.Spec PyProof.Rows L2
theorem cut_map {α : Type} (g : α → V) (ns : List α) (lo hi : Option Int) : ∃ ms : List α, cutV (ns.map g) lo hi = ms.map g := by
  refine ⟨(ns.drop (HT.sIx (ns.map g).length 0 lo)).take (HT.sIx (ns.map g).length (ns.map g).length hi - HT.sIx (ns.map g).length 0 lo), ?_⟩
  unfold cutV
  rw [List.map_take, List.map_drop]
theorem cut_from (ns : List Int) (n : Nat) : cutV (ns.map V.int) (some (n : Int)) none = (ns.drop n).map V.int := by
  unfold cutV
  rw [HT.sIx_nat, HT.sIx_none, List.map_drop, List.length_map]
  by_cases h : n ≤ ns.length
  · rw [Nat.min_eq_left h, List.take_of_length_le (by rw [List.length_drop, List.length_map]; omega)]
  · rw [Nat.min_eq_right (by omega), Nat.sub_self, List.take_zero, List.drop_eq_nil_of_le (by rw [List.length_map]; omega)]
theorem int_at {ns : List Int} {k : Int} (h0 : 0 ≤ k) (h : k < (ns.length : Int)) : ∃ z : Int, ns[k.toNat]? = some z ∧ atI (ns.map V.int) k = some (.int z) := by
  have hl : k.toNat < ns.length := by omega
  refine ⟨ns[k.toNat], List.getElem?_eq_getElem hl, at_of (j := k.toNat) (by omega) ?_⟩
  rw [List.getElem?_map, List.getElem?_eq_getElem hl]
  rfl
theorem str_at {zs : List Str} {k : Int} (h0 : 0 ≤ k) (h : k < (zs.length : Int)) : ∃ z : Str, zs[k.toNat]? = some z ∧ atI (zs.map V.str) k = some (.str z) := by
  have hl : k.toNat < zs.length := by omega
  refine ⟨zs[k.toNat], List.getElem?_eq_getElem hl, at_of (j := k.toNat) (by omega) ?_⟩
  rw [List.getElem?_map, List.getElem?_eq_getElem hl]
  rfl
theorem pt_len (ts : List (Str × Int)) (n : Str) (x : Int) : (pt ts n x).length ≤ ts.length + 1 := by
  unfold pt
  split
  · rw [List.length_map]; omega
  · rw [List.length_append]; exact Nat.le_refl _
theorem md {j : Int} (h : (0 : Int) < j) : (0 : Int) < j := h
theorem nil_letters : ∀ x ∈ (Str.ofString "").cps.toList, x ∈ letters.cps.toList := by
  intro x m
  have e : (Str.ofString "").cps.toList = [] := by decide +kernel
  rw [e] at m
  cases m
theorem nil_size : (Str.ofString "").cps.size = 0 := by decide +kernel
theorem letters_len : letters.cps.toList.length = 26 := by decide +kernel
theorem let_at (st : Int) : ∃ ch, ch ∈ letters.cps.toList ∧ atI letters.cps.toList (st % 26) = some ch := by
  have hk0 : 0 ≤ st % 26 := by omega
  have hk1 : st % 26 < 26 := by omega
  have hkl : (st % 26).toNat < letters.cps.toList.length := by rw [letters_len]; omega
  refine ⟨letters.cps.toList[(st % 26).toNat]'hkl, List.getElem_mem _, ?_⟩
  have e : st % 26 = ((st % 26).toNat : Int) := by omega
  have e2 := atI_nat (List.getElem?_eq_getElem hkl)
  rw [← e] at e2
  exact e2
theorem letters_size : letters.length ≤ sizeLine := by
  have : letters.length = 26 := by decide +kernel
  rw [this]
  decide
section
variable {P : Program} {w : World} {K : PySem.W.Frag} {mg : Str → Option Value} {base : Heap} {f C : Addr} {fd : FuncData}
theorem ok_cell (F : Fun K "_law_cell_at" "_law_cell_at" sCell f fd) (T : Txt K mg C) : FnOk P w K mg base CX0 1 f fd ["_law_script", "_law_k"] (spCell K) := by
  refine F.ok scCell (fun vs H Q E h => ?_) (fun cdv A outer s H vs Q E hr h => ?_)
  · obtain ⟨_, _, _, rfl, _⟩ := h
    rfl
  · obtain ⟨a, ns, i, rfl, ha, i0, k⟩ := h
    refine ⟨_, (pss_cons (ps_if (pt_cmpR op_lt (pv 1) (pe_callB call_len_seq (by rfl) T.n_len (by decide +kernel) (pa_cons (pv 0) pa_nil)) (nomark _)) (pss_one (ps_ret (pe_ix ix_list (pv 0) (pv 1) (fun _ _ => rfl)))) pss_nil)
      (pss_one (ps_ret pe_int))), ?_⟩
    refine ⟨_, rfl, _, rfl, a, _, rfl, .inl ha, _, _, rfl, rfl, _, rfl, ?_⟩
    refine ite2 (fun hd => ?_) (fun hd => ?_)
    · have hd := of_decide_eq_true hd
      rw [List.length_map] at hd
      obtain ⟨z, _, hz⟩ := int_at i0 hd
      exact ⟨_, rfl, _, rfl, a, _, i, _, rfl, rfl, ha, hz, k z⟩
    · exact k 0
theorem ok_str (F : Fun K "_law_stream" "_law_stream" sStr f fd) (T : Txt K mg C) : FnOk P w K mg base CX0 1 f fd ["_law_cell", "_law_many"] spStr := by
  refine F.ok scStr (fun vs H Q E h => ?_) (fun cdv A outer s H vs Q E hr h => ?_)
  · obtain ⟨_, _, rfl, _⟩ := h
    rfl
  · obtain ⟨c, m, rfl, m0, m1, k⟩ := h
    refine ⟨_, (pss_cons (ps_set (i := 2) scStr.nd rfl (.inl rfl) (pe_lst pa_nil))
      (pss_cons (ps_set (i := 3) scStr.nd rfl (.inl rfl) (pe_op op_mod (pv 0) pe_int))
      (pss_cons (ps_for PassesOwn.never rfl (pi_range1 (by rfl) T.n_range (pa_cons (pe_op op_add (pv 1) pe_int) pa_nil)) (pg_name (i := 4) scStr.nd rfl (.inl rfl)) (pss_cons (ps_set (i := 3) scStr.nd rfl (.inl rfl) (pe_op op_mod (pe_op op_add (pe_op op_add (pe_op op_add (pe_op op_mul (pv 3) (pv 3)) (pe_op op_mul pe_int (pv 3))) (pe_op op_mul pe_int (pv 4))) pe_int) pe_int))
      (pss_one (ps_expr (pe_bm PySem.F.plainAttrs_list PySem.F.slot_list_append PySem.F.type_list_append mt_append (pv 2) (pa_cons (pv 3) pa_nil))))))
      (pss_one (ps_ret (pe_slice sl_list (pv 2) (po_some pe_int) po_none)))))), ?_⟩
    refine ⟨by show 0 ≤ sizeLine; decide, fun l hl0 => ?_⟩
    refine ⟨_, rfl, _, _, rfl, rfl, md (by decide), ?_⟩
    refine ⟨_, rfl, _, _, rfl, rfl, m + 1, rfl, by omega, by omega, ?_⟩
    refine for_range (lo := 0) (n := (m + 1).toNat) (fun i σ H2 => (∃ (n : Int) (v : Option V), σ = [some (.int c), some (.int m), some (.ref l), some (.int n), v] ∧ 0 ≤ n ∧ n < 2305843009213693951) ∧ Same H H2 ∧ ∃ ns : List Int, H2 l = some (.lst (ns.map V.int)) ∧ ns.length = i)
      ⟨⟨_, none, rfl, Int.emod_nonneg _ (by decide), Int.emod_lt_of_pos _ (by decide)⟩, same_upd hl0, [], upd_same, rfl⟩ ?_ ?_
    · rintro i σ H2 hi ⟨⟨n, v, rfl, n0, n1⟩, s2, ns, h2, hlen⟩
      refine ⟨_, rfl, _, rfl, _, _, rfl, rfl, .inl ⟨by omega, by omega⟩, _, rfl, _, _, rfl, rfl, .inl ⟨by decide, by decide⟩, _, _, rfl, rfl, _, rfl, _, _, rfl, rfl, .inl ⟨by decide, by decide⟩, _, _, rfl, rfl, _, _, rfl, rfl, _, _, rfl, rfl, md (by decide), ?_⟩
      refine ⟨_, rfl, .inl ⟨rfl, _, SqL.of h2⟩, _, rfl, l, _, _, rfl, rfl, h2, small1000 (by rw [List.length_map]; omega), ?_⟩
      refine ⟨⟨_, _, rfl, Int.emod_nonneg _ (by decide), Int.emod_lt_of_pos _ (by decide)⟩, fun b o e => ?_, ns ++ [(n * n + 48271 * n + 7 * (0 + (i : Int)) + 3) % 2305843009213693951], ?_, by rw [List.length_append, hlen]; rfl⟩
      · rw [upd_ne (ne_of_none e hl0)]
        exact s2 b o e
      · rw [upd_same, List.map_append]
        all_goals rfl
    · rintro σ H2 ⟨⟨n, v, rfl, n0, n1⟩, s2, ns, h2, hlen⟩
      refine ⟨_, rfl, _, rfl, l, _, rfl, SqL.of h2, fun p hp => ?_⟩
      refine k p (ns.drop 1) _ (by rw [List.length_drop, hlen]; omega) (s2.free hp) ?_ (s2.trans (same_upd hp))
      rw [upd_same]
      exact congrArg (fun z => some (HO.lst z)) (cut_from ns 1)
theorem ok_rul (F : Fun K "_law_rule" "_law_rule" sRul f fd) (T : Txt K mg C) (cCell : C8.Cal P w K mg base 1 "_law_cell_at" (spCell K) []) : FnOk P w K mg base CX0 2 f fd ["_law_script"] (spRul K) := by
  refine F.ok scRul (fun vs H Q E h => ?_) (fun cdv A outer s H vs Q E hr h => ?_)
  · obtain ⟨_, _, rfl, _⟩ := h
    rfl
  · obtain ⟨a, ns, rfl, ha, k⟩ := h
    refine ⟨_, (pss_cons (ps_set (i := 1) scRul.nd rfl (.inl rfl) pe_int)
      (C8.pss_cut (ps_if (pt_cmpR op_eq (pe_op op_mod (C8.pe_c cCell hr (by decide) (by rfl) (pa_cons (pv 0) (pa_cons pe_int pa_nil))) pe_int) pe_int (nomark _)) (pss_one (ps_set (i := 1) scRul.nd rfl (.inl rfl) (pe_op op_add pe_int (pe_op op_mod (pe_op op_fdiv (C8.pe_c cCell hr (by decide) (by rfl) (pa_cons (pv 0) (pa_cons pe_int pa_nil))) pe_int) pe_int)))) pss_nil)
      (pss_cons (ps_set (i := 2) scRul.nd rfl (.inl rfl) (pe_op op_add pe_int (pe_op op_mod (C8.pe_c cCell hr (by decide) (by rfl) (pa_cons (pv 0) (pa_cons pe_int pa_nil))) pe_int)))
      (C8.pss_cut (ps_if (pt_cmpR op_eq (pe_op op_mod (pe_op op_fdiv (C8.pe_c cCell hr (by decide) (by rfl) (pa_cons (pv 0) (pa_cons pe_int pa_nil))) pe_int) pe_int) pe_int (nomark _)) (pss_one (ps_set (i := 2) scRul.nd rfl (.inl rfl) (pe_op op_add pe_int (pe_op op_mod (pe_op op_fdiv (C8.pe_c cCell hr (by decide) (by rfl) (pa_cons (pv 0) (pa_cons pe_int pa_nil))) pe_int) pe_int)))) pss_nil)
      (pss_one (ps_ret (pe_tup (pa_cons (pv 1) (pa_cons (pe_op op_mod (pe_op op_fdiv (C8.pe_c cCell hr (by decide) (by rfl) (pa_cons (pv 0) (pa_cons pe_int pa_nil))) pe_int) (pv 2)) (pa_cons (pv 2) pa_nil)))))))))), ?_⟩
    refine ⟨fun σ' H' => H' = H ∧ ∃ sc : Int, σ' = [some (.ref a), some (.int sc), none] ∧ 1 ≤ sc ∧ sc ≤ 10, ?_, ?_⟩
    · refine ⟨_, rfl, a, ns, 0, rfl, ha, by decide, fun z => ?_⟩
      refine ⟨_, _, rfl, rfl, md (by decide), rfl, _, rfl, ?_⟩
      refine ite2 (fun _ => ?_) (fun _ => ?_)
      · refine ⟨_, rfl, a, ns, 0, rfl, ha, by decide, fun y => ?_⟩
        refine ⟨_, _, rfl, rfl, ⟨by decide, by decide⟩, _, _, rfl, rfl, md (by decide), _, _, rfl, rfl, ?_⟩
        exact ⟨rfl, _, rfl, by omega, by omega⟩
      · exact ⟨rfl, _, rfl, by decide, by decide⟩
    · rintro σ' H' ⟨rfl, sc, rfl, sc0, sc1⟩
      refine ⟨_, rfl, a, ns, 1, rfl, ha, by decide, fun z => ?_⟩
      refine ⟨_, _, rfl, rfl, md (by decide), _, _, rfl, rfl, ?_⟩
      refine ⟨fun σ' H2 => H2 = H' ∧ ∃ bt : Int, σ' = [some (.ref a), some (.int sc), some (.int bt)] ∧ 1 ≤ bt ∧ bt ≤ 100, ?_, ?_⟩
      · refine ⟨_, rfl, a, ns, 1, rfl, ha, by decide, fun y => ?_⟩
        refine ⟨_, _, rfl, rfl, ⟨by decide, by decide⟩, _, _, rfl, rfl, md (by decide), rfl, _, rfl, ?_⟩
        refine ite2 (fun _ => ?_) (fun _ => ?_)
        · refine ⟨_, rfl, a, ns, 1, rfl, ha, by decide, fun x => ?_⟩
          refine ⟨_, _, rfl, rfl, ⟨by decide, by decide⟩, _, _, rfl, rfl, md (by decide), _, _, rfl, rfl, ?_⟩
          exact ⟨rfl, _, rfl, by omega, by omega⟩
        · exact ⟨rfl, _, rfl, by omega, by omega⟩
      · rintro σ' H2 ⟨rfl, bt, rfl, b0, b1⟩
        refine ⟨_, rfl, _, rfl, a, ns, 1, rfl, ha, by decide, fun x => ?_⟩
        refine ⟨_, _, rfl, rfl, ⟨by decide, by decide⟩, _, rfl, _, _, rfl, rfl, md (by omega), _, rfl, by show 3 ≤ sizeLine; decide, fun q hq => ?_⟩
        exact k q sc _ bt _ ⟨sc0, sc1, Int.emod_nonneg _ (by omega), Int.emod_lt_of_pos _ (by omega), b1⟩ upd_same (same_upd hq)
theorem ok_cells (F : Fun K "_law_cells" "_law_cells" sCells f fd) (T : Txt K mg C) (cCell : C8.Cal P w K mg base 1 "_law_cell_at" (spCell K) []) (cStr : C8.Cal P w K mg base 1 "_law_stream" spStr []) : FnOk P w K mg base CX0 2 f fd ["_law_script", "_law_first"] (spCells K) := by
  refine F.ok scCells (fun vs H Q E h => ?_) (fun cdv A outer s H vs Q E hr h => ?_)
  · obtain ⟨_, _, rfl, _⟩ := h
    rfl
  · obtain ⟨a, ns, rfl, ha, hl, k⟩ := h
    refine ⟨_, (pss_cons (ps_set (i := 2) scCells.nd rfl (.inl rfl) (C8.pe_c cCell hr (by decide) (by rfl) (pa_cons (pv 0) (pa_cons pe_int pa_nil))))
      (pss_cons (ps_if (pt_cmpR op_eq (pe_op op_mod (pe_op op_fdiv (pv 2) pe_int) pe_int) pe_int (nomark _)) (pss_one (ps_ret (C8.pe_c cStr hr (by decide) (by rfl) (pa_cons (pe_op op_fdiv (pv 2) pe_int) (pa_cons pe_int pa_nil))))) pss_nil)
      (pss_one (ps_ret (pe_slice sl_list (pv 0) (po_some (pv 1)) (po_some pe_int)))))), ?_⟩
    refine ⟨_, rfl, a, ns, 0, rfl, ha, by decide, fun z => ?_⟩
    refine ⟨_, rfl, _, _, rfl, rfl, ⟨by decide, by decide⟩, _, _, rfl, rfl, md (by decide), rfl, _, rfl, ?_⟩
    refine ite2 (fun _ => ?_) (fun _ => ?_)
    · refine ⟨_, rfl, _, _, rfl, rfl, ⟨by decide, by decide⟩, _, 60, rfl, by decide, by decide, fun l ms H' hm _ h2 s2 => ?_⟩
      exact k l ms H' (by rw [hm]; decide) h2 s2
    · refine ⟨_, rfl, _, rfl, _, rfl, _, rfl, a, _, rfl, ha, fun p hp => ?_⟩
      obtain ⟨ms, hms⟩ := cut_map V.int ns (some 3) (some 63)
      have hml : ms.length ≤ 63 := by
        have e := congrArg List.length hms
        have e2 := cutV_length (ns.map V.int) (some 3) (some 63)
        rw [List.length_map] at e e2
        omega
      exact k p ms _ hml (by rw [upd_same]; exact congrArg (fun z => some (HO.lst z)) hms) (same_upd hp)
theorem ok_nms (F : Fun K "_law_names" "_law_names" sNms f fd) (T : Txt K mg C) : FnOk P w K mg base CX0 1 f fd ["_law_cell", "_law_many"] spNms := by
  refine F.ok scNms (fun vs H Q E h => ?_) (fun cdv A outer s H vs Q E hr h => ?_)
  · obtain ⟨_, rfl, _⟩ := h
    rfl
  · obtain ⟨c, rfl, k⟩ := h
    refine ⟨_, (pss_cons (ps_set (i := 2) scNms.nd rfl (.inl rfl) pe_str)
      (pss_cons (ps_set (i := 3) scNms.nd rfl (.inl rfl) (pe_op op_add pe_int (pe_op op_mod (pv 0) pe_int)))
      (pss_cons (ps_set (i := 4) scNms.nd rfl (.inl rfl) (pe_op op_mod (pe_op op_fdiv (pv 0) pe_int) (pv 3)))
      (pss_cons (ps_set (i := 5) scNms.nd rfl (.inl rfl) (pe_lst pa_nil))
      (pss_cons (ps_for PassesOwn.never rfl (pi_range1 (by rfl) T.n_range (pa_cons (pv 1) pa_nil)) (pg_name (i := 6) scNms.nd rfl (.inl rfl)) (pss_cons (ps_set (i := 7) scNms.nd rfl (.inl rfl) pe_str)
      (pss_cons (ps_for PassesOwn.never rfl (pi_range1 (by rfl) T.n_range (pa_cons (pv 3) pa_nil)) (pg_name (i := 8) scNms.nd rfl (.inl rfl)) (pss_cons (ps_set (i := 9) scNms.nd rfl (.inl rfl) (pe_op op_add (pe_op op_fdiv (pv 0) (pe_op op_add pe_int (pe_op op_mul (pe_op op_mul pe_int (pv 8)) (pv 8)))) (pe_op op_mul (pv 6) (pe_callTy call_int1 (by rfl) T.n_int (by decide +kernel) (pa_cons (pe_cmpR op_eq (pv 8) (pv 4) (nomark _)) pa_nil)))))
      (pss_one (ps_set (i := 7) scNms.nd rfl (.inl rfl) (pe_op op_add_str (pv 7) (pe_ix ix_str (pv 2) (pe_op op_mod (pv 9) pe_int) (fun _ _ => rfl)))))))
      (pss_one (ps_expr (pe_bm PySem.F.plainAttrs_list PySem.F.slot_list_append PySem.F.type_list_append mt_append (pv 5) (pa_cons (pv 7) pa_nil)))))))
      (pss_one (ps_ret (pv 5)))))))), ?_⟩
    refine ⟨_, rfl, _, _, rfl, rfl, md (by decide), _, _, rfl, rfl, ?_⟩
    have z0 : 1 ≤ 1 + c % 8 := by omega
    have z1 : 1 + c % 8 ≤ 8 := by omega
    refine ⟨_, rfl, _, _, rfl, rfl, ⟨by decide, by decide⟩, _, rfl, _, _, rfl, rfl, md (by omega), ?_⟩
    refine ⟨by show 0 ≤ sizeLine; decide, fun l hl0 => ?_⟩
    refine ⟨_, rfl, 6, rfl, by decide, by decide, ?_⟩
    refine for_range (lo := 0) (n := 6) (fun i σ H2 => (∃ v6 v7 v8 v9 : Option V, σ = [some (.int c), some (.int 6), some (.str letters), some (.int (1 + c % 8)), some (.int (c / 8 % (1 + c % 8))), some (.ref l), v6, v7, v8, v9]) ∧ Same H H2 ∧ ∃ zs : List Str, H2 l = some (.lst (zs.map V.str)) ∧ zs.length = i ∧ ∀ z ∈ zs, NameOk z)
      ⟨⟨none, none, none, none, rfl⟩, same_upd hl0, [], upd_same, rfl, fun z m => (by cases m)⟩ ?_ ?_
    · rintro i σ H2 hi ⟨⟨v6, v7, v8, v9, rfl⟩, s2, zs, h2, hlen, hok⟩
      refine ⟨_, rfl, 1 + c % 8, rfl, by omega, by omega, ?_⟩
      refine for_range (lo := 0) (n := (1 + c % 8).toNat) (fun j σ H3 => H3 = H2 ∧ ∃ (z : Str) (v8 v9 : Option V), σ = [some (.int c), some (.int 6), some (.str letters), some (.int (1 + c % 8)), some (.int (c / 8 % (1 + c % 8))), some (.ref l), some (.int (0 + (i : Nat))), some (.str z), v8, v9] ∧ z.cps.size = j ∧ ∀ x ∈ z.cps.toList, x ∈ letters.cps.toList)
        ⟨rfl, _, v8, v9, rfl, nil_size, nil_letters⟩ ?_ ?_
      · rintro j σ H3 hj ⟨rfl, z, v8, v9, rfl, hz, hin⟩
        have hj8 : j = 0 ∨ j = 1 ∨ j = 2 ∨ j = 3 ∨ j = 4 ∨ j = 5 ∨ j = 6 ∨ j = 7 := by omega
        have hdiv : CDiv c (64 + 7 * (0 + (j : Int)) * (0 + (j : Int))) := by
          unfold CDiv
          rcases hj8 with rfl | rfl | rfl | rfl | rfl | rfl | rfl | rfl <;> decide
        refine ⟨_, rfl, _, rfl, _, _, rfl, rfl, .inl ⟨by decide, by decide⟩, _, rfl, _, _, rfl, rfl, .inr ⟨by omega, by omega⟩, _, _, rfl, rfl, _, _, rfl, rfl, hdiv, _, rfl, _, rfl, _, rfl, rfl, .inr ⟨_, rfl, ?_⟩⟩
        refine ⟨_, _, rfl, rfl, .inl ⟨by omega, by omega⟩, _, _, rfl, rfl, ?_⟩
        obtain ⟨ch, hch, hat⟩ := let_at (c / (64 + 7 * (0 + (j : Int)) * (0 + (j : Int))) + (0 + (i : Int)) * if decide (V.int (0 + (j : Int)) = V.int (c / 8 % (1 + c % 8))) = true then 1 else 0)
        refine ⟨_, rfl, _, rfl, _, rfl, _, _, rfl, rfl, md (by decide), letters, _, _, rfl, rfl, letters_size, hat, _, _, rfl, rfl, ?_, ?_⟩
        · show z.cps.size + 1 ≤ sizeLine
          exact Nat.le_of_lt (small1000 (by omega))
        · refine ⟨rfl, _, _, _, rfl, ?_, ?_⟩
          · show (z.cps ++ #[_]).size = j + 1
            rw [Array.size_append, hz]
            rfl
          · intro x hx
            have hx2 : x ∈ (z.cps ++ #[ch]).toList := hx
            rw [Array.toList_append, List.mem_append] at hx2
            rcases hx2 with hx2 | hx2
            · exact hin x hx2
            · rw [List.mem_singleton.mp hx2]
              exact hch
      · rintro σ H3 ⟨rfl, z, v8, v9, rfl, hz, hin⟩
        refine ⟨_, rfl, .inl ⟨rfl, _, SqL.of h2⟩, _, rfl, l, _, _, rfl, rfl, h2, small1000 (by rw [List.length_map]; omega), ?_⟩
        refine ⟨⟨_, _, _, _, rfl⟩, fun b o e => ?_, zs ++ [z], ?_, by rw [List.length_append, hlen]; rfl, fun x hx => ?_⟩
        · rw [upd_ne (ne_of_none e hl0)]
          exact s2 b o e
        · rw [upd_same, List.map_append]
          all_goals rfl
        · rcases List.mem_append.mp hx with hx | hx
          · exact hok x hx
          · rw [List.mem_singleton.mp hx]
            exact ⟨by omega, by omega, hin⟩
    · rintro σ H2 ⟨⟨v6, v7, v8, v9, rfl⟩, s2, zs, h2, hlen, hok⟩
      exact ⟨_, rfl, k l zs H2 hlen hok h2 s2⟩
theorem ok_said (F : Fun K "_law_said" "_law_said" sSaid f fd) (T : Txt K mg C) : FnOk P w K mg base CX0 1 f fd ["_law_there", "_law_numbers", "_law_scale"] spSaid := by
  refine F.ok scSaid (fun vs H Q E h => ?_) (fun cdv A outer s H vs Q E hr h => ?_)
  · obtain ⟨_, _, _, _, _, rfl, _⟩ := h
    rfl
  · obtain ⟨a, b, th, ns, sc, rfl, ha, hb, hl, hl64, sc0, k⟩ := h
    have hu := hu_of hr
    refine ⟨_, (pss_cons (ps_set (i := 3) scSaid.nd rfl (.inl rfl) pe_dnewK)
      (pss_cons (ps_for PassesOwn.never rfl (pi_range1 (by rfl) T.n_range (pa_cons (pe_callB call_len_seq (by rfl) T.n_len (by decide +kernel) (pa_cons (pv 0) pa_nil)) pa_nil)) (pg_name (i := 4) scSaid.nd rfl (.inl rfl)) (pss_one (ps_if (pt_cmpR op_gt (pe_op op_mod (pe_ix ix_list (pv 1) (pv 4) (fun _ _ => rfl)) pe_int) pe_int (nomark _)) (pss_one (ps_dput hu (pv 3) (pe_ix ix_list (pv 0) (pv 4) (fun _ _ => rfl)) (pe_op op_mod (pe_op op_fdiv (pe_ix ix_list (pv 1) (pv 4) (fun _ _ => rfl)) pe_int) (pe_op op_add (pv 2) pe_int)) rfl)) pss_nil)))
      (pss_one (ps_ret (pv 3))))), ?_⟩
    intro e he
    have s1 : Same H _ := same_upd (o := .dK []) he
    refine ⟨_, rfl, a, _, rfl, .inl (SqL.of (s1 _ _ ha)), _, rfl, by omega, by rw [List.length_map]; omega, ?_⟩
    rw [List.length_map]
    refine for_range (lo := 0) (n := th.length) (fun i σ H2 => (∃ v, σ = [some (.ref a), some (.ref b), some (.int sc), some (.ref e), v]) ∧ Same H H2 ∧ ∃ sd : List (Str × Int), H2 e = some (.dK (kvs sd)) ∧ (ks sd).Nodup ∧ (∀ n ∈ ks sd, n ∈ th) ∧ (∀ q ∈ sd, 0 ≤ q.2 ∧ q.2 ≤ sc) ∧ sd.length ≤ i)
      ⟨⟨none, rfl⟩, s1, [], upd_same, List.nodup_nil, fun n m => (by cases m), fun n m => (by cases m), Nat.le_refl _⟩ ?_ ?_
    · rintro i σ H2 hi ⟨⟨v, rfl⟩, s2, sd, h2, nd, hin, hv, hsl⟩
      have ha2 := s2 _ _ ha
      have hb2 := s2 _ _ hb
      obtain ⟨z, _, hz⟩ := int_at (ns := ns) (k := 0 + (i : Int)) (by omega) (by omega)
      obtain ⟨n, hn, hn2⟩ := str_at (zs := th) (k := 0 + (i : Int)) (by omega) (by omega)
      refine ⟨_, rfl, _, rfl, b, _, _, _, rfl, rfl, SqL.of hb2, hz, _, _, rfl, rfl, md (by decide), _, _, rfl, rfl, _, rfl, ?_⟩
      refine ite2 (fun _ => ?_) (fun _ => ?_)
      · refine ⟨_, rfl, _, rfl, b, _, _, _, rfl, rfl, SqL.of hb2, hz, _, _, rfl, rfl, ⟨by decide, by decide⟩, _, rfl, _, _, rfl, rfl, _, _, rfl, rfl, md (by omega), ?_⟩
        refine ⟨_, rfl, _, rfl, _, rfl, a, _, _, _, rfl, rfl, SqL.of ha2, hn2, e, _, rfl, dput_s h2 (by omega), ?_⟩
        have hx0 : 0 ≤ z / 4 % (sc + 1) := Int.emod_nonneg _ (by omega)
        have hx1 : z / 4 % (sc + 1) < sc + 1 := Int.emod_lt_of_pos _ (by omega)
        refine ⟨⟨_, rfl⟩, fun c o q => ?_, pt sd n (z / 4 % (sc + 1)), upd_same, nd_pt _ nd, fun m hm => ?_, fun q hq => ?_, Nat.le_trans (pt_len _ _ _) (by omega)⟩
        · rw [upd_ne (ne_of_none q he)]
          exact s2 c o q
        · obtain ⟨q, hq, rfl⟩ := List.mem_map.mp hm
          rcases mem_pt hq with rfl | hq
          · exact List.mem_of_getElem? hn
          · exact hin _ (List.mem_map.mpr ⟨q, hq, rfl⟩)
        · rcases mem_pt hq with rfl | hq
          · exact ⟨hx0, by show z / 4 % (sc + 1) ≤ sc; omega⟩
          · exact hv q hq
      · exact ⟨⟨_, rfl⟩, s2, sd, h2, nd, hin, hv, by omega⟩
    · rintro σ H2 ⟨⟨v, rfl⟩, s2, sd, h2, nd, hin, hv, hsl⟩
      exact ⟨_, rfl, k e sd H2 ⟨nd, hin, hv, by omega⟩ he h2 s2⟩
end
end K8

set_option Elab.async false
set_option linter.all false
set_option maxRecDepth 100000
set_option maxHeartbeats 4000000
/-! _law_deeds. -/
namespace K8
open PySem PySem.Spec PyProof.Rows L2
theorem and3 {t1 t2 t3 : TT} {σ : L2.St} {H : Hp} {Q : Bool → Hp → Prop} {b1 b2 b3 : Bool} (h1 : ∀ Q1 : Bool → Hp → Prop, Q1 b1 H → t1 σ H Q1) (h2 : ∀ Q1 : Bool → Hp → Prop, Q1 b2 H → t2 σ H Q1) (h3 : ∀ Q1 : Bool → Hp → Prop, Q1 b3 H → t3 σ H Q1) (q : Q (b1 && (b2 && b3)) H) : tAnd t1 (tAnd t2 t3) σ H Q := by
  refine h1 _ ?_
  cases b1 with
  | false => exact iteF q
  | true =>
    refine iteT (h2 _ ?_)
    cases b2 with
    | false => exact iteF q
    | true => exact iteT (h3 _ q)
theorem and2 {t1 t2 : TT} {σ : L2.St} {H : Hp} {Q : Bool → Hp → Prop} {b1 b2 : Bool} (h1 : ∀ Q1 : Bool → Hp → Prop, Q1 b1 H → t1 σ H Q1) (h2 : ∀ Q1 : Bool → Hp → Prop, Q1 b2 H → t2 σ H Q1) (q : Q (b1 && b2) H) : tAnd t1 t2 σ H Q := by
  refine h1 _ ?_
  cases b1 with
  | false => exact iteF q
  | true => exact iteT (h2 _ q)
theorem DeedAt.mono {H0 H H' : Hp} {q : Addr} {D : Deed} (h : DeedAt H0 H q D) (k : ∀ c o, H c = some o → (∀ xs, o ≠ .lst xs) → H' c = some o) : DeedAt H0 H' q D := by
  cases D with
  | come n => exact k _ _ h (fun xs z => by cases z)
  | go n => exact k _ _ h (fun xs z => by cases z)
  | turn e sd so => exact ⟨k _ _ h.1 (fun xs z => by cases z), k _ _ h.2.1 (fun xs z => by cases z), h.2.2⟩
structure DInv (H H2 : Hp) (dl tl : Addr) (zs : List Str) (sc : Int) (qs : List Addr) (ds : List Deed) : Prop where
  same : Same H H2
  hd : H2 dl = some (.lst (qs.map V.ref))
  ht : H2 tl = some (.lst ((thAt ds ds.length).map V.str))
  nd : (thAt ds ds.length).Nodup
  sub : ∀ n ∈ thAt ds ds.length, n ∈ zs
  len : qs.length = ds.length
  dat : ∀ (j : Nat) (q : Addr) (D : Deed), qs[j]? = some q → ds[j]? = some D → DeedAt H H2 q D
  ok : ∀ (j : Nat) (D : Deed), ds[j]? = some D → Ok1 sc (thAt ds j) D
theorem DInv.add {H H2 H3 : Hp} {dl tl t : Addr} {zs : List Str} {sc : Int} {qs : List Addr} {ds : List Deed} (I : DInv H H2 dl tl zs sc qs ds) (D : Deed) (s : Same H H3) (kn : ∀ c o, H2 c = some o → (∀ xs, o ≠ .lst xs) → H3 c = some o)
    (hd : H3 dl = some (.lst ((qs ++ [t]).map V.ref))) (ht : H3 tl = some (.lst ((step (thAt ds ds.length) D).map V.str))) (hD : DeedAt H H3 t D) (ok : Ok1 sc (thAt ds ds.length) D) (sub : ∀ n ∈ step (thAt ds ds.length) D, n ∈ zs) : DInv H H3 dl tl zs sc (qs ++ [t]) (ds ++ [D]) := by
  have e : thAt (ds ++ [D]) (ds ++ [D]).length = step (thAt ds ds.length) D := by
    have z := thAt_succ (ds := ds ++ [D]) (i := ds.length) (D := D) (by rw [List.getElem?_append_right (Nat.le_refl _), Nat.sub_self]; rfl)
    rw [thAt_app D (Nat.le_refl _)] at z
    rw [List.length_append]
    exact z
  refine ⟨s, hd, by rw [e]; exact ht, by rw [e]; exact nd_step I.nd ok, by rw [e]; exact sub, by rw [List.length_append, List.length_append, I.len]; rfl, fun j q D' hq hj => ?_, fun j D' hj => ?_⟩
  · by_cases hl : j < qs.length
    · rw [List.getElem?_append_left hl] at hq
      rw [List.getElem?_append_left (by rw [← I.len]; exact hl)] at hj
      exact (I.dat j q D' hq hj).mono kn
    · have hjl := (List.getElem?_eq_some_iff.mp hq).1
      rw [List.length_append, List.length_singleton] at hjl
      have hje : j = qs.length := by omega
      subst hje
      rw [List.getElem?_append_right (Nat.le_refl _), Nat.sub_self] at hq
      rw [I.len, List.getElem?_append_right (Nat.le_refl _), Nat.sub_self] at hj
      cases hq
      cases hj
      exact hD
  · by_cases hl : j < ds.length
    · rw [List.getElem?_append_left hl] at hj
      rw [thAt_app D (by omega)]
      exact I.ok j D' hj
    · have hjl := (List.getElem?_eq_some_iff.mp hj).1
      rw [List.length_append, List.length_singleton] at hjl
      have hje : j = ds.length := by omega
      subst hje
      rw [List.getElem?_append_right (Nat.le_refl _), Nat.sub_self] at hj
      cases hj
      rw [thAt_app D (Nat.le_refl _)]
      exact ok
section
variable {P : Program} {w : World} {K : PySem.W.Frag} {mg : Str → Option Value} {base : Heap} {f C : Addr} {fd : FuncData}
theorem ok_deeds (F : Fun K "_law_deeds" "_law_deeds" sDeeds f fd) (T : Txt K mg C) (cStr : C8.Cal P w K mg base 1 "_law_stream" spStr []) (cSaid : C8.Cal P w K mg base 1 "_law_said" spSaid []) : FnOk P w K mg base CX0 2 f fd ["_law_cells_here", "_law_names_here", "_law_scale"] spDeeds := by
  refine F.ok scDeeds (fun vs H Q E h => ?_) (fun cdv A outer s H vs Q E hr h => ?_)
  · obtain ⟨_, _, _, _, _, rfl, _⟩ := h
    rfl
  · obtain ⟨a, b, cs, zs, sc, rfl, ha, hcl, hb, hzl, hzn, sc0, k⟩ := h
    refine ⟨_, (pss_cons (ps_set (i := 3) scDeeds.nd rfl (.inl rfl) (pe_lst pa_nil))
      (pss_cons (ps_set (i := 4) scDeeds.nd rfl (.inl rfl) (pe_lst pa_nil))
      (pss_cons (ps_set (i := 5) scDeeds.nd rfl (.inl rfl) pe_int)
      (pss_cons (ps_for PassesOwn.never rfl (pi_list (pv 0)) (pg_name (i := 6) scDeeds.nd rfl (.inl rfl)) (pss_cons (ps_set (i := 7) scDeeds.nd rfl (.inl rfl) (C8.pe_c cStr hr (by decide) (by rfl) (pa_cons (pv 6) (pa_cons pe_int pa_nil))))
      (pss_cons (ps_set (i := 8) scDeeds.nd rfl (.inl rfl) (pe_ix ix_list (pv 1) (pe_op op_mod (pe_ix ix_list (pv 7) pe_int (fun _ _ => rfl)) pe_int) (fun _ _ => rfl)))
      (pss_one (ps_if (PW.pt (pw_and (pt_cmpR op_lt (pe_op op_mod (pe_ix ix_list (pv 7) pe_int (fun _ _ => rfl)) pe_int) pe_int (nomark _)) (pw_and (pt_cmpR op_notIn_seq (pv 8) (pv 4) (by rfl)) (pw_and1 (pt_cmpR op_lt (pv 5) pe_int (nomark _)))))) (pss_cons (ps_expr (pe_bm PySem.F.plainAttrs_list PySem.F.slot_list_append PySem.F.type_list_append mt_append (pv 3) (pa_cons (pe_tup (pa_cons pe_str (pa_cons (pv 8) pa_nil))) pa_nil)))
      (pss_cons (ps_expr (pe_bm PySem.F.plainAttrs_list PySem.F.slot_list_append PySem.F.type_list_append mt_append (pv 4) (pa_cons (pv 8) pa_nil)))
      (pss_one (ps_set (i := 5) scDeeds.nd rfl (.inl rfl) (pe_op op_add (pv 5) pe_int))))) (pss_one (ps_if (PW.pt (pw_and (pt_cmpR op_eq (pe_op op_mod (pe_ix ix_list (pv 7) pe_int (fun _ _ => rfl)) pe_int) pe_int (nomark _)) (pw_and1 (pt_cmpR op_in_seq (pv 8) (pv 4) (by rfl))))) (pss_cons (ps_expr (pe_bm PySem.F.plainAttrs_list PySem.F.slot_list_append PySem.F.type_list_append mt_append (pv 3) (pa_cons (pe_tup (pa_cons pe_str (pa_cons (pv 8) pa_nil))) pa_nil)))
      (pss_one (ps_expr (pe_bm PySem.F.plainAttrs_list PySem.F.slot_list_remove PySem.F.type_list_remove mt_removeS (pv 4) (pa_cons (pv 8) pa_nil))))) (pss_one (ps_expr (pe_bm PySem.F.plainAttrs_list PySem.F.slot_list_append PySem.F.type_list_append mt_append (pv 3) (pa_cons (pe_tup (pa_cons pe_str (pa_cons (C8.pe_c cSaid hr (by decide) (by rfl) (pa_cons (pv 4) (pa_cons (pe_slice sl_list (pv 7) (po_some pe_int) po_none) (pa_cons (pv 2) pa_nil)))) (pa_cons (pe_op op_mod (pe_ix ix_list (pv 7) pe_int (fun _ _ => rfl)) (pe_op op_add (pv 2) pe_int)) pa_nil)))) pa_nil)))))))))))
      (pss_one (ps_ret (pv 3))))))), ?_⟩
    refine ⟨by show 0 ≤ sizeLine; decide, fun dl hdl => ?_⟩
    refine ⟨by show 0 ≤ sizeLine; decide, fun tl htl => ?_⟩
    have ndt : dl ≠ tl := fun e => by rw [← e, upd_same] at htl; cases htl
    have htl0 : H tl = none := by rw [upd_ne ndt.symm] at htl; exact htl
    have s0 : Same H _ := (same_upd (o := .lst []) hdl).trans (same_upd (o := .lst []) htl)
    refine ⟨_, rfl, a, rfl, ⟨_, SqL.of (s0 _ _ ha)⟩, for_list (K := K) (a := a) (xs := cs.map V.int) (fun i σ H2 => ∃ (ev : Int) (v6 v7 v8 : Option V) (qs : List Addr) (ds : List Deed), σ = [some (.ref a), some (.ref b), some (.int sc), some (.ref dl), some (.ref tl), some (.int ev), v6, v7, v8] ∧ DInv H H2 dl tl zs sc qs ds ∧ ds.length = i)
      ⟨0, none, none, none, [], [], rfl, ⟨s0, Eq.trans (upd_ne ndt) upd_same, upd_same, List.nodup_nil, fun n m => (by cases m), rfl, fun j q D e => (by cases e), fun j D e => (by cases e)⟩, rfl⟩ (fun i σ H3 _ ⟨_, _, _, _, _, _, _, I, _⟩ => SqL.of (I.same _ _ ha)) ?_ ?_⟩
    · rintro i x σ H2 hi ⟨ev, v6, v7, v8, qs, ds, rfl, I, hdi⟩
      obtain ⟨c, hc, rfl⟩ := map_at hi
      have hil := (List.getElem?_eq_some_iff.mp hc).1
      refine ⟨_, rfl, _, 9, rfl, by decide, by decide, fun l ns H3 hns hl0 hl3 s3 => ?_⟩
      have hns : ns.length = 9 := hns
      have hb3 := s3 _ _ (I.same _ _ hb)
      have hd3 := s3 _ _ I.hd
      have ht3 := s3 _ _ I.ht
      obtain ⟨n1, _, hn1⟩ := int_at (ns := ns) (k := 1) (by decide) (by omega)
      obtain ⟨n0, _, hn0⟩ := int_at (ns := ns) (k := 0) (by decide) (by omega)
      obtain ⟨n8, _, hn8⟩ := int_at (ns := ns) (k := 8) (by decide) (by omega)
      obtain ⟨nm, hnm, hnm2⟩ := str_at (zs := zs) (k := n1 % 6) (by omega) (by omega)
      have hnmz : nm ∈ zs := List.mem_of_getElem? hnm
      refine ⟨_, rfl, _, rfl, l, _, _, _, rfl, rfl, SqL.of hl3, hn1, _, _, rfl, rfl, md (by decide), b, _, _, _, rfl, rfl, SqL.of hb3, hnm2, ?_⟩
      have hthl : (thAt ds ds.length).length ≤ 6 := by
        have z := List.Nodup.length_le_of_subset I.nd (fun n m => I.sub n m)
        omega
      have qd : ∀ {o : HO} {c : Addr}, H c = some o → c ≠ dl ∧ c ≠ tl := fun e => ⟨ne_of_none e hdl, ne_of_none e htl0⟩
      dsimp only [gName]
      unfold tIfS
      refine and3 (b1 := decide (n0 % 8 < 3)) (b2 := !decide (nm ∈ thAt ds ds.length)) (b3 := decide (ev < 20))
        (fun Q1 q => ⟨_, rfl, l, _, _, _, rfl, rfl, SqL.of hl3, hn0, _, _, rfl, rfl, md (by decide), _, _, rfl, rfl, _, rfl, q⟩)
        (fun Q1 q => ⟨_, rfl, _, rfl, tl, _, rfl, .inl (SqL.of ht3), rfl, flat_strs _, _, rfl, by show Q1 (!inV (V.str nm) ((thAt ds ds.length).map V.str)) _; rw [inV_str]; exact q⟩)
        (fun Q1 q => ⟨_, rfl, _, _, rfl, rfl, _, rfl, q⟩) ?_
      refine ite2 (fun hb => ?_) (fun _ => ?_)
      · -- come
        rw [Bool.and_eq_true, Bool.and_eq_true, Bool.not_eq_true', decide_eq_false_iff_not] at hb
        have hni := hb.2.1
        refine ⟨_, rfl, .inl ⟨rfl, _, SqL.of hd3⟩, _, rfl, by show 2 ≤ sizeLine; decide, fun t ht => ?_⟩
        have hdt : dl ≠ t := ne_of_none hd3 ht
        have htt : tl ≠ t := ne_of_none ht3 ht
        refine ⟨dl, _, _, rfl, rfl, Eq.trans (upd_ne hdt) hd3, small1000 (by rw [List.length_map, I.len]; omega), ?_⟩
        have ht4 : upd (upd H3 t (.tup [.str "come", .str nm])) dl (.lst (qs.map V.ref ++ [.ref t])) tl = _ := Eq.trans (upd_ne ndt.symm) (Eq.trans (upd_ne htt) ht3)
        refine ⟨_, rfl, .inl ⟨rfl, _, SqL.of ht4⟩, _, rfl, tl, _, _, rfl, rfl, ht4, small1000 (by rw [List.length_map]; omega), ?_⟩
        refine ⟨_, rfl, _, _, rfl, rfl, ?_⟩
        refine ⟨_, _, _, _, qs ++ [t], ds ++ [.come nm], rfl, I.add (.come nm) (fun c o e => ?_) (fun c o e hx => ?_) ?_ ?_ ?_ ⟨hni, hzn _ hnmz⟩ (fun n m => ?_), by rw [List.length_append, hdi]; rfl⟩
        · rw [upd_ne (qd e).2, upd_ne (qd e).1, upd_ne (ne_of_none (s3 _ _ (I.same _ _ e)) ht)]
          exact s3 _ _ (I.same _ _ e)
        · rw [upd_ne (fun z => hx _ (by rw [z, I.ht] at e; exact (Option.some.inj e).symm)), upd_ne (fun z => hx _ (by rw [z, I.hd] at e; exact (Option.some.inj e).symm)), upd_ne (ne_of_none (s3 _ _ e) ht)]
          exact s3 _ _ e
        · rw [upd_ne ndt, upd_same, List.map_append]
          rfl
        · rw [upd_same]
          show _ = some (HO.lst (List.map V.str (_ ++ [nm])))
          rw [List.map_append]
          rfl
        · show upd (upd (upd H3 t _) dl _) tl _ t = _
          rw [upd_ne htt.symm, upd_ne hdt.symm, upd_same]
        · rcases List.mem_append.mp m with m | m
          · exact I.sub n m
          · rw [List.mem_singleton.mp m]
            exact hnmz
      · refine and2 (b1 := decide (V.int (n0 % 8) = V.int 3)) (b2 := decide (nm ∈ thAt ds ds.length))
          (fun Q1 q => ⟨_, rfl, l, _, _, _, rfl, rfl, SqL.of hl3, hn0, _, _, rfl, rfl, md (by decide), rfl, _, rfl, q⟩)
          (fun Q1 q => ⟨_, rfl, _, rfl, tl, _, rfl, .inl (SqL.of ht3), rfl, flat_strs _, _, rfl, by show Q1 (inV (V.str nm) ((thAt ds ds.length).map V.str)) _; rw [inV_str]; exact q⟩) ?_
        refine ite2 (fun hb => ?_) (fun _ => ?_)
        · -- go
          rw [Bool.and_eq_true, decide_eq_true_eq, decide_eq_true_eq] at hb
          have hin := hb.2
          refine ⟨_, rfl, .inl ⟨rfl, _, SqL.of hd3⟩, _, rfl, by show 2 ≤ sizeLine; decide, fun t ht => ?_⟩
          have hdt : dl ≠ t := ne_of_none hd3 ht
          have htt : tl ≠ t := ne_of_none ht3 ht
          refine ⟨dl, _, _, rfl, rfl, Eq.trans (upd_ne hdt) hd3, small1000 (by rw [List.length_map, I.len]; omega), ?_⟩
          have ht4 : upd (upd H3 t (.tup [.str "go", .str nm])) dl (.lst (qs.map V.ref ++ [.ref t])) tl = _ := Eq.trans (upd_ne ndt.symm) (Eq.trans (upd_ne htt) ht3)
          refine ⟨_, rfl, .inl ⟨rfl, _, SqL.of ht4⟩, _, rfl, tl, _, _, rfl, rfl, ht4, hin, ?_⟩
          refine ⟨_, _, _, _, qs ++ [t], ds ++ [.go nm], rfl, I.add (.go nm) (fun c o e => ?_) (fun c o e hx => ?_) ?_ ?_ ?_ hin (fun n m => ?_), by rw [List.length_append, hdi]; rfl⟩
          · rw [upd_ne (qd e).2, upd_ne (qd e).1, upd_ne (ne_of_none (s3 _ _ (I.same _ _ e)) ht)]
            exact s3 _ _ (I.same _ _ e)
          · rw [upd_ne (fun z => hx _ (by rw [z, I.ht] at e; exact (Option.some.inj e).symm)), upd_ne (fun z => hx _ (by rw [z, I.hd] at e; exact (Option.some.inj e).symm)), upd_ne (ne_of_none (s3 _ _ e) ht)]
            exact s3 _ _ e
          · rw [upd_ne ndt, upd_same, List.map_append]
            rfl
          · rw [upd_same, erase_filter nm I.nd]
            rfl
          · show upd (upd (upd H3 t _) dl _) tl _ t = _
            rw [upd_ne htt.symm, upd_ne hdt.symm, upd_same]
          · exact I.sub n (List.mem_filter.mp m).1
        · -- turn
          refine ⟨_, rfl, .inl ⟨rfl, _, SqL.of hd3⟩, ?_⟩
          refine ⟨_, rfl, _, rfl, _, rfl, l, _, rfl, SqL.of hl3, fun p hp => ?_⟩
          have s4 : Same H3 _ := same_upd (o := .lst (cutV (ns.map V.int) (some 2) none)) hp
          have hp4 : upd H3 p (.lst (cutV (ns.map V.int) (some 2) none)) p = some (.lst ((ns.drop 2).map V.int)) := by rw [upd_same]; exact congrArg (fun z => some (HO.lst z)) (cut_from ns 2)
          generalize upd H3 p (.lst (cutV (ns.map V.int) (some 2) none)) = H4 at s4 hp4
          refine ⟨_, rfl, tl, p, _, _, sc, rfl, s4 _ _ ht3, hp4, by rw [List.length_drop]; omega, by omega, sc0, fun e sd H5 hsd he0 he5 s5 => ?_⟩
          have hl5 := s5 _ _ (s4 _ _ hl3)
          have hd5 := s5 _ _ (s4 _ _ hd3)
          have ht5 := s5 _ _ (s4 _ _ ht3)
          refine ⟨_, rfl, l, _, _, _, rfl, rfl, SqL.of hl5, hn8, _, rfl, _, _, rfl, rfl, _, _, rfl, rfl, md (by omega), by show 3 ≤ sizeLine; decide, fun t ht => ?_⟩
          have hdt : dl ≠ t := ne_of_none hd5 ht
          have htt : tl ≠ t := ne_of_none ht5 ht
          have het : e ≠ t := ne_of_none he5 ht
          have hed : e ≠ dl := ne_of he5 hd5 (by intro z; cases z)
          refine ⟨dl, _, _, rfl, rfl, Eq.trans (upd_ne hdt) hd5, small1000 (by rw [List.length_map, I.len]; omega), ?_⟩
          have s345 := (s3.trans s4).trans s5
          have hx0 : 0 ≤ n8 % (sc + 1) := Int.emod_nonneg _ (by omega)
          have hx1 : n8 % (sc + 1) < sc + 1 := Int.emod_lt_of_pos _ (by omega)
          refine ⟨_, _, _, _, qs ++ [t], ds ++ [.turn e sd (n8 % (sc + 1))], rfl, I.add (.turn e sd (n8 % (sc + 1))) (fun c o q => ?_) (fun c o q hx => ?_) ?_ ?_ ⟨?_, ?_, ?_⟩ ⟨hsd, hx0, by omega⟩ (fun n m => I.sub n m), by rw [List.length_append, hdi]; rfl⟩
          · rw [upd_ne (qd q).1, upd_ne (ne_of_none (s345 _ _ (I.same _ _ q)) ht)]
            exact s345 _ _ (I.same _ _ q)
          · rw [upd_ne (fun z => hx _ (by rw [z, I.hd] at q; exact (Option.some.inj q).symm)), upd_ne (ne_of_none (s345 _ _ q) ht)]
            exact s345 _ _ q
          · rw [upd_same, List.map_append]
            rfl
          · rw [upd_ne ndt.symm, upd_ne htt]
            exact ht5
          · rw [upd_ne hdt.symm, upd_same]
          · rw [upd_ne hed, upd_ne het]
            exact he5
          · exact I.same.free (s3.free (s4.free he0))
    · rintro σ H2 ⟨ev, v6, v7, v8, qs, ds, rfl, I, hdi⟩
      rw [List.length_map] at hdi
      exact ⟨_, rfl, k dl qs ds H2 I.hd I.len (by omega) I.dat I.ok I.same⟩
end
end K8

set_option Elab.async false
set_option linter.all false
set_option maxRecDepth 100000
set_option maxHeartbeats 4000000
/-! The law. -/
namespace K8
open PySem PySem.Spec PyProof.Rows L2
/-- what holds ahead of the i-th deed -/
structure LInv (C : Addr) (H8 H : Hp) (p d p' d' : Addr) (sc tp bt : Int) (i : Nat) (th : List Str) (b1 b2 : Bk) (last : Addr) (sdl : List (Str × Int)) : Prop where
  B1 : BkAt C H p d b1
  B2 : BkAt C H p' d' b2
  e1 : b1.sc = sc ∧ b1.tp = tp ∧ b1.bt = bt
  e2 : b2.sc = sc ∧ b2.tp = tp ∧ b2.bt = bt
  k1 : ks b1.ts = th
  k2 : ks b2.ts = th
  nd : th.Nodup
  ln : th.length ≤ i
  w1 : Bd i b1.ts b1.un
  w2 : Bd i b2.ts b2.un
  hl : H last = some (.dK (kvs sdl))
  nl1 : last ≠ d
  nl2 : last ≠ d'
  sl : (ks sdl).Nodup ∧ (∀ q ∈ sdl, 0 ≤ q.2 ∧ q.2 ≤ sc) ∧ sdl.length < 64
  kp : ∀ c o, H8 c = some o → c ≠ p → c ≠ d → c ≠ p' → c ≠ d' → H c = some o
theorem Bd.mono {k : Nat} {ts : List (Str × Int)} {un : Int} (h : Bd k ts un) : Bd (k + 1) ts un := by
  have z : 2 ^ (220 * k + 1) ≤ 2 ^ (220 * (k + 1) + 1) := Nat.pow_le_pow_right (by decide) (by omega)
  exact ⟨fun q m => ⟨(h.1 q m).1, Nat.lt_of_lt_of_le (h.1 q m).2 z⟩, h.2.1, Nat.lt_of_lt_of_le h.2.2 z⟩
theorem Bd.zero : Bd 0 [] 1 := ⟨fun q m => (by cases m), by decide, by decide⟩
theorem kvs_self {ts : List (Str × Int)} (nd : (ks ts).Nodup) : ∀ r ∈ kvs ts, valV (kvs ts) r.1 = some r.2 ∧ flatB r.2 = true := by
  intro r hr
  obtain ⟨q, hq, rfl⟩ := List.mem_map.mp hr
  refine ⟨?_, rfl⟩
  show valV (kvs ts) (Sum.inr q.1) = some (V.int q.2)
  rw [valV_kvs, lk_of_mem nd hq]
  rfl
theorem mid_single {r : Str × Int} {ts : List (Str × Int)} (h : ∀ q ∈ ts, 0 ≤ q.2) : mid (prs [r] ts) = r.2 := by
  have e : prs [r] ts = [(r.2, (lk ts r.1).getD 0)] := by
    unfold prs ks
    rw [List.map_singleton, List.map_singleton]
    unfold f2
    rw [lk_cons, if_pos rfl]
    rfl
  rw [e]
  refine mid_one ?_
  cases el : lk ts r.1 with
  | none => exact Int.le_refl _
  | some x => exact h _ (lk_some_mem el)
theorem ks_turn (sd : List (Str × Int)) (sc : Int) : ks (sd.map fun q => (q.1, sc - q.2)) = ks sd := by
  unfold ks
  rw [List.map_map]
  rfl
theorem sd_turn {sc : Int} {th : List Str} {sd : List (Str × Int)} (h : SdOk sc th sd) : SdOk sc th (sd.map fun q => (q.1, sc - q.2)) := by
  refine ⟨by rw [ks_turn]; exact h.1, by rw [ks_turn]; exact h.2.1, fun q m => ?_, by rw [List.length_map]; exact h.2.2.2⟩
  obtain ⟨r, hr, rfl⟩ := List.mem_map.mp m
  have := h.2.2.1 r hr
  show 0 ≤ sc - r.2 ∧ sc - r.2 ≤ sc
  omega
theorem prs_len (sd ts : List (Str × Int)) : (prs sd ts).length = sd.length := by unfold prs ks; rw [List.length_map, List.length_map]
theorem BkAt.kept {C p d p' d' : Addr} {H H' : Hp} {b : Bk} (B : BkAt C H p d b) (k : Kept p' d' H H') (h1 : p ≠ p') (h2 : p ≠ d') (h3 : d ≠ p') (h4 : d ≠ d') : BkAt C H' p d b := by
  obtain ⟨⟨dx, g1⟩, g2⟩ := B
  exact ⟨⟨dx, k _ _ g1 h1 h2⟩, k _ _ g2 h3 h4⟩
theorem Bd.come {k : Nat} {ts : List (Str × Int)} {un : Int} {n : Str} (h : Bd k ts un) : Bd k (ts ++ [(n, un)]) un := by
  refine ⟨fun q m => ?_, h.2⟩
  rcases List.mem_append.mp m with m | m
  · exact h.1 q m
  · rw [List.mem_singleton.mp m]
    exact h.2
theorem Bd.go {k : Nat} {ts : List (Str × Int)} {un : Int} {n : Str} (h : Bd k ts un) : Bd k (dr ts n) un := ⟨fun q m => h.1 q (List.mem_filter.mp m).1, h.2⟩
theorem LInv.same {C : Addr} {H8 H H' : Hp} {p d p' d' : Addr} {sc tp bt : Int} {i : Nat} {th : List Str} {b1 b2 : Bk} {last : Addr} {sdl : List (Str × Int)} (I : LInv C H8 H p d p' d' sc tp bt i th b1 b2 last sdl) (s : Same H H') : LInv C H8 H' p d p' d' sc tp bt i th b1 b2 last sdl :=
  ⟨I.B1.same s, I.B2.same s, I.e1, I.e2, I.k1, I.k2, I.nd, I.ln, I.w1, I.w2, s _ _ I.hl, I.nl1, I.nl2, I.sl, fun c o e h1 h2 h3 h4 => s _ _ (I.kp c o e h1 h2 h3 h4)⟩
theorem str_ne {x y : Str} (h : (x == y) = false) : decide (V.str x = V.str y) = false := decide_eq_false (fun e => by
  injection e with e
  rw [e, beq_self_eq_true] at h
  cases h)
theorem t_come : decide (V.str "go" = V.str "come") = false := str_ne (by decide +kernel)
theorem t_turn : decide (V.str "turn" = V.str "come") = false := str_ne (by decide +kernel)
theorem t_turn2 : decide (V.str "turn" = V.str "go") = false := str_ne (by decide +kernel)
section
variable {P : Program} {w : World} {K : PySem.W.Frag} {mg : Str → Option Value} {base : Heap} {f C : Addr} {fd : FuncData}
theorem ok_law (F : Fun K "law" "law" sLaw f fd) (T : Txt K mg C) (cRul : C8.Cal P w K mg base 2 "_law_rule" (spRul K) []) (cCell : C8.Cal P w K mg base 1 "_law_cell_at" (spCell K) []) (cNms : C8.Cal P w K mg base 1 "_law_names" spNms []) (cCells : C8.Cal P w K mg base 2 "_law_cells" (spCells K) [])
    (cDeeds : C8.Cal P w K mg base 2 "_law_deeds" spDeeds []) (cTold : C8.Cal P w K mg base 5 "_law_told" (spSay C) []) (cStill : C8.Cal P w K mg base 6 "_law_still" (spStill C) []) (cMidL : C8.Cal P w K mg base 1 "_law_middle" spMidL []) (cTurn : C8.Cal P w K mg base 1 "_law_turned" spTurn [])
    (mkB : C8.Mak P w K mg base 3 "Book" C (spInit C) []) (mCome : C8.Met P w K mg base 2 C "come" (spCome C) []) (mGo : C8.Met P w K mg base 2 C "go" (spGo C) []) (mWei : C8.Met P w K mg base 1 C "weights" (spWei C) []) (mHear : C8.Met P w K mg base 5 C "hear" (spHear C) []) :
    FnOk P w K mg base CX0 7 f fd ["_law_script"] (spLaw K) := by
  refine F.ok scLaw (fun vs H Q E h => ?_) (fun cdv A outer s H vs Q E hr h => ?_)
  · obtain ⟨_, _, rfl, _⟩ := h
    rfl
  · obtain ⟨a, ns, rfl, hS, hlen, k⟩ := h
    have hu := hu_of hr
    refine ⟨_, (pss_cons (ps_asg (C8.pe_c cRul hr (by decide) (by rfl) (pa_cons (pv 0) pa_nil)) (pg_tup rfl (pgs_cons (pg_name (i := 1) scLaw.nd rfl (.inl rfl)) (pgs_cons (pg_name (i := 2) scLaw.nd rfl (.inl rfl)) (pgs_cons (pg_name (i := 3) scLaw.nd rfl (.inl rfl)) pgs_nil)))))
      (pss_cons (ps_set (i := 4) scLaw.nd rfl (.inl rfl) (C8.pe_mk mkB hr (by decide) (by rfl) (pa_cons (pv 1) (pa_cons (pv 2) (pa_cons (pv 3) pa_nil)))))
      (pss_cons (ps_set (i := 5) scLaw.nd rfl (.inl rfl) (C8.pe_mk mkB hr (by decide) (by rfl) (pa_cons (pv 1) (pa_cons (pv 2) (pa_cons (pv 3) pa_nil)))))
      (pss_cons (ps_set (i := 6) scLaw.nd rfl (.inl rfl) (C8.pe_c cNms hr (by decide) (by rfl) (pa_cons (C8.pe_c cCell hr (by decide) (by rfl) (pa_cons (pv 0) (pa_cons pe_int pa_nil))) (pa_cons pe_int pa_nil))))
      (pss_cons (ps_set (i := 7) scLaw.nd rfl (.inl rfl) pe_dnewK)
      (pss_cons (ps_if (pt_cmpR op_ne (C8.pe_c cTold hr (by decide) (by rfl) (pa_cons (pv 4) (pa_cons pe_dnewK pa_nil))) pe_int (nomark _)) (pss_one (ps_ret pe_bl)) pss_nil)
      (pss_cons (ps_for PassesOwn.never rfl (pi_list (C8.pe_c cDeeds hr (by decide) (by rfl) (pa_cons (C8.pe_c cCells hr (by decide) (by rfl) (pa_cons (pv 0) (pa_cons pe_int pa_nil))) (pa_cons (pv 6) (pa_cons (pv 1) pa_nil))))) (pg_name (i := 8) scLaw.nd rfl (.inl rfl)) (C8.pss_cut (ps_if (pt_cmpR op_eq (pe_ix ix_tup (pv 8) pe_int (fun _ _ => rfl)) pe_str (nomark _)) (pss_cons (ps_expr (C8.pe_mt mCome hr (by decide) (pv 4) (pa_cons (pe_ix ix_tup (pv 8) pe_int (fun _ _ => rfl)) pa_nil)))
      (pss_one (ps_expr (C8.pe_mt mCome hr (by decide) (pv 5) (pa_cons (pe_ix ix_tup (pv 8) pe_int (fun _ _ => rfl)) pa_nil))))) (pss_one (ps_if (pt_cmpR op_eq (pe_ix ix_tup (pv 8) pe_int (fun _ _ => rfl)) pe_str (nomark _)) (pss_cons (ps_expr (C8.pe_mt mGo hr (by decide) (pv 4) (pa_cons (pe_ix ix_tup (pv 8) pe_int (fun _ _ => rfl)) pa_nil)))
      (pss_one (ps_expr (C8.pe_mt mGo hr (by decide) (pv 5) (pa_cons (pe_ix ix_tup (pv 8) pe_int (fun _ _ => rfl)) pa_nil))))) (pss_cons (ps_set (i := 9) scLaw.nd rfl (.inr rfl) (C8.pe_mt0 mWei hr (by decide) (pv 4)))
      (pss_cons (ps_set (i := 10) scLaw.nd rfl (.inr rfl) (pe_callTy call_dictD (by rfl) T.n_dict (by decide +kernel) (pa_cons (pe_ix ix_tup (pv 8) pe_int (fun _ _ => rfl)) pa_nil)))
      (pss_cons (ps_set (i := 12) scLaw.nd rfl (.inl rfl) (C8.pe_c cMidL hr (by decide) (by rfl) (pa_cons (pe_lock (pe_lc (own := [("_law_name", 11)]) (g := gName 11) (tt := tYes) rfl scLaw.nd (pi_keys (pv 10)) (blkOk_by (own := [("_law_name", 11)]) (N := NLaw) (sc := defScope sLaw) (by decide +kernel)) (fun _ _ _ _ _ => pg_name (i := 11) scLaw.nd rfl (Or.inl rfl)) (fun _ _ _ _ _ => pts_nil) (fun _ _ _ _ _ => (pe_tup (pa_cons (pe_dget hu (pv 10) (pv 11) (fun _ _ => rfl)) (pa_cons (pe_dget hu (pe_ix (ix_tupB (K := K) rfl) (pv 9) pe_int (fun _ _ => rfl)) (pv 11) (fun _ _ => rfl)) pa_nil)))))) pa_nil)))
      (pss_cons (ps_set (i := 13) scLaw.nd rfl (.inr rfl) (pe_ix ix_tup (C8.pe_mt0 mWei hr (by decide) (pv 5)) pe_int (fun _ _ => rfl)))
      (pss_cons (ps_set (i := 14) scLaw.nd rfl (.inl rfl) (C8.pe_c cMidL hr (by decide) (by rfl) (pa_cons (pe_lock (pe_lc (own := [("_law_name", 11)]) (g := gName 11) (tt := tYes) rfl scLaw.nd (pi_keys (pv 10)) (blkOk_by (own := [("_law_name", 11)]) (N := NLaw) (sc := defScope sLaw) (by decide +kernel)) (fun _ _ _ _ _ => pg_name (i := 11) scLaw.nd rfl (Or.inl rfl)) (fun _ _ _ _ _ => pts_nil) (fun _ _ _ _ _ => (pe_tup (pa_cons (pe_dget hu (pv 10) (pv 11) (fun _ _ => rfl)) (pa_cons (pe_dget hu (pv 13) (pv 11) (fun _ _ => rfl)) pa_nil)))))) pa_nil)))
      (pss_cons (ps_if (PW.pt (pw_or (pt_cmpR op_ne (C8.pe_c cTold hr (by decide) (by rfl) (pa_cons (pv 4) (pa_cons (pv 10) pa_nil))) (pv 12) (nomark _)) (pw_or1 (pt_cmpR op_ne (C8.pe_c cTold hr (by decide) (by rfl) (pa_cons (pv 5) (pa_cons (pv 10) pa_nil))) (pv 14) (nomark _))))) (pss_one (ps_ret pe_bl)) pss_nil)
      (pss_cons (ps_if (PW.pt (pw_or (pt_cmpR op_ne (C8.pe_c cTold hr (by decide) (by rfl) (pa_cons (pv 4) (pa_cons (pv 10) pa_nil))) (pv 12) (nomark _)) (pw_or1 (pt_cmpR op_ne (C8.pe_c cTold hr (by decide) (by rfl) (pa_cons (pv 4) (pa_cons pe_dnewK pa_nil))) pe_int (nomark _))))) (pss_one (ps_ret pe_bl)) pss_nil)
      (pss_cons (ps_lock (ps_for PassesOwn.never rfl (pi_keys (pv 10)) (pg_name (i := 11) scLaw.nd rfl (.inl rfl)) (pss_one (ps_if (pt_cmpR op_ne (C8.pe_c cTold hr (by decide) (by rfl) (pa_cons (pv 4) (pa_cons (pe_disp (pps_cons (pv 11) (pe_dget hu (pv 10) (pv 11) (fun _ _ => rfl)) pps_nil) (by rfl) (by rfl) (fun z => by cases z) (by decide)) pa_nil))) (pe_dget hu (pv 10) (pv 11) (fun _ _ => rfl)) (nomark _)) (pss_one (ps_ret pe_bl)) pss_nil))))
      (pss_cons (ps_if (PW.pt (pw_or (pt_cmpR op_ne (C8.pe_c cTold hr (by decide) (by rfl) (pa_cons (pv 4) (pa_cons (pv 10) pa_nil))) (pv 12) (nomark _)) (pw_or (pt_cmpR (op_ne_dictA hr.units0) (pv 10) (pe_ix ix_tup (pv 8) pe_int (fun _ _ => rfl)) (nomark _)) (pw_or1 (pt_cmpR (op_neTD hr.units) (C8.pe_mt0 mWei hr (by decide) (pv 4)) (pv 9) (nomark _)))))) (pss_one (ps_ret pe_bl)) pss_nil)
      (pss_cons (ps_expr (C8.pe_mt mHear hr (by decide) (pv 4) (pa_cons (pv 10) (pa_cons (pe_ix ix_tup (pv 8) pe_int (fun _ _ => rfl)) pa_nil))))
      (pss_cons (ps_expr (C8.pe_mt mHear hr (by decide) (pv 5) (pa_cons (C8.pe_c cTurn hr (by decide) (by rfl) (pa_cons (pv 10) (pa_cons (pv 1) pa_nil))) (pa_cons (pe_ix ix_tup (pv 8) pe_int (fun _ _ => rfl)) pa_nil))))
      (pss_cons (ps_set (i := 7) scLaw.nd rfl (.inl rfl) (pe_callTy call_dictD (by rfl) T.n_dict (by decide +kernel) (pa_cons (pe_ix ix_tup (pv 8) pe_int (fun _ _ => rfl)) pa_nil)))
      (pss_one (ps_expr (pe_dclear (pv 10)))))))))))))))))))
      (pss_one (ps_if (pt_not (pt_val (C8.pe_c cStill hr (by decide) (by rfl) (pa_cons (pv 4) (pa_cons (pv 7) pa_nil))))) (pss_one (ps_ret pe_bl)) pss_nil))))
      (pss_one (ps_ret pe_bl))))))))), ?_⟩
    refine ⟨_, rfl, a, ns, rfl, hS, fun q sc tp bt H1 scl hq s1 => ⟨q, _, rfl, SqT.of hq, rfl, _, _, rfl, _, _, rfl, _, _, rfl, rfl, ?_⟩⟩
    obtain ⟨z1, z2, z3, z4, z5⟩ := id scl
    refine ⟨_, rfl, _, rfl, _, rfl, fun p dx hp hdx _ => ⟨p, dx, sc, tp, bt, rfl, upd_same, scl, fun d H2 hd B kp => ⟨rfl, ?_⟩⟩⟩
    have s2 : Same H1 H2 := Same.made hp hdx kp
    have npd := B.ne
    refine ⟨_, rfl, _, rfl, _, rfl, fun p' dx' hp' hdx' _ => ⟨p', dx', sc, tp, bt, rfl, upd_same, scl, fun d' H3 hd' B' kp' => ⟨rfl, ?_⟩⟩⟩
    have s3 : Same H2 H3 := Same.made hp' hdx' kp'
    have npd' := B'.ne
    obtain ⟨⟨dxa, g1⟩, g2⟩ := id B
    have npp : p ≠ p' := ne_of_none g1 hp'
    have ndp : d ≠ p' := ne_of_none g2 hp'
    have hd'2 : H2 d' = none := by
      by_cases e : d' = p'
      · exact absurd e.symm npd'
      · rw [upd_ne e] at hd'
        by_cases e2 : d' = dx'
        · rw [e2, upd_same] at hd'; cases hd'
        · rw [upd_ne e2] at hd'; exact hd'
    have npd2 : p ≠ d' := ne_of_none g1 hd'2
    have ndd : d ≠ d' := ne_of_none g2 hd'2
    have B3 := B.same s3
    have sA := (s1.trans s2).trans s3
    refine ⟨_, rfl, a, ns, 2, rfl, sA.seq hS, by decide, fun z => ⟨z, rfl, fun l6 zs H4 hz hok h6 s4 => ?_⟩⟩
    intro e0 he0
    have B4 := B3.same s4
    have B4' := B'.same s4
    have s5 : Same H4 _ := same_upd (o := .dK []) he0
    have h05 : upd H4 e0 (.dK []) e0 = some (.dK (kvs [])) := upd_same
    generalize upd H4 e0 (.dK []) = H5 at s5 h05
    have ned0 : e0 ≠ d := (ne_of_none B4.2 he0).symm
    have ned0' : e0 ≠ d' := (ne_of_none B4'.2 he0).symm
    have B5 := B4.same s5
    have B5' := B4'.same s5
    refine ⟨_, rfl, fun e1 he1 => ?_⟩
    have s6 : Same H5 _ := same_upd (o := .dK []) he1
    refine ⟨p, d, e1, _, [], rfl, B5.same s6, upd_same, (ne_of_none B5.2 he1).symm, ⟨List.nodup_nil, fun n m => (by cases m), fun n m => (by cases m), by decide⟩, fun H6 s7 => ?_⟩
    refine ⟨rfl, _, rfl, ?_⟩
    refine iteNS rfl ?_
    have sB := ((sA.trans s4).trans s5).trans (s6.trans s7)
    have B6 := B5.same (s6.trans s7)
    have B6' := B5'.same (s6.trans s7)
    refine ⟨_, rfl, a, ns, rfl, sB.seq hS, hlen, fun l7 ms H7 hm h7 s8 => ?_⟩
    have B7 := B6.same s8
    have B7' := B6'.same s8
    refine ⟨_, rfl, _, rfl, l7, l6, ms, zs, sc, rfl, h7, hm, s8 _ _ (s7 _ _ (s6 _ _ (s5 _ _ h6))), hz, hok, by omega, fun l8 qs ds H8 h8 hql hdl hdat hok8 s9 => ?_⟩
    have B8 := B7.same s9
    have B8' := B7'.same s9
    have h08 := s9 _ _ (s8 _ _ (s7 _ _ (s6 _ _ h05)))
    obtain ⟨⟨dxb, g8⟩, g8d⟩ := id B8
    obtain ⟨⟨dxc, g8'⟩, g8d'⟩ := id B8'
    refine ⟨l8, rfl, ⟨_, SqL.of h8⟩, for_list (K := K) (a := l8) (xs := qs.map V.ref) (fun i σ H9 => ∃ (b1 b2 : Bk) (last : Addr) (sdl : List (Str × Int)) (v8 v9 v10 v11 v12 v13 v14 : Option V), σ = [some (.ref a), some (.int sc), some (.int tp), some (.int bt), some (.ref p), some (.ref p'), some (.ref l6), some (.ref last), v8, v9, v10, v11, v12, v13, v14] ∧ LInv C H8 H9 p d p' d' sc tp bt i (thAt ds i) b1 b2 last sdl)
      ⟨_, _, e0, [], none, none, none, none, none, none, none, rfl, ⟨B8, B8', ⟨rfl, rfl, rfl⟩, ⟨rfl, rfl, rfl⟩, rfl, rfl, List.nodup_nil, Nat.le_refl _, Bd.zero, Bd.zero, h08, ned0, ned0', ⟨List.nodup_nil, fun q m => (by cases m), by decide⟩, fun c o e _ _ _ _ => e⟩⟩ ?_ ?_ ?_⟩
    · rintro i σ H9 _ ⟨_, _, _, _, _, _, _, _, _, _, _, _, I⟩
      exact SqL.of (I.kp _ _ h8 (ne_of h8 g8 (by intro z; cases z)) (ne_of h8 g8d (by intro z; cases z)) (ne_of h8 g8' (by intro z; cases z)) (ne_of h8 g8d' (by intro z; cases z)))
    · rintro i x σ H9 hi ⟨b1, b2, last, sdl, v8, v9, v10, v11, v12, v13, v14, rfl, I⟩
      obtain ⟨q, hq, rfl⟩ := map_at hi
      have hil := (List.getElem?_eq_some_iff.mp hq).1
      have hil2 : i < ds.length := by omega
      have hD := List.getElem?_eq_getElem hil2
      have hat := hdat i q _ hq hD
      have hok := hok8 i _ hD
      have hth := thAt_succ hD
      generalize ds[i] = D at hD hat hok hth
      have q_ne : ∀ {xs : List V}, H8 q = some (.tup xs) → q ≠ p ∧ q ≠ d ∧ q ≠ p' ∧ q ≠ d' := fun e => ⟨ne_of e g8 (by intro z; cases z), ne_of e g8d (by intro z; cases z), ne_of e g8' (by intro z; cases z), ne_of e g8d' (by intro z; cases z)⟩
      refine ⟨fun σ' H' => ∃ (b1 b2 : Bk) (last : Addr) (sdl : List (Str × Int)) (v8 v9 v10 v11 v12 v13 v14 : Option V), σ' = [some (.ref a), some (.int sc), some (.int tp), some (.int bt), some (.ref p), some (.ref p'), some (.ref l6), some (.ref last), v8, v9, v10, v11, v12, v13, v14] ∧ LInv C H8 H' p d p' d' sc tp bt (i + 1) (thAt ds (i + 1)) b1 b2 last sdl, ?_, ?_⟩
      · cases D with
        | come n =>
          obtain ⟨n1, n2, n3, n4⟩ := q_ne hat
          have hq9 := I.kp _ _ hat n1 n2 n3 n4
          refine ⟨_, rfl, q, _, _, _, rfl, rfl, SqT.of hq9, at_of (j := 0) rfl rfl, rfl, _, rfl, ?_⟩
          rw [decide_eq_true rfl]
          refine iteT ?_
          obtain ⟨⟨dy, g1⟩, g2⟩ := id I.B1
          have hl1 : b1.ts.length ≤ 100 := by rw [← ks_len, I.k1]; have := I.ln; omega
          have hl2 : b2.ts.length ≤ 100 := by rw [← ks_len, I.k2]; have := I.ln; omega
          refine ⟨_, rfl, p, dy, _, rfl, g1, f_no _ _ _ (by decide +kernel), _, rfl, q, _, _, _, rfl, rfl, SqT.of hq9, at_of (j := 1) rfl rfl, p, d, b1, n, rfl, I.B1, hok.2, by rw [I.k1]; exact hok.1, hl1, fun H10 B10 kp10 => ?_⟩
          have hq10 := kp10 _ _ hq9 n1 n2
          have B10' : BkAt C H10 p' d' b2 := by
            obtain ⟨⟨dz, g3⟩, g4⟩ := I.B2
            exact ⟨⟨dz, kp10 _ _ g3 npp.symm ndp.symm⟩, kp10 _ _ g4 npd2.symm ndd.symm⟩
          obtain ⟨⟨dz, g3⟩, g4⟩ := id B10'
          refine ⟨_, rfl, p', dz, _, rfl, g3, f_no _ _ _ (by decide +kernel), _, rfl, q, _, _, _, rfl, rfl, SqT.of hq10, at_of (j := 1) rfl rfl, p', d', b2, n, rfl, B10', hok.2, by rw [I.k2]; exact hok.1, hl2, fun H11 B11' kp11 => ?_⟩
          have B11 := B10.kept kp11 npp npd2 ndp ndd
          refine ⟨_, _, last, sdl, _, _, _, _, _, _, _, rfl, B11, B11', I.e1, I.e2, ?_, ?_, ?_, ?_, I.w1.come.mono, I.w2.come.mono, ?_, I.nl1, I.nl2, I.sl, fun c o e h1 h2 h3 h4 => kp11 _ _ (kp10 _ _ (I.kp c o e h1 h2 h3 h4) h1 h2) h3 h4⟩
          · rw [hth, ← I.k1]; show ks (b1.ts ++ [(n, b1.un)]) = ks b1.ts ++ [n]; unfold ks; rw [List.map_append]; rfl
          · rw [hth, ← I.k2]; show ks (b2.ts ++ [(n, b2.un)]) = ks b2.ts ++ [n]; unfold ks; rw [List.map_append]; rfl
          · rw [hth]; exact nd_step I.nd hok
          · rw [hth]; show (_ ++ [n]).length ≤ _; rw [List.length_append, List.length_singleton]; have := I.ln; omega
          · obtain ⟨⟨dz, g3⟩, g4⟩ := I.B2
            obtain ⟨⟨dw, g5⟩, g6⟩ := I.B1
            exact kp11 _ _ (kp10 _ _ I.hl (ne_of I.hl g5 (by intro z; cases z)) I.nl1) (ne_of I.hl g3 (by intro z; cases z)) I.nl2
        | go n =>
          obtain ⟨n1, n2, n3, n4⟩ := q_ne hat
          have hq9 := I.kp _ _ hat n1 n2 n3 n4
          refine ⟨_, rfl, q, _, _, _, rfl, rfl, SqT.of hq9, at_of (j := 0) rfl rfl, rfl, _, rfl, ?_⟩
          rw [t_come]
          refine iteF ?_
          refine ⟨_, rfl, q, _, _, _, rfl, rfl, SqT.of hq9, at_of (j := 0) rfl rfl, rfl, _, rfl, ?_⟩
          rw [decide_eq_true rfl]
          refine iteT ?_
          obtain ⟨⟨dy, g1⟩, g2⟩ := id I.B1
          have hl1 : b1.ts.length < 64 := by rw [← ks_len, I.k1]; have := I.ln; omega
          have hl2 : b2.ts.length < 64 := by rw [← ks_len, I.k2]; have := I.ln; omega
          refine ⟨_, rfl, p, dy, _, rfl, g1, f_no _ _ _ (by decide +kernel), _, rfl, q, _, _, _, rfl, rfl, SqT.of hq9, at_of (j := 1) rfl rfl, p, d, b1, n, rfl, I.B1, by rw [I.k1]; exact hok, hl1, fun H10 B10 kp10 => ?_⟩
          have hq10 := kp10 _ _ hq9 n1 n2
          have B10' : BkAt C H10 p' d' b2 := by
            obtain ⟨⟨dz, g3⟩, g4⟩ := I.B2
            exact ⟨⟨dz, kp10 _ _ g3 npp.symm ndp.symm⟩, kp10 _ _ g4 npd2.symm ndd.symm⟩
          obtain ⟨⟨dz, g3⟩, g4⟩ := id B10'
          refine ⟨_, rfl, p', dz, _, rfl, g3, f_no _ _ _ (by decide +kernel), _, rfl, q, _, _, _, rfl, rfl, SqT.of hq10, at_of (j := 1) rfl rfl, p', d', b2, n, rfl, B10', by rw [I.k2]; exact hok, hl2, fun H11 B11' kp11 => ?_⟩
          have B11 := B10.kept kp11 npp npd2 ndp ndd
          refine ⟨_, _, last, sdl, _, _, _, _, _, _, _, rfl, B11, B11', I.e1, I.e2, ?_, ?_, ?_, ?_, I.w1.go.mono, I.w2.go.mono, ?_, I.nl1, I.nl2, I.sl, fun c o e h1 h2 h3 h4 => kp11 _ _ (kp10 _ _ (I.kp c o e h1 h2 h3 h4) h1 h2) h3 h4⟩
          · rw [hth, ← I.k1]; exact ks_dr _ _
          · rw [hth, ← I.k2]; exact ks_dr _ _
          · rw [hth]; exact nd_step I.nd hok
          · rw [hth]; exact Nat.le_trans (List.length_filter_le _ _) (Nat.le_succ_of_le I.ln)
          · obtain ⟨⟨dz, g3⟩, g4⟩ := I.B2
            obtain ⟨⟨dw, g5⟩, g6⟩ := I.B1
            exact kp11 _ _ (kp10 _ _ I.hl (ne_of I.hl g5 (by intro z; cases z)) I.nl1) (ne_of I.hl g3 (by intro z; cases z)) I.nl2
        | turn e sd so =>
          obtain ⟨ht1, ht2, ht3⟩ := hat
          obtain ⟨n1, n2, n3, n4⟩ := q_ne ht1
          have m1 : e ≠ p := ne_of ht2 g8 (by intro z; cases z)
          have m2 : e ≠ d := (ne_of_none B7.2 ht3).symm
          have m3 : e ≠ p' := ne_of ht2 g8' (by intro z; cases z)
          have m4 : e ≠ d' := (ne_of_none B7'.2 ht3).symm
          have hq9 := I.kp _ _ ht1 n1 n2 n3 n4
          have he9 := I.kp _ _ ht2 m1 m2 m3 m4
          obtain ⟨hsd, so0, so1⟩ := hok
          obtain ⟨nd, hin, hv, hl⟩ := id hsd
          have S1 : SdOk b1.sc (ks b1.ts) sd := by rw [I.e1.1, I.k1]; exact hsd
          have S2 : SdOk b2.sc (ks b2.ts) sd := by rw [I.e2.1, I.k2]; exact hsd
          have nd1 : (ks b1.ts).Nodup := by rw [I.k1]; exact I.nd
          have nd2 : (ks b2.ts).Nodup := by rw [I.k2]; exact I.nd
          have hl1 : b1.ts.length < 64 := by rw [← ks_len, I.k1]; have := I.ln; omega
          have hl2 : b2.ts.length < 64 := by rw [← ks_len, I.k2]; have := I.ln; omega
          refine ⟨_, rfl, q, _, _, _, rfl, rfl, SqT.of hq9, at_of (j := 0) rfl rfl, rfl, _, rfl, ?_⟩
          rw [t_turn]
          refine iteF ?_
          refine ⟨_, rfl, q, _, _, _, rfl, rfl, SqT.of hq9, at_of (j := 0) rfl rfl, rfl, _, rfl, ?_⟩
          rw [t_turn2]
          refine iteF ?_
          obtain ⟨⟨dx1, f1⟩, f2⟩ := id I.B1
          refine ⟨_, rfl, p, dx1, _, rfl, f1, f_no _ _ _ (by decide +kernel), p, d, b1, rfl, I.B1, fun e9 q9 H10 he9n hq9n k9 kq9 s10 => ?_⟩
          refine ⟨_, rfl, q, _, _, _, rfl, rfl, SqT.of (s10 _ _ hq9), at_of (j := 1) rfl rfl, e, _, rfl, .inl (s10 _ _ he9), fun hn hhn => ?_⟩
          have I10 := I.same s10
          have s11 : Same H10 _ := same_upd (o := .dK (kvs sd)) hhn
          have gh : upd H10 hn (.dK (kvs sd)) hn = _ := upd_same
          have ndh : d ≠ hn := ne_of_none I10.B1.2 hhn
          have ndh' : d' ≠ hn := ne_of_none I10.B2.2 hhn
          have neh : e9 ≠ hn := ne_of_none k9 hhn
          have nqh : q9 ≠ hn := ne_of_none kq9 hhn
          have hnew : ∀ c o, H9 c = some o → c ≠ hn := fun c o z => ne_of_none (s10 c o z) hhn
          generalize upd H10 hn (.dK (kvs sd)) = H11 at s11 gh
          refine lock_pairs (ts := b1.ts) (ja := 10) gh rfl hl S1.2.1 (fun n => rfl) (fun n x y H3 od Q' hx hy g3 g4 hq' => ?_) fun l qs' H12 s12 hl12 hp12 => ?_
          · exact ⟨_, rfl, _, rfl, hn, _, rfl, dget_s (.inr ⟨od, g3⟩) hx, _, rfl, q9, _, _, _, rfl, rfl, SqT.of (g4 _ _ (s11 _ _ kq9) nqh), at_of (j := 0) rfl rfl, _, rfl, e9, _, rfl, dget_s (.inl (g4 _ _ (s11 _ _ k9) neh)) hy, by show 2 ≤ sizeLine; decide, hq'⟩
          refine ⟨l, qs', _, rfl, hl12, hp12, by rw [prs_len]; omega, fun H13 s13 => ?_⟩
          have c13 := s12.trans s13
          have I13 := (I10.same s11).same c13
          obtain ⟨⟨dx2, f3⟩, f4⟩ := id I13.B2
          refine ⟨_, rfl, p', dx2, _, rfl, f3, f_no _ _ _ (by decide +kernel), p', d', b2, rfl, I13.B2, fun e13 q13 H14 he13 hq13 k13 kq13 s14 => ⟨q13, _, _, _, rfl, rfl, SqT.of kq13, at_of (j := 0) rfl rfl, ?_⟩⟩
          have ne13 : e13 ≠ hn := (ne_of_none (c13 _ _ gh) he13).symm
          have c14 := c13.trans s14
          refine lock_pairs (ts := b2.ts) (ja := 10) (c14 _ _ gh) rfl hl S2.2.1 (fun n => rfl) (fun n x y H3 od Q' hx hy g3 g4 hq' => ?_) fun l2 qs2 H15 s15 hl15 hp15 => ?_
          · exact ⟨_, rfl, _, rfl, hn, _, rfl, dget_s (.inr ⟨od, g3⟩) hx, _, rfl, _, rfl, e13, _, rfl, dget_s (.inl (g4 _ _ k13 ne13)) hy, by show 2 ≤ sizeLine; decide, hq'⟩
          refine ⟨l2, qs2, _, rfl, hl15, hp15, by rw [prs_len]; omega, fun H16 s16 => ?_⟩
          have c16 := (c14.trans s15).trans s16
          have I11 := I10.same s11
          have I16 := I11.same c16
          refine ⟨_, rfl, _, rfl, p, d, hn, b1, sd, rfl, I16.B1, c16 _ _ gh, ndh.symm, S1, fun H17 s17 => ?_⟩
          refine ⟨_, rfl, rfl, _, rfl, ?_⟩
          refine iteNS rfl ?_
          have c17 := c16.trans s17
          have I17 := I11.same c17
          refine ⟨_, rfl, _, rfl, p', d', hn, b2, sd, rfl, I17.B2, c17 _ _ gh, ndh'.symm, S2, fun H18 s18 => ?_⟩
          refine ⟨_, rfl, rfl, _, rfl, ?_⟩
          refine iteNS rfl ?_
          have c18 := c17.trans s18
          have I18 := I11.same c18
          refine ⟨_, rfl, _, rfl, p, d, hn, b1, sd, rfl, I18.B1, c18 _ _ gh, ndh.symm, S1, fun H19 s19 => ?_⟩
          refine ⟨_, rfl, rfl, _, rfl, ?_⟩
          refine iteNS rfl ?_
          have c19 := c18.trans s19
          have I19 := I11.same c19
          refine ⟨_, rfl, fun e20 he20 => ?_⟩
          have s20 : Same H19 _ := same_upd (o := .dK []) he20
          refine ⟨p, d, e20, b1, [], rfl, I19.B1.same s20, upd_same, (ne_of_none I19.B1.2 he20).symm, ⟨List.nodup_nil, fun n m => (by cases m), fun n m => (by cases m), by decide⟩, fun H21 s21 => ?_⟩
          refine ⟨rfl, _, rfl, ?_⟩
          refine iteNS rfl ?_
          have c21 := c19.trans (s20.trans s21)
          have I21 := I11.same c21
          have gh21 := c21 _ _ gh
          refine ⟨hn, _, gh21, trivial, fun od => ?_⟩
          refine ⟨_, rfl, hn, od, rfl, .inl ⟨_, upd_same, for_it walk_keys (fun j σ Hx => (∃ v, σ = [some (.ref a), some (.int sc), some (.int tp), some (.int bt), some (.ref p), some (.ref p'), some (.ref l6), some (.ref last), some (.ref q), some (.ref q9), some (.ref hn), v, some (.int (mid (prs sd b1.ts))), some (.ref e13), some (.int (mid (prs sd b2.ts)))]) ∧ Hx hn = some (.frz od (.dK (kvs sd))) ∧ ∀ c o, H21 c = some o → c ≠ hn → Hx c = some o)
            ⟨⟨_, rfl⟩, upd_same, fun c o z hc => by rw [upd_ne hc]; exact z⟩ (fun i σ H2 _ h => h.2.1) ?_ ?_⟩⟩
          · rintro j x σ Hx Hy hj ⟨⟨v, rfl⟩, gx, kx⟩ ⟨rfl, kk, vv, hk, rfl⟩
            obtain ⟨r, hr, rfl, rfl⟩ := key_at hk
            have hrm := List.mem_of_getElem? hr
            have hrk : r.1 ∈ ks sd := List.mem_map.mpr ⟨r, hrm, rfl⟩
            refine ⟨_, rfl, fun pn hpn => ?_⟩
            have nhp : hn ≠ pn := ne_of_none gx hpn
            refine ⟨_, rfl, _, rfl, _, rfl, hn, _, rfl, dget_s (.inr ⟨od, Eq.trans (upd_ne nhp) gx⟩) (lk_of_mem nd hrm), upd_same, [(Sum.inr r.1, .int r.2)], rfl, by show 1 ≤ 15; decide, ?_⟩
            have kx2 : ∀ c o, H21 c = some o → c ≠ hn → upd (upd Hy pn (.dK [])) pn (.dK (kvs [r])) c = some o := fun c o z hc => by
              have z2 := kx c o z hc
              rw [upd_ne (ne_of_none z2 hpn), upd_ne (ne_of_none z2 hpn)]
              exact z2
            have Bx : BkAt C (upd (upd Hy pn (.dK [])) pn (.dK (kvs [r]))) p d b1 := by
              obtain ⟨⟨dz, w1⟩, w2⟩ := I21.B1
              exact ⟨⟨dz, kx2 _ _ w1 (ne_of w1 gh21 (by intro z; cases z))⟩, kx2 _ _ w2 ndh⟩
            have npd2 : pn ≠ d := (ne_of_none (kx _ _ I21.B1.2 ndh) hpn).symm
            refine ⟨p, d, pn, b1, [r], rfl, Bx, upd_same, npd2, ⟨by show [r.1].Nodup; simp, fun n m => ?_, fun y m => ?_, by show 1 < 64; decide⟩, fun H22 s22 => ?_⟩
            · have m2 : n ∈ [r.1] := m
              rw [List.mem_singleton.mp m2]
              exact S1.2.1 _ hrk
            · rw [List.mem_singleton.mp m]
              exact S1.2.2.1 _ hrm
            · have gx2 := s22 _ _ (show upd (upd Hy pn (.dK [])) pn (.dK (kvs [r])) hn = some (.frz od (.dK (kvs sd))) by rw [upd_ne nhp, upd_ne nhp]; exact gx)
              refine ⟨_, rfl, _, rfl, hn, _, rfl, dget_s (.inr ⟨od, gx2⟩) (lk_of_mem nd hrm), rfl, _, rfl, ?_⟩
              refine iteNS (congrArg V.int (mid_single fun y m => (I21.w1.1 y m).1)) ?_
              exact ⟨⟨_, rfl⟩, gx2, fun c o z hc => s22 _ _ (kx2 c o z hc)⟩
          rintro σ Hx ⟨⟨v, rfl⟩, gx, kx⟩
          refine ⟨gx, ?_⟩
          have s22 : Same H21 (upd Hx hn (.dK (kvs sd))) := fun c o z => by
            by_cases hc : c = hn
            · subst hc
              rw [upd_same, ← z, gh21]
            · rw [upd_ne hc]
              exact kx c o z hc
          generalize upd Hx hn (.dK (kvs sd)) = H22 at s22
          have c22 := c21.trans s22
          have I22 := I11.same c22
          refine ⟨_, rfl, _, rfl, p, d, hn, b1, sd, rfl, I22.B1, c22 _ _ gh, ndh.symm, S1, fun H23 s23 => ?_⟩
          refine ⟨_, rfl, rfl, _, rfl, ?_⟩
          refine iteNS rfl ?_
          have c23 := c22.trans s23
          have I23 := I11.same c23
          have a23 := (s10.trans s11).trans c23
          refine ⟨_, rfl, _, rfl, q, _, _, _, rfl, rfl, SqT.of (a23 _ _ hq9), at_of (j := 1) rfl rfl, hn, e, _, _, rfl, rfl, c23 _ _ gh, a23 _ _ he9, rfl, kvs_self nd, _, rfl, iteF ?_⟩
          obtain ⟨⟨dx5, f5⟩, f6⟩ := id I23.B1
          refine ⟨_, rfl, p, dx5, _, rfl, f5, f_no _ _ _ (by decide +kernel), p, d, b1, rfl, I23.B1, fun e24 q24 H24 he24 hq24 k24 kq24 s24 => ?_⟩
          have c24 := c23.trans s24
          have a24 := a23.trans s24
          have k924 := c24 _ _ (s11 _ _ k9)
          refine ⟨_, rfl, q24, q9, e24, e9, _, _, rfl, rfl, SqT.of kq24, SqT.of (c24 _ _ (s11 _ _ kq9)), (ne_of_none (c23 _ _ (s11 _ _ k9)) he24).symm, k24, k924, kvs_self nd1, _, rfl, iteF ?_⟩
          have I24 := I11.same c24
          have gh24 := c24 _ _ gh
          obtain ⟨⟨dx7, f7⟩, f8⟩ := id I24.B1
          refine ⟨_, rfl, p, dx7, _, rfl, f7, f_no _ _ _ (by decide +kernel), _, rfl, _, rfl, q, _, _, _, rfl, rfl, SqT.of (a24 _ _ hq9), at_of (j := 2) rfl rfl, p, d, hn, b1, sd, so, i, rfl, I24.B1, gh24, ndh.symm, S1, by rw [I.e1.1, I.e1.2.1, I.e1.2.2]; exact scl, so0, by rw [I.e1.1]; exact so1, nd1, hl1, I.w1, by omega, fun H25 ts1 un1 hks1 hbd1 B25 kp25 => ?_⟩
          have nhp : hn ≠ p := ne_of gh24 f7 (by intro z; cases z)
          have B25' := I24.B2.kept kp25 npp.symm ndp.symm npd2.symm ndd.symm
          have gh25 := kp25 _ _ gh24 nhp ndh.symm
          have hq25 := kp25 _ _ (a24 _ _ hq9) n1 n2
          have he25 := kp25 _ _ (a24 _ _ he9) m1 m2
          obtain ⟨⟨dx9, f9⟩, f10⟩ := id B25'
          have nhp' : hn ≠ p' := ne_of gh25 f9 (by intro z; cases z)
          refine ⟨_, rfl, p', dx9, _, rfl, f9, f_no _ _ _ (by decide +kernel), _, rfl, _, rfl, hn, sd, sc, rfl, gh25, nd, hl, fun et H26 het ket s26 => ?_⟩
          have net : et ≠ d' := (ne_of_none B25'.2 het).symm
          have S2' := sd_turn S2
          rw [I.e2.1] at S2'
          refine ⟨_, rfl, q, _, _, _, rfl, rfl, SqT.of (s26 _ _ hq25), at_of (j := 2) rfl rfl, p', d', et, b2, _, so, i, rfl, B25'.same s26, ket, net, by rw [I.e2.1]; exact S2', by rw [I.e2.1, I.e2.2.1, I.e2.2.2]; exact scl, so0, by rw [I.e2.1]; exact so1, nd2, hl2, I.w2, by omega, fun H27 ts2 un2 hks2 hbd2 B27 kp27 => ?_⟩
          have B27' := (B25.same s26).kept kp27 npp npd2 ndp ndd
          have gh27 := kp27 _ _ (s26 _ _ gh25) nhp' ndh'.symm
          have hq27 := kp27 _ _ (s26 _ _ hq25) n3 n4
          have he27 := kp27 _ _ (s26 _ _ he25) m3 m4
          refine ⟨_, rfl, q, _, _, _, rfl, rfl, SqT.of hq27, at_of (j := 1) rfl rfl, e, _, rfl, .inl he27, fun ln hln => ?_⟩
          have s28 : Same H27 _ := same_upd (o := .dK (kvs sd)) hln
          have gl : upd H27 ln (.dK (kvs sd)) ln = _ := upd_same
          have nlh : ln ≠ hn := (ne_of_none gh27 hln).symm
          have nld : ln ≠ d := (ne_of_none B27'.2 hln).symm
          have nld' : ln ≠ d' := (ne_of_none B27.2 hln).symm
          generalize upd H27 ln (.dK (kvs sd)) = H28 at s28 gl
          refine ⟨_, rfl, .inr (.inr (.inl ⟨rfl, .inl ⟨_, s28 _ _ gh27⟩⟩)), hn, _, rfl, rfl, s28 _ _ gh27, ?_⟩
          have kc : ∀ c o, H27 c = some o → c ≠ hn → upd H28 hn (.dK []) c = some o := fun c o z hc => by rw [upd_ne hc]; exact s28 _ _ z
          refine ⟨⟨b1.sc, b1.tp, b1.bt, ts1, un1, b1.cm⟩, ⟨b2.sc, b2.tp, b2.bt, ts2, un2, b2.cm⟩, ln, sd, _, _, _, _, _, _, _, rfl, ?_, ?_, I.e1, I.e2, ?_, ?_, ?_, ?_, hbd1, hbd2, Eq.trans (upd_ne nlh) gl, nld, nld', ⟨nd, hv, hl⟩, fun c o z h1 h2 h3 h4 => ?_⟩
          · obtain ⟨⟨dz, w1⟩, w2⟩ := B27'
            exact ⟨⟨dz, kc _ _ w1 nhp.symm⟩, kc _ _ w2 ndh⟩
          · obtain ⟨⟨dz, w1⟩, w2⟩ := B27
            exact ⟨⟨dz, kc _ _ w1 nhp'.symm⟩, kc _ _ w2 ndh'⟩
          · rw [hth]; exact hks1.trans I.k1
          · rw [hth]; exact hks2.trans I.k2
          · rw [hth]; exact I.nd
          · rw [hth]; exact Nat.le_succ_of_le I.ln
          · have z9 := I.kp c o z h1 h2 h3 h4
            exact kc _ _ (kp27 _ _ (s26 _ _ (kp25 _ _ (a24 _ _ z9) h1 h2)) h3 h4) (hnew c o z9)
      · rintro σ' H10 ⟨b1, b2, last, sdl, v8, v9, v10, v11, v12, v13, v14, rfl, I⟩
        refine ⟨_, rfl, _, rfl, p, d, last, b1, sdl, rfl, I.B1, I.hl, I.nl1, I.sl.1, by rw [I.e1.1]; exact I.sl.2.1, I.sl.2.2, fun H11 s11 => ?_⟩
        refine ⟨_, rfl, ?_⟩
        refine iteF ?_
        exact ⟨b1, b2, last, sdl, _, _, _, _, _, _, _, rfl, I.same s11⟩
    · rintro σ H9 ⟨_, _, _, _, _, _, _, _, _, _, _, _, I⟩
      exact k H9
end
end K8

set_option Elab.async false
set_option linter.all false
set_option maxRecDepth 100000
set_option maxHeartbeats 4000000
/-! The end: what the top has written. -/
namespace K8
open PySem PySem.Spec PyProof.Rows L2
theorem cal_of {P : Program} {w : World} {K : PySem.W.Frag} {mg : Str → Option Value} {base : Heap} {k : Nat} {x : Str} {sp : Sp} {f : Addr} {fd : FuncData} {ps : List Str} (F : FnOk P w K mg base CX0 k f fd ps sp) (m : mg x = some (.ref f)) (kp : PySem.W.keepIn K (.ref f) = true) (b : Binds K fd ps []) : C8.Cal P w K mg base k x sp [] := ⟨f, fd, ps, [], F, m, kp, b, .nil⟩
theorem met_of {P : Program} {w : World} {K : PySem.W.Frag} {mg : Str → Option Value} {base : Heap} {k : Nat} {C : Addr} {m : Str} {sp : Sp} {f : Addr} {fd : FuncData} {ps : List Str} (c : Cls K C) (F : FnOk P w K mg base CX0 k f fd ps sp) (me : Meth K C m f) (b : Binds K fd ps []) : C8.Met P w K mg base k C m sp [] := ⟨f, fd, ps, [], c, me, F, b, .nil⟩
theorem mak_of {P : Program} {w : World} {K : PySem.W.Frag} {mg : Str → Option Value} {base : Heap} {k : Nat} {C : Addr} {x : Str} {sp : Sp} {f : Addr} {fd : FuncData} {ps : List Str} (M : Mk K C f) (F : FnOk P w K mg base CX0 k f fd ps sp) (m : mg x = some (.ref C)) (b : Binds K fd ps []) : C8.Mak P w K mg base k x C sp [] := ⟨f, fd, ps, [], M, F, m, b, .nil⟩
theorem all_mk {l : PySem.W.OpenLaw} {w : World} {K : PySem.W.Frag} {h : Heap} {mg : Str → Option Value} {fa C fWt fOn fCh fPw fMid fWh fFr fSl fAw fNm fCell fStr fRul fCells fNms fSaid fDeeds fMidL fTurn fTold fStill fLaw fInit fCome fGo fThere fCheck fSay fHear fWei : Addr} {tL tM : Tok} (X : K.In h) (G : h.Ns mainGlobals mg) (hfa : mg "law" = some (.ref fa))
    {odWt anWt odOn anOn odCh anCh odPw anPw odMid anMid odWh anWh odFr anFr odSl anSl odAw anAw odNm anNm odCell anCell odStr anStr odRul anRul odCells anCells odNms anNms odSaid anSaid odDeeds anDeeds odMidL anMidL odTurn anTurn odTold anTold odStill anStill odLaw anLaw odInit anInit odCome anCome odGo anGo odThere anThere odCheck anCheck odSay anSay odHear anHear odWei anWei : Option Addr}
    {slWt slOn slCh slPw slMid slWh slFr slSl slAw slNm slCell slStr slRul slCells slNms slSaid slDeeds slMidL slTurn slTold slStill slLaw slInit slCome slGo slThere slCheck slSay slHear slWei : Array (Option Value)}
    {ocWt kVWt dcWt pmWt cdWt ctWt ocOn kVOn dcOn pmOn cdOn ctOn ocCh kVCh dcCh pmCh cdCh ctCh ocPw kVPw dcPw pmPw cdPw ctPw ocMid kVMid dcMid pmMid cdMid ctMid ocWh kVWh dcWh pmWh cdWh ctWh ocFr kVFr dcFr pmFr cdFr ctFr ocSl kVSl dcSl pmSl cdSl ctSl ocAw kVAw dcAw pmAw cdAw ctAw ocNm kVNm dcNm pmNm cdNm ctNm ocCell kVCell dcCell pmCell cdCell ctCell ocStr kVStr dcStr pmStr cdStr ctStr ocRul kVRul dcRul pmRul cdRul ctRul ocCells kVCells dcCells pmCells cdCells ctCells ocNms kVNms dcNms pmNms cdNms ctNms ocSaid kVSaid dcSaid pmSaid cdSaid ctSaid ocDeeds kVDeeds dcDeeds pmDeeds cdDeeds ctDeeds ocMidL kVMidL dcMidL pmMidL cdMidL ctMidL ocTurn kVTurn dcTurn pmTurn cdTurn ctTurn ocTold kVTold dcTold pmTold cdTold ctTold ocStill kVStill dcStill pmStill cdStill ctStill ocLaw kVLaw dcLaw pmLaw cdLaw ctLaw ocInit kVInit dcInit pmInit cdInit ctInit ocCome kVCome dcCome pmCome cdCome ctCome ocGo kVGo dcGo pmGo cdGo ctGo ocThere kVThere dcThere pmThere cdThere ctThere ocCheck kVCheck dcCheck pmCheck cdCheck ctCheck ocSay kVSay dcSay pmSay cdSay ctSay ocHear kVHear dcHear pmHear cdHear ctHear ocWei kVWei dcWei pmWei cdWei ctWei : Value}
    (aWt : PySem.W.nsIn K mainGlobals "is_whole_turns" = some (some (.ref fWt)))
    (lWt : K.lookup fWt = some ⟨ocWt, odWt, .func (PySem.W.fnOf "is_whole" "is_whole" (defArgs sWt) (defBody sWt) (defScope sWt) .none kVWt dcWt pmWt anWt cdWt ctWt), slWt⟩)
    (cWt : PySem.W.codeIn K cdWt "is_whole" = true)
    (kWt : PySem.W.keepIn K (.ref fWt) = true)
    (aOn : PySem.W.nsIn K mainGlobals "on_scale" = some (some (.ref fOn)))
    (lOn : K.lookup fOn = some ⟨ocOn, odOn, .func (PySem.W.fnOf "on_scale" "on_scale" (defArgs sOn) (defBody sOn) (defScope sOn) .none kVOn dcOn pmOn anOn cdOn ctOn), slOn⟩)
    (cOn : PySem.W.codeIn K cdOn "on_scale" = true)
    (kOn : PySem.W.keepIn K (.ref fOn) = true)
    (aCh : PySem.W.nsIn K mainGlobals "charge" = some (some (.ref fCh)))
    (lCh : K.lookup fCh = some ⟨ocCh, odCh, .func (PySem.W.fnOf "charge" "charge" (defArgs sCh) (defBody sCh) (defScope sCh) .none kVCh dcCh pmCh anCh cdCh ctCh), slCh⟩)
    (cCh : PySem.W.codeIn K cdCh "charge" = true)
    (kCh : PySem.W.keepIn K (.ref fCh) = true)
    (aPw : PySem.W.nsIn K mainGlobals "power" = some (some (.ref fPw)))
    (lPw : K.lookup fPw = some ⟨ocPw, odPw, .func (PySem.W.fnOf "power" "power" (defArgs sPw) (defBody sPw) (defScope sPw) .none kVPw dcPw pmPw anPw cdPw ctPw), slPw⟩)
    (cPw : PySem.W.codeIn K cdPw "power" = true)
    (kPw : PySem.W.keepIn K (.ref fPw) = true)
    (aMid : PySem.W.nsIn K mainGlobals "middle" = some (some (.ref fMid)))
    (lMid : K.lookup fMid = some ⟨ocMid, odMid, .func (PySem.W.fnOf "middle" "middle" (defArgs sMid) (defBody sMid) (defScope sMid) .none kVMid dcMid pmMid anMid cdMid ctMid), slMid⟩)
    (cMid : PySem.W.codeIn K cdMid "middle" = true)
    (kMid : PySem.W.keepIn K (.ref fMid) = true)
    (aWh : PySem.W.nsIn K mainGlobals "is_whole_hands" = some (some (.ref fWh)))
    (lWh : K.lookup fWh = some ⟨ocWh, odWh, .func (PySem.W.fnOf "is_whole" "is_whole" (defArgs sWh) (defBody sWh) (defScope sWh) .none kVWh dcWh pmWh anWh cdWh ctWh), slWh⟩)
    (cWh : PySem.W.codeIn K cdWh "is_whole" = true)
    (kWh : PySem.W.keepIn K (.ref fWh) = true)
    (aFr : PySem.W.nsIn K mainGlobals "check_fraction" = some (some (.ref fFr)))
    (lFr : K.lookup fFr = some ⟨ocFr, odFr, .func (PySem.W.fnOf "check_fraction" "check_fraction" (defArgs sFr) (defBody sFr) (defScope sFr) .none kVFr dcFr pmFr anFr cdFr ctFr), slFr⟩)
    (cFr : PySem.W.codeIn K cdFr "check_fraction" = true)
    (kFr : PySem.W.keepIn K (.ref fFr) = true)
    (aSl : PySem.W.nsIn K mainGlobals "asleep_factor" = some (some (.ref fSl)))
    (lSl : K.lookup fSl = some ⟨ocSl, odSl, .func (PySem.W.fnOf "asleep_factor" "asleep_factor" (defArgs sSl) (defBody sSl) (defScope sSl) .none kVSl dcSl pmSl anSl cdSl ctSl), slSl⟩)
    (cSl : PySem.W.codeIn K cdSl "asleep_factor" = true)
    (kSl : PySem.W.keepIn K (.ref fSl) = true)
    (aAw : PySem.W.nsIn K mainGlobals "awake_factor" = some (some (.ref fAw)))
    (lAw : K.lookup fAw = some ⟨ocAw, odAw, .func (PySem.W.fnOf "awake_factor" "awake_factor" (defArgs sAw) (defBody sAw) (defScope sAw) .none kVAw dcAw pmAw anAw cdAw ctAw), slAw⟩)
    (cAw : PySem.W.codeIn K cdAw "awake_factor" = true)
    (kAw : PySem.W.keepIn K (.ref fAw) = true)
    (aNm : PySem.W.nsIn K mainGlobals "is_name" = some (some (.ref fNm)))
    (lNm : K.lookup fNm = some ⟨ocNm, odNm, .func (PySem.W.fnOf "is_name" "is_name" (defArgs sNm) (defBody sNm) (defScope sNm) .none kVNm dcNm pmNm anNm cdNm ctNm), slNm⟩)
    (cNm : PySem.W.codeIn K cdNm "is_name" = true)
    (kNm : PySem.W.keepIn K (.ref fNm) = true)
    (aCell : PySem.W.nsIn K mainGlobals "_law_cell_at" = some (some (.ref fCell)))
    (lCell : K.lookup fCell = some ⟨ocCell, odCell, .func (PySem.W.fnOf "_law_cell_at" "_law_cell_at" (defArgs sCell) (defBody sCell) (defScope sCell) .none kVCell dcCell pmCell anCell cdCell ctCell), slCell⟩)
    (cCell : PySem.W.codeIn K cdCell "_law_cell_at" = true)
    (kCell : PySem.W.keepIn K (.ref fCell) = true)
    (aStr : PySem.W.nsIn K mainGlobals "_law_stream" = some (some (.ref fStr)))
    (lStr : K.lookup fStr = some ⟨ocStr, odStr, .func (PySem.W.fnOf "_law_stream" "_law_stream" (defArgs sStr) (defBody sStr) (defScope sStr) .none kVStr dcStr pmStr anStr cdStr ctStr), slStr⟩)
    (cStr : PySem.W.codeIn K cdStr "_law_stream" = true)
    (kStr : PySem.W.keepIn K (.ref fStr) = true)
    (aRul : PySem.W.nsIn K mainGlobals "_law_rule" = some (some (.ref fRul)))
    (lRul : K.lookup fRul = some ⟨ocRul, odRul, .func (PySem.W.fnOf "_law_rule" "_law_rule" (defArgs sRul) (defBody sRul) (defScope sRul) .none kVRul dcRul pmRul anRul cdRul ctRul), slRul⟩)
    (cRul : PySem.W.codeIn K cdRul "_law_rule" = true)
    (kRul : PySem.W.keepIn K (.ref fRul) = true)
    (aCells : PySem.W.nsIn K mainGlobals "_law_cells" = some (some (.ref fCells)))
    (lCells : K.lookup fCells = some ⟨ocCells, odCells, .func (PySem.W.fnOf "_law_cells" "_law_cells" (defArgs sCells) (defBody sCells) (defScope sCells) .none kVCells dcCells pmCells anCells cdCells ctCells), slCells⟩)
    (cCells : PySem.W.codeIn K cdCells "_law_cells" = true)
    (kCells : PySem.W.keepIn K (.ref fCells) = true)
    (aNms : PySem.W.nsIn K mainGlobals "_law_names" = some (some (.ref fNms)))
    (lNms : K.lookup fNms = some ⟨ocNms, odNms, .func (PySem.W.fnOf "_law_names" "_law_names" (defArgs sNms) (defBody sNms) (defScope sNms) .none kVNms dcNms pmNms anNms cdNms ctNms), slNms⟩)
    (cNms : PySem.W.codeIn K cdNms "_law_names" = true)
    (kNms : PySem.W.keepIn K (.ref fNms) = true)
    (aSaid : PySem.W.nsIn K mainGlobals "_law_said" = some (some (.ref fSaid)))
    (lSaid : K.lookup fSaid = some ⟨ocSaid, odSaid, .func (PySem.W.fnOf "_law_said" "_law_said" (defArgs sSaid) (defBody sSaid) (defScope sSaid) .none kVSaid dcSaid pmSaid anSaid cdSaid ctSaid), slSaid⟩)
    (cSaid : PySem.W.codeIn K cdSaid "_law_said" = true)
    (kSaid : PySem.W.keepIn K (.ref fSaid) = true)
    (aDeeds : PySem.W.nsIn K mainGlobals "_law_deeds" = some (some (.ref fDeeds)))
    (lDeeds : K.lookup fDeeds = some ⟨ocDeeds, odDeeds, .func (PySem.W.fnOf "_law_deeds" "_law_deeds" (defArgs sDeeds) (defBody sDeeds) (defScope sDeeds) .none kVDeeds dcDeeds pmDeeds anDeeds cdDeeds ctDeeds), slDeeds⟩)
    (cDeeds : PySem.W.codeIn K cdDeeds "_law_deeds" = true)
    (kDeeds : PySem.W.keepIn K (.ref fDeeds) = true)
    (aMidL : PySem.W.nsIn K mainGlobals "_law_middle" = some (some (.ref fMidL)))
    (lMidL : K.lookup fMidL = some ⟨ocMidL, odMidL, .func (PySem.W.fnOf "_law_middle" "_law_middle" (defArgs sMidL) (defBody sMidL) (defScope sMidL) .none kVMidL dcMidL pmMidL anMidL cdMidL ctMidL), slMidL⟩)
    (cMidL : PySem.W.codeIn K cdMidL "_law_middle" = true)
    (kMidL : PySem.W.keepIn K (.ref fMidL) = true)
    (aTurn : PySem.W.nsIn K mainGlobals "_law_turned" = some (some (.ref fTurn)))
    (lTurn : K.lookup fTurn = some ⟨ocTurn, odTurn, .func (PySem.W.fnOf "_law_turned" "_law_turned" (defArgs sTurn) (defBody sTurn) (defScope sTurn) .none kVTurn dcTurn pmTurn anTurn cdTurn ctTurn), slTurn⟩)
    (cTurn : PySem.W.codeIn K cdTurn "_law_turned" = true)
    (kTurn : PySem.W.keepIn K (.ref fTurn) = true)
    (aTold : PySem.W.nsIn K mainGlobals "_law_told" = some (some (.ref fTold)))
    (lTold : K.lookup fTold = some ⟨ocTold, odTold, .func (PySem.W.fnOf "_law_told" "_law_told" (defArgs sTold) (defBody sTold) (defScope sTold) .none kVTold dcTold pmTold anTold cdTold ctTold), slTold⟩)
    (cTold : PySem.W.codeIn K cdTold "_law_told" = true)
    (kTold : PySem.W.keepIn K (.ref fTold) = true)
    (aStill : PySem.W.nsIn K mainGlobals "_law_still" = some (some (.ref fStill)))
    (lStill : K.lookup fStill = some ⟨ocStill, odStill, .func (PySem.W.fnOf "_law_still" "_law_still" (defArgs sStill) (defBody sStill) (defScope sStill) .none kVStill dcStill pmStill anStill cdStill ctStill), slStill⟩)
    (cStill : PySem.W.codeIn K cdStill "_law_still" = true)
    (kStill : PySem.W.keepIn K (.ref fStill) = true)
    (aLaw : PySem.W.nsIn K mainGlobals "law" = some (some (.ref fLaw)))
    (lLaw : K.lookup fLaw = some ⟨ocLaw, odLaw, .func (PySem.W.fnOf "law" "law" (defArgs sLaw) (defBody sLaw) (defScope sLaw) .none kVLaw dcLaw pmLaw anLaw cdLaw ctLaw), slLaw⟩)
    (cLaw : PySem.W.codeIn K cdLaw "law" = true)
    (kLaw : PySem.W.keepIn K (.ref fLaw) = true)
    (aB : PySem.W.nsIn K mainGlobals "Book" = some (some (.ref C)))
    (aInit : PySem.W.findIn K (.ref C) "__init__" = some (some (.ref fInit)))
    (iInit : PySem.W.isFn K (.ref fInit) = true)
    (lInit : K.lookup fInit = some ⟨ocInit, odInit, .func (PySem.W.fnOf "__init__" "Book.__init__" (defArgs sInit) (defBody sInit) (defScope sInit) .none kVInit dcInit pmInit anInit cdInit ctInit), slInit⟩)
    (cInit : PySem.W.codeIn K cdInit "Book.__init__" = true)
    (kInit : PySem.W.keepIn K (.ref fInit) = true)
    (aCome : PySem.W.findIn K (.ref C) "come" = some (some (.ref fCome)))
    (iCome : PySem.W.isFn K (.ref fCome) = true)
    (lCome : K.lookup fCome = some ⟨ocCome, odCome, .func (PySem.W.fnOf "come" "Book.come" (defArgs sCome) (defBody sCome) (defScope sCome) .none kVCome dcCome pmCome anCome cdCome ctCome), slCome⟩)
    (cCome : PySem.W.codeIn K cdCome "Book.come" = true)
    (kCome : PySem.W.keepIn K (.ref fCome) = true)
    (aGo : PySem.W.findIn K (.ref C) "go" = some (some (.ref fGo)))
    (iGo : PySem.W.isFn K (.ref fGo) = true)
    (lGo : K.lookup fGo = some ⟨ocGo, odGo, .func (PySem.W.fnOf "go" "Book.go" (defArgs sGo) (defBody sGo) (defScope sGo) .none kVGo dcGo pmGo anGo cdGo ctGo), slGo⟩)
    (cGo : PySem.W.codeIn K cdGo "Book.go" = true)
    (kGo : PySem.W.keepIn K (.ref fGo) = true)
    (aThere : PySem.W.findIn K (.ref C) "there" = some (some (.ref fThere)))
    (iThere : PySem.W.isFn K (.ref fThere) = true)
    (lThere : K.lookup fThere = some ⟨ocThere, odThere, .func (PySem.W.fnOf "there" "Book.there" (defArgs sThere) (defBody sThere) (defScope sThere) .none kVThere dcThere pmThere anThere cdThere ctThere), slThere⟩)
    (cThere : PySem.W.codeIn K cdThere "Book.there" = true)
    (kThere : PySem.W.keepIn K (.ref fThere) = true)
    (aCheck : PySem.W.findIn K (.ref C) "check" = some (some (.ref fCheck)))
    (iCheck : PySem.W.isFn K (.ref fCheck) = true)
    (lCheck : K.lookup fCheck = some ⟨ocCheck, odCheck, .func (PySem.W.fnOf "check" "Book.check" (defArgs sCheck) (defBody sCheck) (defScope sCheck) .none kVCheck dcCheck pmCheck anCheck cdCheck ctCheck), slCheck⟩)
    (cCheck : PySem.W.codeIn K cdCheck "Book.check" = true)
    (kCheck : PySem.W.keepIn K (.ref fCheck) = true)
    (aSay : PySem.W.findIn K (.ref C) "say" = some (some (.ref fSay)))
    (iSay : PySem.W.isFn K (.ref fSay) = true)
    (lSay : K.lookup fSay = some ⟨ocSay, odSay, .func (PySem.W.fnOf "say" "Book.say" (defArgs sSay) (defBody sSay) (defScope sSay) .none kVSay dcSay pmSay anSay cdSay ctSay), slSay⟩)
    (cSay : PySem.W.codeIn K cdSay "Book.say" = true)
    (kSay : PySem.W.keepIn K (.ref fSay) = true)
    (aHear : PySem.W.findIn K (.ref C) "hear" = some (some (.ref fHear)))
    (iHear : PySem.W.isFn K (.ref fHear) = true)
    (lHear : K.lookup fHear = some ⟨ocHear, odHear, .func (PySem.W.fnOf "hear" "Book.hear" (defArgs sHear) (defBody sHear) (defScope sHear) .none kVHear dcHear pmHear anHear cdHear ctHear), slHear⟩)
    (cHear : PySem.W.codeIn K cdHear "Book.hear" = true)
    (kHear : PySem.W.keepIn K (.ref fHear) = true)
    (aWei : PySem.W.findIn K (.ref C) "weights" = some (some (.ref fWei)))
    (iWei : PySem.W.isFn K (.ref fWei) = true)
    (lWei : K.lookup fWei = some ⟨ocWei, odWei, .func (PySem.W.fnOf "weights" "Book.weights" (defArgs sWei) (defBody sWei) (defScope sWei) .none kVWei dcWei pmWei anWei cdWei ctWei), slWei⟩)
    (cWei : PySem.W.codeIn K cdWei "Book.weights" = true)
    (kWei : PySem.W.keepIn K (.ref fWei) = true)
    (pg : PySem.W.plainGet K C Str.empty = true)
    (hd : PySem.W.hasDictIn K C = true)
    (po : PySem.W.plainOver K C = true)
    (sa : PySem.W.findIn K (.ref C) "__setattr__" = some (some (.builtin "object.__setattr__")))
    (mk : PySem.W.makesIn K C = true)
    (kc : PySem.W.keepIn K (.ref C) = true)
    (t_scale : PySem.W.findIn K (.ref C) "scale" = some none)
    (t_top : PySem.W.findIn K (.ref C) "top" = some none)
    (t_bottom : PySem.W.findIn K (.ref C) "bottom" = some none)
    (t_tops : PySem.W.findIn K (.ref C) "tops" = some none)
    (t_under : PySem.W.findIn K (.ref C) "under" = some none)
    (t_came : PySem.W.findIn K (.ref C) "came" = some none)
    (n_len : PySem.W.nsIn K mainGlobals "len" = some none)
    (n_sum : PySem.W.nsIn K mainGlobals "sum" = some none)
    (n_sorted : PySem.W.nsIn K mainGlobals "sorted" = some none)
    (n_all : PySem.W.nsIn K mainGlobals "all" = some none)
    (n_abs : PySem.W.nsIn K mainGlobals "abs" = some none)
    (n_isinstance : PySem.W.nsIn K mainGlobals "isinstance" = some none)
    (n_tuple : PySem.W.nsIn K mainGlobals "tuple" = some none)
    (n_list : PySem.W.nsIn K mainGlobals "list" = some none)
    (n_dict : PySem.W.nsIn K mainGlobals "dict" = some none)
    (n_int : PySem.W.nsIn K mainGlobals "int" = some none)
    (n_str : PySem.W.nsIn K mainGlobals "str" = some none)
    (n_bool : PySem.W.nsIn K mainGlobals "bool" = some none)
    (n_range : PySem.W.nsIn K mainGlobals "range" = some none)
    (n_zip : PySem.W.nsIn K mainGlobals "zip" = some none)
    (gL : PySem.W.nsIn K mainGlobals "LETTERS" = some (some (.str letters tL)))
    (gM : PySem.W.nsIn K mainGlobals "MOST_BOTTOM" = some (some (.int 100 tM)))
    : ∃ fd : FuncData, (∀ (s : Shared) (v : Value), BindsTo s fd ⟨[v], []⟩ [("_law_script", v)]) ∧ ∀ base : Heap, K.In base → base.Ns mainGlobals mg → FnOk l.prog w K mg base CX0 7 fa fd ["_law_script"] (spLaw K) := by
  have e := hfa.symm.trans (PySem.W.mg_of X G aLaw)
  cases e
  have T : Txt K mg C := ⟨⟨pg, hd, po, sa⟩, t_scale, t_top, t_bottom, t_tops, t_under, t_came, PySem.W.mg_none_of X G n_len, PySem.W.mg_none_of X G n_sum, PySem.W.mg_none_of X G n_sorted, PySem.W.mg_none_of X G n_all, PySem.W.mg_none_of X G n_abs, PySem.W.mg_none_of X G n_isinstance, PySem.W.mg_none_of X G n_tuple, PySem.W.mg_none_of X G n_list, PySem.W.mg_none_of X G n_dict, PySem.W.mg_none_of X G n_int, PySem.W.mg_none_of X G n_str, PySem.W.mg_none_of X G n_bool, PySem.W.mg_none_of X G n_range, PySem.W.mg_none_of X G n_zip, ⟨tL, PySem.W.mg_of X G gL⟩, ⟨tM, PySem.W.mg_of X G gM⟩⟩
  have FWt := fun_mk (st := sWt) lWt cWt kWt
  have bWt := FWt.binds (ps := ["thing"]) fun _ _ _ _ _ _ us hl => match us, hl with | [_], _ => rfl
  have FOn := fun_mk (st := sOn) lOn cOn kOn
  have bOn := FOn.binds (ps := ["scale", "thing"]) fun _ _ _ _ _ _ us hl => match us, hl with | [_, _], _ => rfl
  have FCh := fun_mk (st := sCh) lCh cCh kCh
  have bCh := FCh.binds (ps := ["what", "so"]) fun _ _ _ _ _ _ us hl => match us, hl with | [_, _], _ => rfl
  have FPw := fun_mk (st := sPw) lPw cPw kPw
  have bPw := FPw.binds (ps := ["base", "exponent"]) fun _ _ _ _ _ _ us hl => match us, hl with | [_, _], _ => rfl
  have FMid := fun_mk (st := sMid) lMid cMid kMid
  have bMid := FMid.binds (ps := ["numbers", "weights"]) fun _ _ _ _ _ _ us hl => match us, hl with | [_, _], _ => rfl
  have FWh := fun_mk (st := sWh) lWh cWh kWh
  have bWh := FWh.binds (ps := ["thing"]) fun _ _ _ _ _ _ us hl => match us, hl with | [_], _ => rfl
  have FFr := fun_mk (st := sFr) lFr cFr kFr
  have bFr := FFr.binds (ps := ["top", "bottom"]) fun _ _ _ _ _ _ us hl => match us, hl with | [_, _], _ => rfl
  have FSl := fun_mk (st := sSl) lSl cSl kSl
  have bSl := FSl.binds (ps := ["scale", "top", "bottom", "off"]) fun _ _ _ _ _ _ us hl => match us, hl with | [_, _, _, _], _ => rfl
  have FAw := fun_mk (st := sAw) lAw cAw kAw
  have bAw := FAw.binds (ps := ["scale", "top", "bottom", "off", "own"]) fun _ _ _ _ _ _ us hl => match us, hl with | [_, _, _, _, _], _ => rfl
  have FNm := fun_mk (st := sNm) lNm cNm kNm
  have bNm := FNm.binds (ps := ["thing"]) fun _ _ _ _ _ _ us hl => match us, hl with | [_], _ => rfl
  have FCell := fun_mk (st := sCell) lCell cCell kCell
  have bCell := FCell.binds (ps := ["_law_script", "_law_k"]) fun _ _ _ _ _ _ us hl => match us, hl with | [_, _], _ => rfl
  have FStr := fun_mk (st := sStr) lStr cStr kStr
  have bStr := FStr.binds (ps := ["_law_cell", "_law_many"]) fun _ _ _ _ _ _ us hl => match us, hl with | [_, _], _ => rfl
  have FRul := fun_mk (st := sRul) lRul cRul kRul
  have bRul := FRul.binds (ps := ["_law_script"]) fun _ _ _ _ _ _ us hl => match us, hl with | [_], _ => rfl
  have FCells := fun_mk (st := sCells) lCells cCells kCells
  have bCells := FCells.binds (ps := ["_law_script", "_law_first"]) fun _ _ _ _ _ _ us hl => match us, hl with | [_, _], _ => rfl
  have FNms := fun_mk (st := sNms) lNms cNms kNms
  have bNms := FNms.binds (ps := ["_law_cell", "_law_many"]) fun _ _ _ _ _ _ us hl => match us, hl with | [_, _], _ => rfl
  have FSaid := fun_mk (st := sSaid) lSaid cSaid kSaid
  have bSaid := FSaid.binds (ps := ["_law_there", "_law_numbers", "_law_scale"]) fun _ _ _ _ _ _ us hl => match us, hl with | [_, _, _], _ => rfl
  have FDeeds := fun_mk (st := sDeeds) lDeeds cDeeds kDeeds
  have bDeeds := FDeeds.binds (ps := ["_law_cells_here", "_law_names_here", "_law_scale"]) fun _ _ _ _ _ _ us hl => match us, hl with | [_, _, _], _ => rfl
  have FMidL := fun_mk (st := sMidL) lMidL cMidL kMidL
  have bMidL := FMidL.binds (ps := ["_law_pairs"]) fun _ _ _ _ _ _ us hl => match us, hl with | [_], _ => rfl
  have FTurn := fun_mk (st := sTurn) lTurn cTurn kTurn
  have bTurn := FTurn.binds (ps := ["_law_said_here", "_law_scale"]) fun _ _ _ _ _ _ us hl => match us, hl with | [_, _], _ => rfl
  have FTold := fun_mk (st := sTold) lTold cTold kTold
  have bTold := FTold.binds (ps := ["_law_book", "_law_said_here"]) fun _ _ _ _ _ _ us hl => match us, hl with | [_, _], _ => rfl
  have FStill := fun_mk (st := sStill) lStill cStill kStill
  have bStill := FStill.binds (ps := ["_law_book", "_law_said_here"]) fun _ _ _ _ _ _ us hl => match us, hl with | [_, _], _ => rfl
  have FLaw := fun_mk (st := sLaw) lLaw cLaw kLaw
  have bLaw := FLaw.binds (ps := ["_law_script"]) fun _ _ _ _ _ _ us hl => match us, hl with | [_], _ => rfl
  have FInit := fun_mk (st := sInit) lInit cInit kInit
  have bInit := FInit.binds (ps := ["self", "scale", "top", "bottom"]) fun _ _ _ _ _ _ us hl => match us, hl with | [_, _, _, _], _ => rfl
  have FCome := fun_mk (st := sCome) lCome cCome kCome
  have bCome := FCome.binds (ps := ["self", "name"]) fun _ _ _ _ _ _ us hl => match us, hl with | [_, _], _ => rfl
  have FGo := fun_mk (st := sGo) lGo cGo kGo
  have bGo := FGo.binds (ps := ["self", "name"]) fun _ _ _ _ _ _ us hl => match us, hl with | [_, _], _ => rfl
  have FThere := fun_mk (st := sThere) lThere cThere kThere
  have bThere := FThere.binds (ps := ["self"]) fun _ _ _ _ _ _ us hl => match us, hl with | [_], _ => rfl
  have FCheck := fun_mk (st := sCheck) lCheck cCheck kCheck
  have bCheck := FCheck.binds (ps := ["self", "said"]) fun _ _ _ _ _ _ us hl => match us, hl with | [_, _], _ => rfl
  have FSay := fun_mk (st := sSay) lSay cSay kSay
  have bSay := FSay.binds (ps := ["self", "said"]) fun _ _ _ _ _ _ us hl => match us, hl with | [_, _], _ => rfl
  have FHear := fun_mk (st := sHear) lHear cHear kHear
  have bHear := FHear.binds (ps := ["self", "said", "so"]) fun _ _ _ _ _ _ us hl => match us, hl with | [_, _, _], _ => rfl
  have FWei := fun_mk (st := sWei) lWei cWei kWei
  have bWei := FWei.binds (ps := ["self"]) fun _ _ _ _ _ _ us hl => match us, hl with | [_], _ => rfl
  refine ⟨PySem.W.fnOf "law" "law" (defArgs sLaw) (defBody sLaw) (defScope sLaw) .none kVLaw dcLaw pmLaw anLaw cdLaw ctLaw, fun s v => .of_eq rfl, fun base _ _ => ?_⟩
  have cWt := cal_of (P := l.prog) (w := w) (base := base) (ok_wt FWt T) (PySem.W.mg_of X G aWt) kWt bWt
  have cOn := cal_of (P := l.prog) (w := w) (base := base) (ok_on FOn T cWt) (PySem.W.mg_of X G aOn) kOn bOn
  have cCh := cal_of (P := l.prog) (w := w) (base := base) (ok_ch FCh T) (PySem.W.mg_of X G aCh) kCh bCh
  have cPw := cal_of (P := l.prog) (w := w) (base := base) (ok_pw FPw T) (PySem.W.mg_of X G aPw) kPw bPw
  have cMid := cal_of (P := l.prog) (w := w) (base := base) (ok_mid FMid T) (PySem.W.mg_of X G aMid) kMid bMid
  have cWh := cal_of (P := l.prog) (w := w) (base := base) (ok_wh FWh T) (PySem.W.mg_of X G aWh) kWh bWh
  have cFr := cal_of (P := l.prog) (w := w) (base := base) (ok_fr FFr T cWh) (PySem.W.mg_of X G aFr) kFr bFr
  have cSl := cal_of (P := l.prog) (w := w) (base := base) (ok_sl FSl T cPw) (PySem.W.mg_of X G aSl) kSl bSl
  have cAw := cal_of (P := l.prog) (w := w) (base := base) (ok_aw FAw T cPw) (PySem.W.mg_of X G aAw) kAw bAw
  have cNm := cal_of (P := l.prog) (w := w) (base := base) (ok_nm FNm T) (PySem.W.mg_of X G aNm) kNm bNm
  have cCell := cal_of (P := l.prog) (w := w) (base := base) (ok_cell FCell T) (PySem.W.mg_of X G aCell) kCell bCell
  have cStr := cal_of (P := l.prog) (w := w) (base := base) (ok_str FStr T) (PySem.W.mg_of X G aStr) kStr bStr
  have cRul := cal_of (P := l.prog) (w := w) (base := base) (ok_rul FRul T cCell) (PySem.W.mg_of X G aRul) kRul bRul
  have cCells := cal_of (P := l.prog) (w := w) (base := base) (ok_cells FCells T cCell cStr) (PySem.W.mg_of X G aCells) kCells bCells
  have cNms := cal_of (P := l.prog) (w := w) (base := base) (ok_nms FNms T) (PySem.W.mg_of X G aNms) kNms bNms
  have cSaid := cal_of (P := l.prog) (w := w) (base := base) (ok_said FSaid T) (PySem.W.mg_of X G aSaid) kSaid bSaid
  have cDeeds := cal_of (P := l.prog) (w := w) (base := base) (ok_deeds FDeeds T cStr cSaid) (PySem.W.mg_of X G aDeeds) kDeeds bDeeds
  have cMidL := cal_of (P := l.prog) (w := w) (base := base) (ok_midL FMidL T) (PySem.W.mg_of X G aMidL) kMidL bMidL
  have cTurn := cal_of (P := l.prog) (w := w) (base := base) (ok_turn FTurn T) (PySem.W.mg_of X G aTurn) kTurn bTurn
  have mkB := mak_of (x := "Book") (P := l.prog) (w := w) (base := base) ⟨mk, aInit, iInit, kc⟩ (ok_init FInit T cWt cFr) (PySem.W.mg_of X G aB) bInit
  have mThere := met_of (P := l.prog) (w := w) (base := base) T.cl (ok_there FThere T) ⟨aThere, iThere, kThere⟩ bThere
  have mCome := met_of (P := l.prog) (w := w) (base := base) T.cl (ok_come FCome T cNm) ⟨aCome, iCome, kCome⟩ bCome
  have mGo := met_of (P := l.prog) (w := w) (base := base) T.cl (ok_go FGo T mThere) ⟨aGo, iGo, kGo⟩ bGo
  have mCheck := met_of (P := l.prog) (w := w) (base := base) T.cl (ok_check FCheck T cOn) ⟨aCheck, iCheck, kCheck⟩ bCheck
  have mSay := met_of (P := l.prog) (w := w) (base := base) T.cl (ok_say FSay T mCheck cMid) ⟨aSay, iSay, kSay⟩ bSay
  have mHear := met_of (P := l.prog) (w := w) (base := base) T.cl (ok_hear FHear T mCheck mSay cOn cCh cSl cAw) ⟨aHear, iHear, kHear⟩ bHear
  have mWei := met_of (P := l.prog) (w := w) (base := base) T.cl (ok_wei FWei T) ⟨aWei, iWei, kWei⟩ bWei
  have cTold := cal_of (P := l.prog) (w := w) (base := base) (ok_told FTold T mSay) (PySem.W.mg_of X G aTold) kTold bTold
  have cStill := cal_of (P := l.prog) (w := w) (base := base) (ok_still FStill T mWei cTold cMidL) (PySem.W.mg_of X G aStill) kStill bStill
  exact ok_law FLaw T cRul cCell cNms cCells cDeeds cTold cStill cMidL cTurn mkB mCome mGo mWei mHear
theorem walk {l : PySem.W.OpenLaw} {q : Program} {loose : List Str} {XP : (Str → Option Value) → Heap → Prop} {YP : World → Heap → Prop} {d : DefRec} {K : Params → PySem.W.Frag} (hn : l.most = some 63) (hdf : d.params.defaults = [])
    (hY : ∀ (w : World) (h : Heap), YP w h → (K w.params).In h)
    (F : ∀ (w : World) (mg : Str → Option Value) (fa : Addr) (h : Heap), (K w.params).In h → h.Ns mainGlobals mg → mg d.name = some (.ref fa) →
      ∃ fd : FuncData, (∀ (s : Shared) (u : Value), BindsTo s fd ⟨[u], []⟩ [("_law_script", u)]) ∧ ∀ base : Heap, (K w.params).In base → base.Ns mainGlobals mg → FnOk l.prog w (K w.params) mg base CX0 7 fa fd ["_law_script"] (spLaw (K w.params))) :
    PySem.W.WalkO q loose XP YP l.row.toRowW d [] (fun f vs => PySem.call f vs) :=
  L2.walk_of (n := 63) (k := 7) (x := "_law_script") (CX := fun _ => CX0) (sp := fun w => spLaw (K w.params)) hn (by decide) hdf ⟨rfl, by decide, by decide⟩ hY F (fun _ _ a ns hl _ hS => ⟨a, ns, rfl, hS, hl, fun _ => rfl⟩) fun _ _ _ _ _ z => z
end K8

set_option Elab.async false
set_option maxRecDepth 100000
open PySem PySem.W PyProof.Rows in
set_option maxRecDepth 100000 in
set_option maxHeartbeats 0 in
theorem PySem.Challenge.cw_heedwise_k81_what_a_book_says_holds : PySem.Challenge.rw_heedwise_k81_what_a_book_says.Holds := by
  w_on; o_law; k_head; (case hw => w_witness2)
  k_fill
  refine K8.walk (l := PySem.Challenge.rw_heedwise_k81_what_a_book_says) rfl rfl (fun w h Y => PySem.W.kIn_of Y) ?F
  case F =>
    intro w mg fa h KX G hmg
    refine' K8.all_mk KX G hmg ?aWt ?lWt ?cWt ?kWt ?aOn ?lOn ?cOn ?kOn ?aCh ?lCh ?cCh ?kCh ?aPw ?lPw ?cPw ?kPw ?aMid ?lMid ?cMid ?kMid ?aWh ?lWh ?cWh ?kWh ?aFr ?lFr ?cFr ?kFr ?aSl ?lSl ?cSl ?kSl ?aAw ?lAw ?cAw ?kAw ?aNm ?lNm ?cNm ?kNm ?aCell ?lCell ?cCell ?kCell ?aStr ?lStr ?cStr ?kStr ?aRul ?lRul ?cRul ?kRul ?aCells ?lCells ?cCells ?kCells ?aNms ?lNms ?cNms ?kNms ?aSaid ?lSaid ?cSaid ?kSaid ?aDeeds ?lDeeds ?cDeeds ?kDeeds ?aMidL ?lMidL ?cMidL ?kMidL ?aTurn ?lTurn ?cTurn ?kTurn ?aTold ?lTold ?cTold ?kTold ?aStill ?lStill ?cStill ?kStill ?aLaw ?lLaw ?cLaw ?kLaw ?aB ?aInit ?iInit ?lInit ?cInit ?kInit ?aCome ?iCome ?lCome ?cCome ?kCome ?aGo ?iGo ?lGo ?cGo ?kGo ?aThere ?iThere ?lThere ?cThere ?kThere ?aCheck ?iCheck ?lCheck ?cCheck ?kCheck ?aSay ?iSay ?lSay ?cSay ?kSay ?aHear ?iHear ?lHear ?cHear ?kHear ?aWei ?iWei ?lWei ?cWei ?kWei ?pg ?hd ?po ?sa ?mk ?kc ?t_scale ?t_top ?t_bottom ?t_tops ?t_under ?t_came ?n_len ?n_sum ?n_sorted ?n_all ?n_abs ?n_isinstance ?n_tuple ?n_list ?n_dict ?n_int ?n_str ?n_bool ?n_range ?n_zip ?gL ?gM
    (case aWt => k_is)
    (case lWt => k_is)
    (case cWt => k_is)
    (case kWt => k_is)
    (case aOn => k_is)
    (case lOn => k_is)
    (case cOn => k_is)
    (case kOn => k_is)
    (case aCh => k_is)
    (case lCh => k_is)
    (case cCh => k_is)
    (case kCh => k_is)
    (case aPw => k_is)
    (case lPw => k_is)
    (case cPw => k_is)
    (case kPw => k_is)
    (case aMid => k_is)
    (case lMid => k_is)
    (case cMid => k_is)
    (case kMid => k_is)
    (case aWh => k_is)
    (case lWh => k_is)
    (case cWh => k_is)
    (case kWh => k_is)
    (case aFr => k_is)
    (case lFr => k_is)
    (case cFr => k_is)
    (case kFr => k_is)
    (case aSl => k_is)
    (case lSl => k_is)
    (case cSl => k_is)
    (case kSl => k_is)
    (case aAw => k_is)
    (case lAw => k_is)
    (case cAw => k_is)
    (case kAw => k_is)
    (case aNm => k_is)
    (case lNm => k_is)
    (case cNm => k_is)
    (case kNm => k_is)
    (case aCell => k_is)
    (case lCell => k_is)
    (case cCell => k_is)
    (case kCell => k_is)
    (case aStr => k_is)
    (case lStr => k_is)
    (case cStr => k_is)
    (case kStr => k_is)
    (case aRul => k_is)
    (case lRul => k_is)
    (case cRul => k_is)
    (case kRul => k_is)
    (case aCells => k_is)
    (case lCells => k_is)
    (case cCells => k_is)
    (case kCells => k_is)
    (case aNms => k_is)
    (case lNms => k_is)
    (case cNms => k_is)
    (case kNms => k_is)
    (case aSaid => k_is)
    (case lSaid => k_is)
    (case cSaid => k_is)
    (case kSaid => k_is)
    (case aDeeds => k_is)
    (case lDeeds => k_is)
    (case cDeeds => k_is)
    (case kDeeds => k_is)
    (case aMidL => k_is)
    (case lMidL => k_is)
    (case cMidL => k_is)
    (case kMidL => k_is)
    (case aTurn => k_is)
    (case lTurn => k_is)
    (case cTurn => k_is)
    (case kTurn => k_is)
    (case aTold => k_is)
    (case lTold => k_is)
    (case cTold => k_is)
    (case kTold => k_is)
    (case aStill => k_is)
    (case lStill => k_is)
    (case cStill => k_is)
    (case kStill => k_is)
    (case aLaw => k_is)
    (case lLaw => k_is)
    (case cLaw => k_is)
    (case kLaw => k_is)
    (case aB => k_is)
    (case aInit => k_is)
    (case iInit => k_is)
    (case lInit => k_is)
    (case cInit => k_is)
    (case kInit => k_is)
    (case aCome => k_is)
    (case iCome => k_is)
    (case lCome => k_is)
    (case cCome => k_is)
    (case kCome => k_is)
    (case aGo => k_is)
    (case iGo => k_is)
    (case lGo => k_is)
    (case cGo => k_is)
    (case kGo => k_is)
    (case aThere => k_is)
    (case iThere => k_is)
    (case lThere => k_is)
    (case cThere => k_is)
    (case kThere => k_is)
    (case aCheck => k_is)
    (case iCheck => k_is)
    (case lCheck => k_is)
    (case cCheck => k_is)
    (case kCheck => k_is)
    (case aSay => k_is)
    (case iSay => k_is)
    (case lSay => k_is)
    (case cSay => k_is)
    (case kSay => k_is)
    (case aHear => k_is)
    (case iHear => k_is)
    (case lHear => k_is)
    (case cHear => k_is)
    (case kHear => k_is)
    (case aWei => k_is)
    (case iWei => k_is)
    (case lWei => k_is)
    (case cWei => k_is)
    (case kWei => k_is)
    (case pg => k_is)
    (case hd => k_is)
    (case po => k_is)
    (case sa => k_is)
    (case mk => k_is)
    (case kc => k_is)
    (case t_scale => k_is)
    (case t_top => k_is)
    (case t_bottom => k_is)
    (case t_tops => k_is)
    (case t_under => k_is)
    (case t_came => k_is)
    (case n_len => k_is)
    (case n_sum => k_is)
    (case n_sorted => k_is)
    (case n_all => k_is)
    (case n_abs => k_is)
    (case n_isinstance => k_is)
    (case n_tuple => k_is)
    (case n_list => k_is)
    (case n_dict => k_is)
    (case n_int => k_is)
    (case n_str => k_is)
    (case n_bool => k_is)
    (case n_range => k_is)
    (case n_zip => k_is)
    (case gL => k_is)
    (case gM => k_is)
#print axioms PySem.Challenge.cw_heedwise_k81_what_a_book_says_holds


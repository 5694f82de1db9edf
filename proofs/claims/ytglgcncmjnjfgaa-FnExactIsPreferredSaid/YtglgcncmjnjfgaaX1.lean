/- Contracts of functions of the program (x1), each walked once. -/
import Derived.Test.YtglgcncmjnjfgaaProg
import Derived.Test.YtglgcncmjnjfgaaK1
set_option linter.unusedVariables false
set_option linter.unusedSimpArgs false
set_option maxRecDepth 4000
namespace Go.Proofs.Ytglgcncmjnjfgaa
open Go Go.Proofs Go.Sep
theorem ent11 : EnT prg 11 := fun args w => by
  have h := Try.func11
  simp [callFunc, h, Try.f11]
theorem ent12 : EnT prg 12 := fun args w => by
  have h := Try.func12
  simp [callFunc, h, Try.f12]
theorem ent13 : EnT prg 13 := fun args w => by
  have h := Try.func13
  simp [callFunc, h, Try.f13]
theorem ent14 : EnT prg 14 := fun args w => by
  have h := Try.func14
  simp [callFunc, h, Try.f14]
theorem ent15 : EnT prg 15 := fun args w => by
  have h := Try.func15
  simp [callFunc, h, Try.f15]


/-- laws.FnExactIsPreferred -/
theorem laws_FnExactIsPreferred (es : List (Int × Int)) (a b : Int) (he : es.length ≤ 9223372036854775807) : FnV prg 3 [edgesI es, intA a, intA b] (boolA true) := by
  refine fnV_of_T Try.func3 rfl rfl (Nat.le_of_ble_eq_true rfl) ?_
  simp only [entry, Nat.reduceAdd]
  refine T_seq ?_
  refine T_region ?_
  refine TO_cons rfl (TOp_pure (pur_assign rfl) rfl ?_)
  refine TO_nil ?_
  refine T_keep [0, 1, 2] ?_
  simp only [pick, List.map, lk, put, val, constA, entry, cellsOf, cellVal, cellVals, List.drop, List.take, List.append_assoc, List.nil_append, List.cons_append, List.singleton_append, List.length_cons, List.length_nil, List.set_cons_zero, List.set_cons_succ, setRow, setSub, spl, Root.under, List.getElem?_cons_zero, List.getElem?_cons_succ, List.map_cons, List.map_nil, reduceIte, Nat.reduceEqDiff, Nat.reduceAdd, Nat.reduceSub, Int.toNat_natCast, Nat.succ_ne_zero, Nat.zero_ne_one, Nat.one_ne_zero]
  refine T_seq ?_
  refine T_region ?_
  refine TO_cons rfl (TOp_pure (pur_assign rfl) rfl ?_)
  refine TO_nil ?_
  refine T_keep [0, 1, 2, 7] ?_
  simp only [pick, List.map, lk, put, val, constA, entry, cellsOf, cellVal, cellVals, List.drop, List.take, List.append_assoc, List.nil_append, List.cons_append, List.singleton_append, List.length_cons, List.length_nil, List.set_cons_zero, List.set_cons_succ, setRow, setSub, spl, Root.under, List.getElem?_cons_zero, List.getElem?_cons_succ, List.map_cons, List.map_nil, reduceIte, Nat.reduceEqDiff, Nat.reduceAdd, Nat.reduceSub, Int.toNat_natCast, Nat.succ_ne_zero, Nat.zero_ne_one, Nat.one_ne_zero]
  refine T_seq ?_
  refine T_region ?_
  refine TO_cons rfl (TOp_pure (pur_move rfl) rfl ?_)
  refine TO_cons rfl (TOp_pure (pur_move rfl) rfl ?_)
  refine TO_cons rfl (TOp_callV (call_static ent11 rfl) (laws_szConflictEdgeS _ _ (by first | assumption | omega | (simp_all; done) | (simp_all; omega)) (by first | assumption | omega | (simp_all; done) | (simp_all; omega)) (by first | assumption | omega | (simp_all; done) | (simp_all; omega))) rfl rfl rfl ?_)
  refine TO_cons rfl (TOp_pure (pur_assign rfl) rfl ?_)
  refine TO_nil ?_
  refine T_keep [0, 1, 2, 7] ?_
  simp only [pick, List.map, lk, put, val, constA, entry, cellsOf, cellVal, cellVals, List.drop, List.take, List.append_assoc, List.nil_append, List.cons_append, List.singleton_append, List.length_cons, List.length_nil, List.set_cons_zero, List.set_cons_succ, setRow, setSub, spl, Root.under, List.getElem?_cons_zero, List.getElem?_cons_succ, List.map_cons, List.map_nil, reduceIte, Nat.reduceEqDiff, Nat.reduceAdd, Nat.reduceSub, Int.toNat_natCast, Nat.succ_ne_zero, Nat.zero_ne_one, Nat.one_ne_zero]
  refine T_seq ?_
  refine T_seq ?_
  refine T_region ?_
  refine TO_cons rfl (TOp_pure (pur_move rfl) rfl ?_)
  refine TO_cons rfl (TOp_pure (pur_lss rfl rfl rfl) rfl ?_)
  refine TO_nil ?_
  refine T_keep [0, 1, 2, 15] ?_
  simp only [pick, List.map, lk, put, val, constA, entry, cellsOf, cellVal, cellVals, List.drop, List.take, List.append_assoc, List.nil_append, List.cons_append, List.singleton_append, List.length_cons, List.length_nil, List.set_cons_zero, List.set_cons_succ, setRow, setSub, spl, Root.under, List.getElem?_cons_zero, List.getElem?_cons_succ, List.map_cons, List.map_nil, reduceIte, Nat.reduceEqDiff, Nat.reduceAdd, Nat.reduceSub, Int.toNat_natCast, Nat.succ_ne_zero, Nat.zero_ne_one, Nat.one_ne_zero]
  refine T_cond rfl (fun c1 => ?_) (fun c1 => ?_)
  · try simp only [decide_eq_true_eq, decide_eq_false_iff_not, Bool.not_eq_true', Bool.not_eq_false', Int.not_lt, Int.not_le, Int.ofNat_lt, Int.ofNat_le, Int.ofNat_inj, ne_eq, Decidable.not_not] at c1
    refine T_seq ?_
    refine T_region ?_
    refine TO_cons rfl (TOp_pure (pur_assign rfl) rfl ?_)
    refine TO_nil ?_
    refine T_keep [6] ?_
    simp only [pick, List.map, lk, put, val, constA, entry, cellsOf, cellVal, cellVals, List.drop, List.take, List.append_assoc, List.nil_append, List.cons_append, List.singleton_append, List.length_cons, List.length_nil, List.set_cons_zero, List.set_cons_succ, setRow, setSub, spl, Root.under, List.getElem?_cons_zero, List.getElem?_cons_succ, List.map_cons, List.map_nil, reduceIte, Nat.reduceEqDiff, Nat.reduceAdd, Nat.reduceSub, Int.toNat_natCast, Nat.succ_ne_zero, Nat.zero_ne_one, Nat.one_ne_zero]
    refine T_ret ?_
    refine then_ret ?_
    refine end_ret (.tmp .nil) rfl rfl ⟨?_, rfl⟩
    first | rfl | (simp only [resA, lk, reduceIte, Nat.reduceEqDiff]; first | rfl | (simp_all; done) | (simp_all; omega))
  · try simp only [decide_eq_true_eq, decide_eq_false_iff_not, Bool.not_eq_true', Bool.not_eq_false', Int.not_lt, Int.not_le, Int.ofNat_lt, Int.ofNat_le, Int.ofNat_inj, ne_eq, Decidable.not_not] at c1
    have hle : es.length ≤ 1048576 := by
      split at c1 <;> omega
    refine T_skip ?_
    refine T_seq ?_
    refine T_region ?_
    refine TO_cons rfl (TOp_pure (pur_move rfl) rfl ?_)
    refine TO_cons rfl (TOp_callV (call_static ent13 rfl) (laws_toConflictEdgeS _ (by first | assumption | omega | (simp_all; done) | (simp_all; omega))) rfl rfl rfl ?_)
    refine TO_cons rfl (TOp_pure (pur_move rfl) rfl ?_)
    refine TO_cons rfl (TOp_pure (pur_move rfl) rfl ?_)
    refine TO_cons rfl (TOp_callV (call_static ent12 rfl) (spec_IsPreferred _ _ _ (by first | assumption | omega | (simp_all; done) | (simp_all; omega))) rfl rfl rfl ?_)
    refine TO_cons rfl (TOp_pure (pur_assign rfl) rfl ?_)
    refine TO_nil ?_
    refine T_keep [0, 1, 2, 8] ?_
    simp only [pick, List.map, lk, put, val, constA, entry, cellsOf, cellVal, cellVals, List.drop, List.take, List.append_assoc, List.nil_append, List.cons_append, List.singleton_append, List.length_cons, List.length_nil, List.set_cons_zero, List.set_cons_succ, setRow, setSub, spl, Root.under, List.getElem?_cons_zero, List.getElem?_cons_succ, List.map_cons, List.map_nil, reduceIte, Nat.reduceEqDiff, Nat.reduceAdd, Nat.reduceSub, Int.toNat_natCast, Nat.succ_ne_zero, Nat.zero_ne_one, Nat.one_ne_zero]
    refine T_seq ?_
    refine T_region ?_
    refine TO_cons rfl (TOp_pure (pur_move rfl) rfl ?_)
    refine TO_cons rfl (TOp_callV (call_static ent13 rfl) (laws_toConflictEdgeS _ (by first | assumption | omega | (simp_all; done) | (simp_all; omega))) rfl rfl rfl ?_)
    refine TO_cons rfl (TOp_pure (pur_assign rfl) rfl ?_)
    refine TO_nil ?_
    refine T_keep [0, 1, 2, 8, 9] ?_
    simp only [pick, List.map, lk, put, val, constA, entry, cellsOf, cellVal, cellVals, List.drop, List.take, List.append_assoc, List.nil_append, List.cons_append, List.singleton_append, List.length_cons, List.length_nil, List.set_cons_zero, List.set_cons_succ, setRow, setSub, spl, Root.under, List.getElem?_cons_zero, List.getElem?_cons_succ, List.map_cons, List.map_nil, reduceIte, Nat.reduceEqDiff, Nat.reduceAdd, Nat.reduceSub, Int.toNat_natCast, Nat.succ_ne_zero, Nat.zero_ne_one, Nat.one_ne_zero]
    refine T_seq ?_
    refine T_region ?_
    refine TO_cons rfl (TOp_pure (pur_move rfl) rfl ?_)
    refine TO_cons rfl (TOp_pure (pur_move rfl) rfl ?_)
    refine TO_cons rfl (TOp_pure (pur_move rfl) rfl ?_)
    refine TO_cons rfl (TOp_callV (call_static ent14 rfl) (impl_IsPreferred _ _ _ (by first | assumption | omega | (simp_all; done) | (simp_all; omega))) rfl rfl rfl ?_)
    refine TO_cons rfl (TOp_pure (pur_assign rfl) rfl ?_)
    refine TO_nil ?_
    refine T_keep [0, 8, 9, 10] ?_
    simp only [pick, List.map, lk, put, val, constA, entry, cellsOf, cellVal, cellVals, List.drop, List.take, List.append_assoc, List.nil_append, List.cons_append, List.singleton_append, List.length_cons, List.length_nil, List.set_cons_zero, List.set_cons_succ, setRow, setSub, spl, Root.under, List.getElem?_cons_zero, List.getElem?_cons_succ, List.map_cons, List.map_nil, reduceIte, Nat.reduceEqDiff, Nat.reduceAdd, Nat.reduceSub, Int.toNat_natCast, Nat.succ_ne_zero, Nat.zero_ne_one, Nat.one_ne_zero]
    refine T_seq ?_
    refine T_seq ?_
    refine T_region ?_
    refine TO_cons rfl (TOp_pure (pur_move rfl) rfl ?_)
    refine TO_cons rfl (TOp_pure (pur_move rfl) rfl ?_)
    refine TO_cons rfl (TOp_pure (pur_neqB (by kernel_rfl) rfl rfl rfl) rfl ?_)
    refine TO_nil ?_
    refine T_keep [0, 9, 29] ?_
    simp only [pick, List.map, lk, put, val, constA, entry, cellsOf, cellVal, cellVals, List.drop, List.take, List.append_assoc, List.nil_append, List.cons_append, List.singleton_append, List.length_cons, List.length_nil, List.set_cons_zero, List.set_cons_succ, setRow, setSub, spl, Root.under, List.getElem?_cons_zero, List.getElem?_cons_succ, List.map_cons, List.map_nil, reduceIte, Nat.reduceEqDiff, Nat.reduceAdd, Nat.reduceSub, Int.toNat_natCast, Nat.succ_ne_zero, Nat.zero_ne_one, Nat.one_ne_zero]
    refine T_cond rfl (fun c2 => ?_) (fun c2 => ?_)
    · try simp only [decide_eq_true_eq, decide_eq_false_iff_not, Bool.not_eq_true', Bool.not_eq_false', Int.not_lt, Int.not_le, Int.ofNat_lt, Int.ofNat_le, Int.ofNat_inj, ne_eq, Decidable.not_not] at c2
      exfalso
      revert c2
      rw [any_mem]
      simp
    · try simp only [decide_eq_true_eq, decide_eq_false_iff_not, Bool.not_eq_true', Bool.not_eq_false', Int.not_lt, Int.not_le, Int.ofNat_lt, Int.ofNat_le, Int.ofNat_inj, ne_eq, Decidable.not_not] at c2
      refine T_skip ?_
      refine T_seq ?_
      refine T_seq ?_
      refine T_region ?_
      refine TO_cons rfl (TOp_pure (pur_move rfl) rfl ?_)
      refine TO_cons rfl (TOp_pure (pur_move rfl) rfl ?_)
      refine TO_cons rfl (TOp_callV (call_static ent13 rfl) (laws_toConflictEdgeS _ (by first | assumption | omega | (simp_all; done) | (simp_all; omega))) rfl rfl rfl ?_)
      refine TO_cons rfl (TOp_callV (call_static ent15 rfl) (laws_eqConflictEdgeS _ _ (by first | assumption | omega | (simp_all; done) | (simp_all; omega)) (by first | assumption | omega | (simp_all; done) | (simp_all; omega))) rfl rfl rfl ?_)
      refine TO_cons rfl (TOp_pure (pur_not rfl rfl) rfl ?_)
      refine TO_nil ?_
      refine T_keep [34] ?_
      simp only [pick, List.map, lk, put, val, constA, entry, cellsOf, cellVal, cellVals, List.drop, List.take, List.append_assoc, List.nil_append, List.cons_append, List.singleton_append, List.length_cons, List.length_nil, List.set_cons_zero, List.set_cons_succ, setRow, setSub, spl, Root.under, List.getElem?_cons_zero, List.getElem?_cons_succ, List.map_cons, List.map_nil, reduceIte, Nat.reduceEqDiff, Nat.reduceAdd, Nat.reduceSub, Int.toNat_natCast, Nat.succ_ne_zero, Nat.zero_ne_one, Nat.one_ne_zero]
      refine T_cond rfl (fun c3 => ?_) (fun c3 => ?_)
      · try simp only [decide_eq_true_eq, decide_eq_false_iff_not, Bool.not_eq_true', Bool.not_eq_false', Int.not_lt, Int.not_le, Int.ofNat_lt, Int.ofNat_le, Int.ofNat_inj, ne_eq, Decidable.not_not] at c3
        exfalso
        simp at c3
      · try simp only [decide_eq_true_eq, decide_eq_false_iff_not, Bool.not_eq_true', Bool.not_eq_false', Int.not_lt, Int.not_le, Int.ofNat_lt, Int.ofNat_le, Int.ofNat_inj, ne_eq, Decidable.not_not] at c3
        refine T_skip ?_
        refine T_seq ?_
        refine T_region ?_
        refine TO_cons rfl (TOp_pure (pur_assign rfl) rfl ?_)
        refine TO_nil ?_
        refine T_keep [6] ?_
        simp only [pick, List.map, lk, put, val, constA, entry, cellsOf, cellVal, cellVals, List.drop, List.take, List.append_assoc, List.nil_append, List.cons_append, List.singleton_append, List.length_cons, List.length_nil, List.set_cons_zero, List.set_cons_succ, setRow, setSub, spl, Root.under, List.getElem?_cons_zero, List.getElem?_cons_succ, List.map_cons, List.map_nil, reduceIte, Nat.reduceEqDiff, Nat.reduceAdd, Nat.reduceSub, Int.toNat_natCast, Nat.succ_ne_zero, Nat.zero_ne_one, Nat.one_ne_zero]
        refine T_ret ?_
        refine end_ret (.tmp .nil) rfl rfl ⟨?_, rfl⟩
        first | rfl | (simp only [resA, lk, reduceIte, Nat.reduceEqDiff]; first | rfl | (simp_all; done) | (simp_all; omega))
end Go.Proofs.Ytglgcncmjnjfgaa

/- Contracts of functions of the program (x2), each walked once. -/
import Derived.Test.YtglgcncmjnjfgaaProg
import Derived.Test.YtglgcncmjnjfgaaK5
set_option linter.unusedVariables false
set_option linter.unusedSimpArgs false
set_option maxRecDepth 4000
namespace Go.Proofs.Ytglgcncmjnjfgaa
open Go Go.Proofs Go.Sep
theorem ent11 : EnT prg 11 := fun args w => by
  have h := Try.func11
  simp [callFunc, h, Try.f11]
theorem ent13 : EnT prg 13 := fun args w => by
  have h := Try.func13
  simp [callFunc, h, Try.f13]
theorem ent15 : EnT prg 15 := fun args w => by
  have h := Try.func15
  simp [callFunc, h, Try.f15]
theorem ent16 : EnT prg 16 := fun args w => by
  have h := Try.func16
  simp [callFunc, h, Try.f16]
theorem ent17 : EnT prg 17 := fun args w => by
  have h := Try.func17
  simp [callFunc, h, Try.f17]


/-- laws.FnExactIsValidPreference -/
theorem laws_FnExactIsValidPreference (n : Int) (es p : List (Int × Int)) (hn : -9223372036854775808 ≤ n ∧ n ≤ 9223372036854775807) (he : es.length ≤ 9223372036854775807) (hr : R64 es) (hp : p.length ≤ 9223372036854775807) : FnV prg 4 [intA n, edgesI es, edgesI p] (boolA true) := by
  refine fnV_of_T Try.func4 rfl rfl (Nat.le_of_ble_eq_true rfl) ?_
  simp only [entry, Nat.reduceAdd]
  refine T_seq ?_
  refine T_region ?_
  refine TO_cons rfl (TOp_pure (pur_assign rfl) rfl ?_)
  refine TO_nil ?_
  refine T_keep [0, 1, 2] ?_
  simp only [pick, List.map, lk, put, val, constA, entry, cellsOf, cellVal, cellVals, List.drop, List.take, List.append_assoc, List.nil_append, List.cons_append, List.singleton_append, List.length_cons, List.length_nil, List.set_cons_zero, List.set_cons_succ, setRow, setSub, spl, Root.under, List.getElem?_cons_zero, List.getElem?_cons_succ, List.map_cons, List.map_nil, reduceIte, Nat.reduceEqDiff, Nat.reduceAdd, Nat.reduceSub, Int.toNat_natCast, Nat.succ_ne_zero, Nat.zero_ne_one, Nat.one_ne_zero]
  refine T_seq ?_
  refine T_region ?_
  refine TO_cons rfl (TOp_pure (pur_assign rfl) rfl ?_)
  refine TO_nil ?_
  refine T_keep [0, 1, 2, 7] ?_
  simp only [pick, List.map, lk, put, val, constA, entry, cellsOf, cellVal, cellVals, List.drop, List.take, List.append_assoc, List.nil_append, List.cons_append, List.singleton_append, List.length_cons, List.length_nil, List.set_cons_zero, List.set_cons_succ, setRow, setSub, spl, Root.under, List.getElem?_cons_zero, List.getElem?_cons_succ, List.map_cons, List.map_nil, reduceIte, Nat.reduceEqDiff, Nat.reduceAdd, Nat.reduceSub, Int.toNat_natCast, Nat.succ_ne_zero, Nat.zero_ne_one, Nat.one_ne_zero]
  refine T_seq ?_
  refine T_region ?_
  refine TO_cons rfl (TOp_pure (pur_move rfl) rfl ?_)
  refine TO_cons rfl (TOp_pure (pur_move rfl) rfl ?_)
  refine TO_cons rfl (TOp_callV (call_static ent11 rfl) (laws_szConflictEdgeS _ _ (by first | assumption | omega | (simp_all; done) | (simp_all; omega)) (by first | assumption | omega | (simp_all; done) | (simp_all; omega)) (by first | assumption | omega | (simp_all; done) | (simp_all; omega))) rfl rfl rfl ?_)
  refine TO_cons rfl (TOp_pure (pur_assign rfl) rfl ?_)
  refine TO_nil ?_
  refine T_keep [0, 1, 2, 7] ?_
  simp only [pick, List.map, lk, put, val, constA, entry, cellsOf, cellVal, cellVals, List.drop, List.take, List.append_assoc, List.nil_append, List.cons_append, List.singleton_append, List.length_cons, List.length_nil, List.set_cons_zero, List.set_cons_succ, setRow, setSub, spl, Root.under, List.getElem?_cons_zero, List.getElem?_cons_succ, List.map_cons, List.map_nil, reduceIte, Nat.reduceEqDiff, Nat.reduceAdd, Nat.reduceSub, Int.toNat_natCast, Nat.succ_ne_zero, Nat.zero_ne_one, Nat.one_ne_zero]
  refine T_seq ?_
  refine T_seq ?_
  refine T_region ?_
  refine TO_cons rfl (TOp_pure (pur_move rfl) rfl ?_)
  refine TO_cons rfl (TOp_pure (pur_lss rfl rfl rfl) rfl ?_)
  refine TO_nil ?_
  refine T_keep [0, 1, 2, 7, 16] ?_
  simp only [pick, List.map, lk, put, val, constA, entry, cellsOf, cellVal, cellVals, List.drop, List.take, List.append_assoc, List.nil_append, List.cons_append, List.singleton_append, List.length_cons, List.length_nil, List.set_cons_zero, List.set_cons_succ, setRow, setSub, spl, Root.under, List.getElem?_cons_zero, List.getElem?_cons_succ, List.map_cons, List.map_nil, reduceIte, Nat.reduceEqDiff, Nat.reduceAdd, Nat.reduceSub, Int.toNat_natCast, Nat.succ_ne_zero, Nat.zero_ne_one, Nat.one_ne_zero]
  refine T_cond rfl (fun c1 => ?_) (fun c1 => ?_)
  · try simp only [decide_eq_true_eq, decide_eq_false_iff_not, Bool.not_eq_true', Bool.not_eq_false', Int.not_lt, Int.not_le, Int.ofNat_lt, Int.ofNat_le, Int.ofNat_inj, ne_eq, Decidable.not_not] at c1
    refine T_seq ?_
    refine T_region ?_
    refine TO_cons rfl (TOp_pure (pur_assign rfl) rfl ?_)
    refine TO_nil ?_
    refine T_keep [6] ?_
    simp only [pick, List.map, lk, put, val, constA, entry, cellsOf, cellVal, cellVals, List.drop, List.take, List.append_assoc, List.nil_append, List.cons_append, List.singleton_append, List.length_cons, List.length_nil, List.set_cons_zero, List.set_cons_succ, setRow, setSub, spl, Root.under, List.getElem?_cons_zero, List.getElem?_cons_succ, List.map_cons, List.map_nil, reduceIte, Nat.reduceEqDiff, Nat.reduceAdd, Nat.reduceSub, Int.toNat_natCast, Nat.succ_ne_zero, Nat.zero_ne_one, Nat.one_ne_zero]
    refine T_ret ?_
    refine then_ret ?_
    refine end_ret (.tmp .nil) rfl rfl ⟨?_, rfl⟩
    first | rfl | (simp only [resA, lk, reduceIte, Nat.reduceEqDiff]; first | rfl | (simp_all; done) | (simp_all; omega))
  · try simp only [decide_eq_true_eq, decide_eq_false_iff_not, Bool.not_eq_true', Bool.not_eq_false', Int.not_lt, Int.not_le, Int.ofNat_lt, Int.ofNat_le, Int.ofNat_inj, ne_eq, Decidable.not_not] at c1
    have hes : es.length ≤ 1048576 := by
      split at c1 <;> omega
    simp only [if_pos (show (es.length : Int) ≤ 1048576 by omega)]
    refine T_skip ?_
    refine T_seq ?_
    refine T_region ?_
    refine TO_cons rfl (TOp_pure (pur_move rfl) rfl ?_)
    refine TO_cons rfl (TOp_pure (pur_move rfl) rfl ?_)
    refine TO_cons rfl (TOp_callV (call_static ent11 rfl) (laws_szConflictEdgeS _ _ (by first | assumption | omega | (simp_all; done) | (simp_all; omega)) (by first | assumption | omega | (simp_all; done) | (simp_all; omega)) (by first | assumption | omega | (simp_all; done) | (simp_all; omega))) rfl rfl rfl ?_)
    refine TO_cons rfl (TOp_pure (pur_assign rfl) rfl ?_)
    refine TO_nil ?_
    refine T_keep [0, 1, 2, 7] ?_
    simp only [pick, List.map, lk, put, val, constA, entry, cellsOf, cellVal, cellVals, List.drop, List.take, List.append_assoc, List.nil_append, List.cons_append, List.singleton_append, List.length_cons, List.length_nil, List.set_cons_zero, List.set_cons_succ, setRow, setSub, spl, Root.under, List.getElem?_cons_zero, List.getElem?_cons_succ, List.map_cons, List.map_nil, reduceIte, Nat.reduceEqDiff, Nat.reduceAdd, Nat.reduceSub, Int.toNat_natCast, Nat.succ_ne_zero, Nat.zero_ne_one, Nat.one_ne_zero]
    refine T_seq ?_
    refine T_seq ?_
    refine T_region ?_
    refine TO_cons rfl (TOp_pure (pur_move rfl) rfl ?_)
    refine TO_cons rfl (TOp_pure (pur_lss rfl rfl rfl) rfl ?_)
    refine TO_nil ?_
    refine T_keep [0, 1, 2, 21] ?_
    simp only [pick, List.map, lk, put, val, constA, entry, cellsOf, cellVal, cellVals, List.drop, List.take, List.append_assoc, List.nil_append, List.cons_append, List.singleton_append, List.length_cons, List.length_nil, List.set_cons_zero, List.set_cons_succ, setRow, setSub, spl, Root.under, List.getElem?_cons_zero, List.getElem?_cons_succ, List.map_cons, List.map_nil, reduceIte, Nat.reduceEqDiff, Nat.reduceAdd, Nat.reduceSub, Int.toNat_natCast, Nat.succ_ne_zero, Nat.zero_ne_one, Nat.one_ne_zero]
    refine T_cond rfl (fun c2 => ?_) (fun c2 => ?_)
    · try simp only [decide_eq_true_eq, decide_eq_false_iff_not, Bool.not_eq_true', Bool.not_eq_false', Int.not_lt, Int.not_le, Int.ofNat_lt, Int.ofNat_le, Int.ofNat_inj, ne_eq, Decidable.not_not] at c2
      refine T_seq ?_
      refine T_region ?_
      refine TO_cons rfl (TOp_pure (pur_assign rfl) rfl ?_)
      refine TO_nil ?_
      refine T_keep [6] ?_
      simp only [pick, List.map, lk, put, val, constA, entry, cellsOf, cellVal, cellVals, List.drop, List.take, List.append_assoc, List.nil_append, List.cons_append, List.singleton_append, List.length_cons, List.length_nil, List.set_cons_zero, List.set_cons_succ, setRow, setSub, spl, Root.under, List.getElem?_cons_zero, List.getElem?_cons_succ, List.map_cons, List.map_nil, reduceIte, Nat.reduceEqDiff, Nat.reduceAdd, Nat.reduceSub, Int.toNat_natCast, Nat.succ_ne_zero, Nat.zero_ne_one, Nat.one_ne_zero]
      refine T_ret ?_
      refine then_ret ?_
      refine end_ret (.tmp .nil) rfl rfl ⟨?_, rfl⟩
      first | rfl | (simp only [resA, lk, reduceIte, Nat.reduceEqDiff]; first | rfl | (simp_all; done) | (simp_all; omega))
    · try simp only [decide_eq_true_eq, decide_eq_false_iff_not, Bool.not_eq_true', Bool.not_eq_false', Int.not_lt, Int.not_le, Int.ofNat_lt, Int.ofNat_le, Int.ofNat_inj, ne_eq, Decidable.not_not] at c2
      have hp : p.length ≤ 1048576 - es.length := by
        split at c2 <;> omega
      simp only [if_pos (show (p.length : Int) ≤ 1048576 - (es.length : Int) by omega)]
      refine T_skip ?_
      refine T_seq ?_
      refine T_region ?_
      refine TO_cons rfl (TOp_pure (pur_move rfl) rfl ?_)
      refine TO_cons rfl (TOp_pure (pur_move rfl) rfl ?_)
      refine TO_cons rfl (TOp_callV (call_static ent13 rfl) (laws_toConflictEdgeS _ (by first | assumption | omega | (simp_all; done) | (simp_all; omega))) rfl rfl rfl ?_)
      refine TO_cons rfl (TOp_pure (pur_move rfl) rfl ?_)
      refine TO_cons rfl (TOp_callV (call_static ent13 rfl) (laws_toConflictEdgeS _ (by first | assumption | omega | (simp_all; done) | (simp_all; omega))) rfl rfl rfl ?_)
      refine TO_cons rfl (TOp_callV (call_static ent16 rfl) (spec_IsValidPreference n es p (by omega) hr hn (by omega)) rfl rfl rfl ?_)
      refine TO_cons rfl (TOp_pure (pur_assign rfl) rfl ?_)
      refine TO_nil ?_
      refine T_keep [0, 1, 2, 8] ?_
      simp only [pick, List.map, lk, put, val, constA, entry, cellsOf, cellVal, cellVals, List.drop, List.take, List.append_assoc, List.nil_append, List.cons_append, List.singleton_append, List.length_cons, List.length_nil, List.set_cons_zero, List.set_cons_succ, setRow, setSub, spl, Root.under, List.getElem?_cons_zero, List.getElem?_cons_succ, List.map_cons, List.map_nil, reduceIte, Nat.reduceEqDiff, Nat.reduceAdd, Nat.reduceSub, Int.toNat_natCast, Nat.succ_ne_zero, Nat.zero_ne_one, Nat.one_ne_zero]
      refine T_seq ?_
      refine T_region ?_
      refine TO_cons rfl (TOp_pure (pur_move rfl) rfl ?_)
      refine TO_cons rfl (TOp_callV (call_static ent13 rfl) (laws_toConflictEdgeS _ (by first | assumption | omega | (simp_all; done) | (simp_all; omega))) rfl rfl rfl ?_)
      refine TO_cons rfl (TOp_pure (pur_assign rfl) rfl ?_)
      refine TO_nil ?_
      refine T_keep [0, 1, 2, 8, 9] ?_
      simp only [pick, List.map, lk, put, val, constA, entry, cellsOf, cellVal, cellVals, List.drop, List.take, List.append_assoc, List.nil_append, List.cons_append, List.singleton_append, List.length_cons, List.length_nil, List.set_cons_zero, List.set_cons_succ, setRow, setSub, spl, Root.under, List.getElem?_cons_zero, List.getElem?_cons_succ, List.map_cons, List.map_nil, reduceIte, Nat.reduceEqDiff, Nat.reduceAdd, Nat.reduceSub, Int.toNat_natCast, Nat.succ_ne_zero, Nat.zero_ne_one, Nat.one_ne_zero]
      refine T_seq ?_
      refine T_region ?_
      refine TO_cons rfl (TOp_pure (pur_move rfl) rfl ?_)
      refine TO_cons rfl (TOp_callV (call_static ent13 rfl) (laws_toConflictEdgeS _ (by first | assumption | omega | (simp_all; done) | (simp_all; omega))) rfl rfl rfl ?_)
      refine TO_cons rfl (TOp_pure (pur_assign rfl) rfl ?_)
      refine TO_nil ?_
      refine T_keep [0, 1, 2, 8, 9, 10] ?_
      simp only [pick, List.map, lk, put, val, constA, entry, cellsOf, cellVal, cellVals, List.drop, List.take, List.append_assoc, List.nil_append, List.cons_append, List.singleton_append, List.length_cons, List.length_nil, List.set_cons_zero, List.set_cons_succ, setRow, setSub, spl, Root.under, List.getElem?_cons_zero, List.getElem?_cons_succ, List.map_cons, List.map_nil, reduceIte, Nat.reduceEqDiff, Nat.reduceAdd, Nat.reduceSub, Int.toNat_natCast, Nat.succ_ne_zero, Nat.zero_ne_one, Nat.one_ne_zero]
      refine T_seq ?_
      refine T_region ?_
      refine TO_cons rfl (TOp_pure (pur_move rfl) rfl ?_)
      refine TO_cons rfl (TOp_pure (pur_move rfl) rfl ?_)
      refine TO_cons rfl (TOp_pure (pur_move rfl) rfl ?_)
      refine TO_cons rfl (TOp_callV (call_static ent17 rfl) (impl_IsValidPreference n es p (by omega) hr hn (by omega)) rfl rfl rfl ?_)
      refine TO_cons rfl (TOp_pure (pur_assign rfl) rfl ?_)
      refine TO_nil ?_
      refine T_keep [1, 2, 8, 9, 10, 11] ?_
      simp only [pick, List.map, lk, put, val, constA, entry, cellsOf, cellVal, cellVals, List.drop, List.take, List.append_assoc, List.nil_append, List.cons_append, List.singleton_append, List.length_cons, List.length_nil, List.set_cons_zero, List.set_cons_succ, setRow, setSub, spl, Root.under, List.getElem?_cons_zero, List.getElem?_cons_succ, List.map_cons, List.map_nil, reduceIte, Nat.reduceEqDiff, Nat.reduceAdd, Nat.reduceSub, Int.toNat_natCast, Nat.succ_ne_zero, Nat.zero_ne_one, Nat.one_ne_zero]
      refine T_seq ?_
      refine T_seq ?_
      refine T_region ?_
      refine TO_cons rfl (TOp_pure (pur_move rfl) rfl ?_)
      refine TO_cons rfl (TOp_pure (pur_move rfl) rfl ?_)
      refine TO_cons rfl (TOp_pure (pur_neqB (by kernel_rfl) rfl rfl rfl) rfl ?_)
      refine TO_nil ?_
      refine T_keep [1, 2, 9, 10, 38] ?_
      simp only [pick, List.map, lk, put, val, constA, entry, cellsOf, cellVal, cellVals, List.drop, List.take, List.append_assoc, List.nil_append, List.cons_append, List.singleton_append, List.length_cons, List.length_nil, List.set_cons_zero, List.set_cons_succ, setRow, setSub, spl, Root.under, List.getElem?_cons_zero, List.getElem?_cons_succ, List.map_cons, List.map_nil, reduceIte, Nat.reduceEqDiff, Nat.reduceAdd, Nat.reduceSub, Int.toNat_natCast, Nat.succ_ne_zero, Nat.zero_ne_one, Nat.one_ne_zero]
      refine T_cond rfl (fun c3 => ?_) (fun c3 => ?_)
      · try simp only [decide_eq_true_eq, decide_eq_false_iff_not, Bool.not_eq_true', Bool.not_eq_false', Int.not_lt, Int.not_le, Int.ofNat_lt, Int.ofNat_le, Int.ofNat_inj, ne_eq, Decidable.not_not] at c3
        simp at c3
      · try simp only [decide_eq_true_eq, decide_eq_false_iff_not, Bool.not_eq_true', Bool.not_eq_false', Int.not_lt, Int.not_le, Int.ofNat_lt, Int.ofNat_le, Int.ofNat_inj, ne_eq, Decidable.not_not] at c3
        refine T_skip ?_
        refine T_seq ?_
        refine T_seq ?_
        refine T_region ?_
        refine TO_cons rfl (TOp_pure (pur_move rfl) rfl ?_)
        refine TO_cons rfl (TOp_pure (pur_move rfl) rfl ?_)
        refine TO_cons rfl (TOp_callV (call_static ent13 rfl) (laws_toConflictEdgeS _ (by first | assumption | omega | (simp_all; done) | (simp_all; omega))) rfl rfl rfl ?_)
        refine TO_cons rfl (TOp_callV (call_static ent15 rfl) (laws_eqConflictEdgeS _ _ (by first | assumption | omega | (simp_all; done) | (simp_all; omega)) (by first | assumption | omega | (simp_all; done) | (simp_all; omega))) rfl rfl rfl ?_)
        refine TO_cons rfl (TOp_pure (pur_not rfl rfl) rfl ?_)
        refine TO_nil ?_
        refine T_keep [2, 10, 43] ?_
        simp only [pick, List.map, lk, put, val, constA, entry, cellsOf, cellVal, cellVals, List.drop, List.take, List.append_assoc, List.nil_append, List.cons_append, List.singleton_append, List.length_cons, List.length_nil, List.set_cons_zero, List.set_cons_succ, setRow, setSub, spl, Root.under, List.getElem?_cons_zero, List.getElem?_cons_succ, List.map_cons, List.map_nil, reduceIte, Nat.reduceEqDiff, Nat.reduceAdd, Nat.reduceSub, Int.toNat_natCast, Nat.succ_ne_zero, Nat.zero_ne_one, Nat.one_ne_zero]
        refine T_cond rfl (fun c4 => ?_) (fun c4 => ?_)
        · try simp only [decide_eq_true_eq, decide_eq_false_iff_not, Bool.not_eq_true', Bool.not_eq_false', Int.not_lt, Int.not_le, Int.ofNat_lt, Int.ofNat_le, Int.ofNat_inj, ne_eq, Decidable.not_not] at c4
          simp at c4
        · try simp only [decide_eq_true_eq, decide_eq_false_iff_not, Bool.not_eq_true', Bool.not_eq_false', Int.not_lt, Int.not_le, Int.ofNat_lt, Int.ofNat_le, Int.ofNat_inj, ne_eq, Decidable.not_not] at c4
          refine T_skip ?_
          refine T_seq ?_
          refine T_seq ?_
          refine T_region ?_
          refine TO_cons rfl (TOp_pure (pur_move rfl) rfl ?_)
          refine TO_cons rfl (TOp_pure (pur_move rfl) rfl ?_)
          refine TO_cons rfl (TOp_callV (call_static ent13 rfl) (laws_toConflictEdgeS _ (by first | assumption | omega | (simp_all; done) | (simp_all; omega))) rfl rfl rfl ?_)
          refine TO_cons rfl (TOp_callV (call_static ent15 rfl) (laws_eqConflictEdgeS _ _ (by first | assumption | omega | (simp_all; done) | (simp_all; omega)) (by first | assumption | omega | (simp_all; done) | (simp_all; omega))) rfl rfl rfl ?_)
          refine TO_cons rfl (TOp_pure (pur_not rfl rfl) rfl ?_)
          refine TO_nil ?_
          refine T_keep [48] ?_
          simp only [pick, List.map, lk, put, val, constA, entry, cellsOf, cellVal, cellVals, List.drop, List.take, List.append_assoc, List.nil_append, List.cons_append, List.singleton_append, List.length_cons, List.length_nil, List.set_cons_zero, List.set_cons_succ, setRow, setSub, spl, Root.under, List.getElem?_cons_zero, List.getElem?_cons_succ, List.map_cons, List.map_nil, reduceIte, Nat.reduceEqDiff, Nat.reduceAdd, Nat.reduceSub, Int.toNat_natCast, Nat.succ_ne_zero, Nat.zero_ne_one, Nat.one_ne_zero]
          refine T_cond rfl (fun c5 => ?_) (fun c5 => ?_)
          · try simp only [decide_eq_true_eq, decide_eq_false_iff_not, Bool.not_eq_true', Bool.not_eq_false', Int.not_lt, Int.not_le, Int.ofNat_lt, Int.ofNat_le, Int.ofNat_inj, ne_eq, Decidable.not_not] at c5
            simp at c5
          · try simp only [decide_eq_true_eq, decide_eq_false_iff_not, Bool.not_eq_true', Bool.not_eq_false', Int.not_lt, Int.not_le, Int.ofNat_lt, Int.ofNat_le, Int.ofNat_inj, ne_eq, Decidable.not_not] at c5
            refine T_skip ?_
            refine T_seq ?_
            refine T_region ?_
            refine TO_cons rfl (TOp_pure (pur_assign rfl) rfl ?_)
            refine TO_nil ?_
            refine T_keep [6] ?_
            simp only [pick, List.map, lk, put, val, constA, entry, cellsOf, cellVal, cellVals, List.drop, List.take, List.append_assoc, List.nil_append, List.cons_append, List.singleton_append, List.length_cons, List.length_nil, List.set_cons_zero, List.set_cons_succ, setRow, setSub, spl, Root.under, List.getElem?_cons_zero, List.getElem?_cons_succ, List.map_cons, List.map_nil, reduceIte, Nat.reduceEqDiff, Nat.reduceAdd, Nat.reduceSub, Int.toNat_natCast, Nat.succ_ne_zero, Nat.zero_ne_one, Nat.one_ne_zero]
            refine T_ret ?_
            refine end_ret (.tmp .nil) rfl rfl ⟨?_, rfl⟩
            first | rfl | (simp only [resA, lk, reduceIte, Nat.reduceEqDiff]; first | rfl | (simp_all; done) | (simp_all; omega))
end Go.Proofs.Ytglgcncmjnjfgaa

/- Contracts of functions of the program (x4), each walked once. -/
import Derived.Test.YtglgcncmjnjfgaaProg
import Derived.Test.YtglgcncmjnjfgaaK10
import Derived.Test.YtglgcncmjnjfgaaK9
set_option linter.unusedVariables false
set_option linter.unusedSimpArgs false
set_option maxRecDepth 4000
namespace Go.Proofs.Ytglgcncmjnjfgaa
open Go Go.Proofs Go.Sep
theorem ent11 : EnT prg 11 := fun args w => by
  have h := Try.func11
  simp [callFunc, h, Try.f11]
theorem ent13 : EnT prg 13 := fun args w => by
  have h := Try.func13
  simp [callFunc, h, Try.f13]
theorem ent15 : EnT prg 15 := fun args w => by
  have h := Try.func15
  simp [callFunc, h, Try.f15]
theorem ent18 : EnT prg 18 := fun args w => by
  have h := Try.func18
  simp [callFunc, h, Try.f18]
theorem ent19 : EnT prg 19 := fun args w => by
  have h := Try.func19
  simp [callFunc, h, Try.f19]
theorem ent20 : EnT prg 20 := fun args w => by
  have h := Try.func20
  simp [callFunc, h, Try.f20]
theorem ent21 : EnT prg 21 := fun args w => by
  have h := Try.func21
  simp [callFunc, h, Try.f21]
theorem ent22 : EnT prg 22 := fun args w => by
  have h := Try.func22
  simp [callFunc, h, Try.f22]
theorem ent23 : EnT prg 23 := fun args w => by
  have h := Try.func23
  simp [callFunc, h, Try.f23]
theorem ent24 : EnT prg 24 := fun args w => by
  have h := Try.func24
  simp [callFunc, h, Try.f24]


set_option maxHeartbeats 1000000 in
/-- laws.FnExactUndominatedFacts -/
theorem laws_FnExactUndominatedFacts (n : Int) (es p : List (Int × Int)) (s : List Int) (hn : -9223372036854775808 ≤ n ∧ n ≤ 9223372036854775807) (he : es.length ≤ 9223372036854775807) (hr : R64 es) (hp : p.length ≤ 9223372036854775807) (hs : s.length ≤ 9223372036854775807) : FnV prg 5 [intA n, edgesI es, edgesI p, .i 1 (ints s)] (boolA true) := by
  refine fnV_of_T Try.func5 rfl rfl (Nat.le_of_ble_eq_true rfl) ?_
  simp only [entry, Nat.reduceAdd]
  refine T_seq ?_
  refine T_region ?_
  refine TO_cons rfl (TOp_pure (pur_assign rfl) rfl ?_)
  refine TO_nil ?_
  refine T_keep [0, 1, 2, 3] ?_
  simp only [pick, List.map, lk, put, val, constA, entry, cellsOf, cellVal, cellVals, List.drop, List.take, List.append_assoc, List.nil_append, List.cons_append, List.singleton_append, List.length_cons, List.length_nil, List.set_cons_zero, List.set_cons_succ, setRow, setSub, spl, Root.under, List.getElem?_cons_zero, List.getElem?_cons_succ, List.map_cons, List.map_nil, reduceIte, Nat.reduceEqDiff, Nat.reduceAdd, Nat.reduceSub, Int.toNat_natCast, Nat.succ_ne_zero, Nat.zero_ne_one, Nat.one_ne_zero]
  refine T_seq ?_
  refine T_seq ?_
  refine T_region ?_
  refine TO_cons rfl (TOp_pure (pur_move rfl) rfl ?_)
  refine TO_cons rfl (TOp_pure (by first | exact pur_len sl31 rfl (by decide) rfl | exact pur_len_m sl31 rfl rfl | exact pur_len_n sl31 rfl rfl) rfl ?_)
  refine TO_cons rfl (TOp_pure (pur_gtr rfl rfl rfl) rfl ?_)
  refine TO_nil ?_
  refine T_keep [0, 1, 2, 3, 21] ?_
  simp only [pick, List.map, lk, put, val, constA, entry, cellsOf, cellVal, cellVals, List.drop, List.take, List.append_assoc, List.nil_append, List.cons_append, List.singleton_append, List.length_cons, List.length_nil, List.set_cons_zero, List.set_cons_succ, setRow, setSub, spl, Root.under, List.getElem?_cons_zero, List.getElem?_cons_succ, List.map_cons, List.map_nil, reduceIte, Nat.reduceEqDiff, Nat.reduceAdd, Nat.reduceSub, Int.toNat_natCast, Nat.succ_ne_zero, Nat.zero_ne_one, Nat.one_ne_zero]
  refine T_cond rfl (fun c1 => ?_) (fun c1 => ?_)
  · try simp only [decide_eq_true_eq, decide_eq_false_iff_not, Bool.not_eq_true', Bool.not_eq_false', Int.not_lt, Int.not_le, Int.ofNat_lt, Int.ofNat_le, Int.ofNat_inj, ne_eq, Decidable.not_not] at c1
    refine T_seq ?_
    refine T_region ?_
    refine TO_cons rfl (TOp_pure (pur_assign rfl) rfl ?_)
    refine TO_nil ?_
    refine T_keep [8] ?_
    simp only [pick, List.map, lk, put, val, constA, entry, cellsOf, cellVal, cellVals, List.drop, List.take, List.append_assoc, List.nil_append, List.cons_append, List.singleton_append, List.length_cons, List.length_nil, List.set_cons_zero, List.set_cons_succ, setRow, setSub, spl, Root.under, List.getElem?_cons_zero, List.getElem?_cons_succ, List.map_cons, List.map_nil, reduceIte, Nat.reduceEqDiff, Nat.reduceAdd, Nat.reduceSub, Int.toNat_natCast, Nat.succ_ne_zero, Nat.zero_ne_one, Nat.one_ne_zero]
    refine T_ret ?_
    refine then_ret ?_
    refine end_ret (.tmp .nil) rfl rfl ⟨?_, rfl⟩
    first | rfl | (exfalso; omega) | (exfalso; simp_all; done)
  · try simp only [decide_eq_true_eq, decide_eq_false_iff_not, Bool.not_eq_true', Bool.not_eq_false', Int.not_lt, Int.not_le, Int.ofNat_lt, Int.ofNat_le, Int.ofNat_inj, ne_eq, Decidable.not_not] at c1
    refine T_skip ?_
    refine T_seq ?_
    refine T_region ?_
    refine TO_cons rfl (TOp_pure (pur_assign rfl) rfl ?_)
    refine TO_nil ?_
    refine T_keep [0, 1, 2, 3, 9] ?_
    simp only [pick, List.map, lk, put, val, constA, entry, cellsOf, cellVal, cellVals, List.drop, List.take, List.append_assoc, List.nil_append, List.cons_append, List.singleton_append, List.length_cons, List.length_nil, List.set_cons_zero, List.set_cons_succ, setRow, setSub, spl, Root.under, List.getElem?_cons_zero, List.getElem?_cons_succ, List.map_cons, List.map_nil, reduceIte, Nat.reduceEqDiff, Nat.reduceAdd, Nat.reduceSub, Int.toNat_natCast, Nat.succ_ne_zero, Nat.zero_ne_one, Nat.one_ne_zero]
    refine T_seq ?_
    refine T_region ?_
    refine TO_cons rfl (TOp_pure (pur_move rfl) rfl ?_)
    refine TO_cons rfl (TOp_pure (pur_move rfl) rfl ?_)
    refine TO_cons rfl (TOp_callV (call_static ent11 rfl) (laws_szConflictEdgeS _ _ (by first | assumption | omega | (simp_all; done) | (simp_all; omega)) (by first | assumption | omega | (simp_all; done) | (simp_all; omega)) (by first | assumption | omega | (simp_all; done) | (simp_all; omega))) rfl rfl rfl ?_)
    refine TO_cons rfl (TOp_pure (pur_assign rfl) rfl ?_)
    refine TO_nil ?_
    refine T_keep [0, 1, 2, 3, 9] ?_
    simp only [pick, List.map, lk, put, val, constA, entry, cellsOf, cellVal, cellVals, List.drop, List.take, List.append_assoc, List.nil_append, List.cons_append, List.singleton_append, List.length_cons, List.length_nil, List.set_cons_zero, List.set_cons_succ, setRow, setSub, spl, Root.under, List.getElem?_cons_zero, List.getElem?_cons_succ, List.map_cons, List.map_nil, reduceIte, Nat.reduceEqDiff, Nat.reduceAdd, Nat.reduceSub, Int.toNat_natCast, Nat.succ_ne_zero, Nat.zero_ne_one, Nat.one_ne_zero]
    refine T_seq ?_
    refine T_seq ?_
    refine T_region ?_
    refine TO_cons rfl (TOp_pure (pur_move rfl) rfl ?_)
    refine TO_cons rfl (TOp_pure (pur_lss rfl rfl rfl) rfl ?_)
    refine TO_nil ?_
    refine T_keep [0, 1, 2, 3, 9, 26] ?_
    simp only [pick, List.map, lk, put, val, constA, entry, cellsOf, cellVal, cellVals, List.drop, List.take, List.append_assoc, List.nil_append, List.cons_append, List.singleton_append, List.length_cons, List.length_nil, List.set_cons_zero, List.set_cons_succ, setRow, setSub, spl, Root.under, List.getElem?_cons_zero, List.getElem?_cons_succ, List.map_cons, List.map_nil, reduceIte, Nat.reduceEqDiff, Nat.reduceAdd, Nat.reduceSub, Int.toNat_natCast, Nat.succ_ne_zero, Nat.zero_ne_one, Nat.one_ne_zero]
    refine T_cond rfl (fun c2 => ?_) (fun c2 => ?_)
    · try simp only [decide_eq_true_eq, decide_eq_false_iff_not, Bool.not_eq_true', Bool.not_eq_false', Int.not_lt, Int.not_le, Int.ofNat_lt, Int.ofNat_le, Int.ofNat_inj, ne_eq, Decidable.not_not] at c2
      refine T_seq ?_
      refine T_region ?_
      refine TO_cons rfl (TOp_pure (pur_assign rfl) rfl ?_)
      refine TO_nil ?_
      refine T_keep [8] ?_
      simp only [pick, List.map, lk, put, val, constA, entry, cellsOf, cellVal, cellVals, List.drop, List.take, List.append_assoc, List.nil_append, List.cons_append, List.singleton_append, List.length_cons, List.length_nil, List.set_cons_zero, List.set_cons_succ, setRow, setSub, spl, Root.under, List.getElem?_cons_zero, List.getElem?_cons_succ, List.map_cons, List.map_nil, reduceIte, Nat.reduceEqDiff, Nat.reduceAdd, Nat.reduceSub, Int.toNat_natCast, Nat.succ_ne_zero, Nat.zero_ne_one, Nat.one_ne_zero]
      refine T_ret ?_
      refine then_ret ?_
      refine end_ret (.tmp .nil) rfl rfl ⟨?_, rfl⟩
      first | rfl | (exfalso; omega) | (exfalso; simp_all; done)
    · try simp only [decide_eq_true_eq, decide_eq_false_iff_not, Bool.not_eq_true', Bool.not_eq_false', Int.not_lt, Int.not_le, Int.ofNat_lt, Int.ofNat_le, Int.ofNat_inj, ne_eq, Decidable.not_not] at c2
      have hes : es.length ≤ 1048576 := by
        split at c2 <;> omega
      simp only [if_pos (show (es.length : Int) ≤ 1048576 by omega)]
      refine T_skip ?_
      refine T_seq ?_
      refine T_region ?_
      refine TO_cons rfl (TOp_pure (pur_move rfl) rfl ?_)
      refine TO_cons rfl (TOp_pure (pur_move rfl) rfl ?_)
      refine TO_cons rfl (TOp_callV (call_static ent11 rfl) (laws_szConflictEdgeS _ _ (by first | assumption | omega | (simp_all; done) | (simp_all; omega)) (by first | assumption | omega | (simp_all; done) | (simp_all; omega)) (by first | assumption | omega | (simp_all; done) | (simp_all; omega))) rfl rfl rfl ?_)
      refine TO_cons rfl (TOp_pure (pur_assign rfl) rfl ?_)
      refine TO_nil ?_
      refine T_keep [0, 1, 2, 3, 9] ?_
      simp only [pick, List.map, lk, put, val, constA, entry, cellsOf, cellVal, cellVals, List.drop, List.take, List.append_assoc, List.nil_append, List.cons_append, List.singleton_append, List.length_cons, List.length_nil, List.set_cons_zero, List.set_cons_succ, setRow, setSub, spl, Root.under, List.getElem?_cons_zero, List.getElem?_cons_succ, List.map_cons, List.map_nil, reduceIte, Nat.reduceEqDiff, Nat.reduceAdd, Nat.reduceSub, Int.toNat_natCast, Nat.succ_ne_zero, Nat.zero_ne_one, Nat.one_ne_zero]
      refine T_seq ?_
      refine T_seq ?_
      refine T_region ?_
      refine TO_cons rfl (TOp_pure (pur_move rfl) rfl ?_)
      refine TO_cons rfl (TOp_pure (pur_lss rfl rfl rfl) rfl ?_)
      refine TO_nil ?_
      refine T_keep [0, 1, 2, 3, 31] ?_
      simp only [pick, List.map, lk, put, val, constA, entry, cellsOf, cellVal, cellVals, List.drop, List.take, List.append_assoc, List.nil_append, List.cons_append, List.singleton_append, List.length_cons, List.length_nil, List.set_cons_zero, List.set_cons_succ, setRow, setSub, spl, Root.under, List.getElem?_cons_zero, List.getElem?_cons_succ, List.map_cons, List.map_nil, reduceIte, Nat.reduceEqDiff, Nat.reduceAdd, Nat.reduceSub, Int.toNat_natCast, Nat.succ_ne_zero, Nat.zero_ne_one, Nat.one_ne_zero]
      refine T_cond rfl (fun c3 => ?_) (fun c3 => ?_)
      · try simp only [decide_eq_true_eq, decide_eq_false_iff_not, Bool.not_eq_true', Bool.not_eq_false', Int.not_lt, Int.not_le, Int.ofNat_lt, Int.ofNat_le, Int.ofNat_inj, ne_eq, Decidable.not_not] at c3
        refine T_seq ?_
        refine T_region ?_
        refine TO_cons rfl (TOp_pure (pur_assign rfl) rfl ?_)
        refine TO_nil ?_
        refine T_keep [8] ?_
        simp only [pick, List.map, lk, put, val, constA, entry, cellsOf, cellVal, cellVals, List.drop, List.take, List.append_assoc, List.nil_append, List.cons_append, List.singleton_append, List.length_cons, List.length_nil, List.set_cons_zero, List.set_cons_succ, setRow, setSub, spl, Root.under, List.getElem?_cons_zero, List.getElem?_cons_succ, List.map_cons, List.map_nil, reduceIte, Nat.reduceEqDiff, Nat.reduceAdd, Nat.reduceSub, Int.toNat_natCast, Nat.succ_ne_zero, Nat.zero_ne_one, Nat.one_ne_zero]
        refine T_ret ?_
        refine then_ret ?_
        refine end_ret (.tmp .nil) rfl rfl ⟨?_, rfl⟩
        first | rfl | (exfalso; omega) | (exfalso; simp_all; done)
      · try simp only [decide_eq_true_eq, decide_eq_false_iff_not, Bool.not_eq_true', Bool.not_eq_false', Int.not_lt, Int.not_le, Int.ofNat_lt, Int.ofNat_le, Int.ofNat_inj, ne_eq, Decidable.not_not] at c3
        have hp : p.length ≤ 1048576 - es.length := by
          split at c3 <;> omega
        simp only [if_pos (show (p.length : Int) ≤ 1048576 - (es.length : Int) by omega)]
        have hu := UF_len n es p s
        refine T_skip ?_
        refine T_seq ?_
        refine T_region ?_
        refine TO_cons rfl (TOp_pure (pur_move rfl) rfl ?_)
        refine TO_cons rfl (TOp_pure (pur_move rfl) rfl ?_)
        refine TO_cons rfl (TOp_callV (call_static ent13 rfl) (laws_toConflictEdgeS es (by omega)) rfl rfl rfl ?_)
        refine TO_cons rfl (TOp_pure (pur_move rfl) rfl ?_)
        refine TO_cons rfl (TOp_callV (call_static ent13 rfl) (laws_toConflictEdgeS p (by omega)) rfl rfl rfl ?_)
        refine TO_cons rfl (TOp_pure (pur_move rfl) rfl ?_)
        refine TO_cons rfl (TOp_callV (call_static ent19 rfl) (laws_toIntS s (by omega)) rfl rfl rfl ?_)
        refine TO_cons rfl (TOp_callV (call_static ent18 rfl) (spec_UndominatedFacts n es p s (by omega) hr hn (by omega) (by omega)) rfl rfl rfl ?_)
        refine TO_cons rfl (TOp_pure (pur_assign rfl) rfl ?_)
        refine TO_nil ?_
        refine T_keep [0, 1, 2, 3, 10] ?_
        simp only [pick, List.map, lk, put, val, constA, entry, cellsOf, cellVal, cellVals, List.drop, List.take, List.append_assoc, List.nil_append, List.cons_append, List.singleton_append, List.length_cons, List.length_nil, List.set_cons_zero, List.set_cons_succ, setRow, setSub, spl, Root.under, List.getElem?_cons_zero, List.getElem?_cons_succ, List.map_cons, List.map_nil, reduceIte, Nat.reduceEqDiff, Nat.reduceAdd, Nat.reduceSub, Int.toNat_natCast, Nat.succ_ne_zero, Nat.zero_ne_one, Nat.one_ne_zero]
        refine T_seq ?_
        refine T_region ?_
        refine TO_cons rfl (TOp_pure (pur_move rfl) rfl ?_)
        refine TO_cons rfl (TOp_callO (call_static ent13 rfl) rfl (laws_toConflictEdgeS_own es (by omega)) rfl rfl rfl ?_)
        refine TO_cons rfl (TOp_pure (pur_assign rfl) rfl ?_)
        refine TO_nil ?_
        refine T_keep [0, 1, 2, 3, 10, 11] ?_
        simp only [pick, List.map, lk, put, val, constA, entry, cellsOf, cellVal, cellVals, List.drop, List.take, List.append_assoc, List.nil_append, List.cons_append, List.singleton_append, List.length_cons, List.length_nil, List.set_cons_zero, List.set_cons_succ, setRow, setSub, spl, Root.under, List.getElem?_cons_zero, List.getElem?_cons_succ, List.map_cons, List.map_nil, reduceIte, Nat.reduceEqDiff, Nat.reduceAdd, Nat.reduceSub, Int.toNat_natCast, Nat.succ_ne_zero, Nat.zero_ne_one, Nat.one_ne_zero]
        refine T_seq ?_
        refine T_region ?_
        refine TO_cons rfl (TOp_pure (pur_move rfl) rfl ?_)
        refine TO_cons rfl (TOp_callO (call_static ent13 rfl) rfl (laws_toConflictEdgeS_own p (by omega)) rfl rfl rfl ?_)
        refine TO_cons rfl (TOp_pure (pur_assign rfl) rfl ?_)
        refine TO_nil ?_
        refine T_keep [0, 1, 2, 3, 10, 11, 12] ?_
        simp only [pick, List.map, lk, put, val, constA, entry, cellsOf, cellVal, cellVals, List.drop, List.take, List.append_assoc, List.nil_append, List.cons_append, List.singleton_append, List.length_cons, List.length_nil, List.set_cons_zero, List.set_cons_succ, setRow, setSub, spl, Root.under, List.getElem?_cons_zero, List.getElem?_cons_succ, List.map_cons, List.map_nil, reduceIte, Nat.reduceEqDiff, Nat.reduceAdd, Nat.reduceSub, Int.toNat_natCast, Nat.succ_ne_zero, Nat.zero_ne_one, Nat.one_ne_zero]
        refine T_seq ?_
        refine T_region ?_
        refine TO_cons rfl (TOp_pure (pur_move rfl) rfl ?_)
        refine TO_cons rfl (TOp_callO (call_static ent19 rfl) rfl (laws_toIntS_own s (by omega)) rfl rfl rfl ?_)
        refine TO_cons rfl (TOp_pure (pur_assign rfl) rfl ?_)
        refine TO_nil ?_
        refine T_keep [0, 1, 2, 3, 10, 11, 12, 13] ?_
        simp only [pick, List.map, lk, put, val, constA, entry, cellsOf, cellVal, cellVals, List.drop, List.take, List.append_assoc, List.nil_append, List.cons_append, List.singleton_append, List.length_cons, List.length_nil, List.set_cons_zero, List.set_cons_succ, setRow, setSub, spl, Root.under, List.getElem?_cons_zero, List.getElem?_cons_succ, List.map_cons, List.map_nil, reduceIte, Nat.reduceEqDiff, Nat.reduceAdd, Nat.reduceSub, Int.toNat_natCast, Nat.succ_ne_zero, Nat.zero_ne_one, Nat.one_ne_zero]
        refine T_seq ?_
        refine T_region ?_
        refine TO_cons rfl (TOp_pure (pur_move rfl) rfl ?_)
        refine TO_cons rfl (TOp_pure (pur_move rfl) rfl ?_)
        refine TO_cons rfl (TOp_pure (pur_move rfl) rfl ?_)
        refine TO_cons rfl (TOp_pure (pur_move rfl) rfl ?_)
        refine TO_cons rfl (TOp_callOB (call_static ent20 rfl) (frzOKL_cons (by first | exact trivial | exact (frz_ints rfl).1 | exact (frz_edges rfl).1 | exact (frz_rows rfl).1 | exact (frz_intsN rfl (by simp <;> omega)).1 | exact (frz_intsN rfl (marks_len _ _).symm).1 | exact ⟨⟨_, rfl, rfl⟩, trivial⟩ | exact ⟨⟨_, rfl, rfl⟩, ⟨_, rfl, rfl⟩, trivial⟩ | exact ⟨⟨_, rfl, rfl⟩, ⟨_, rfl, rfl⟩, ⟨_, rfl, rfl⟩, trivial⟩ | exact ⟨⟨_, rfl, rfl⟩, ⟨_, rfl, rfl⟩, ⟨_, rfl, rfl⟩, ⟨_, rfl, rfl⟩, trivial⟩ | exact ⟨_, rfl, rfl⟩) (frzOKL_cons (by first | exact trivial | exact (frz_ints rfl).1 | exact (frz_edges rfl).1 | exact (frz_rows rfl).1 | exact (frz_intsN rfl (by simp <;> omega)).1 | exact (frz_intsN rfl (marks_len _ _).symm).1 | exact ⟨⟨_, rfl, rfl⟩, trivial⟩ | exact ⟨⟨_, rfl, rfl⟩, ⟨_, rfl, rfl⟩, trivial⟩ | exact ⟨⟨_, rfl, rfl⟩, ⟨_, rfl, rfl⟩, ⟨_, rfl, rfl⟩, trivial⟩ | exact ⟨⟨_, rfl, rfl⟩, ⟨_, rfl, rfl⟩, ⟨_, rfl, rfl⟩, ⟨_, rfl, rfl⟩, trivial⟩ | exact ⟨_, rfl, rfl⟩) (frzOKL_cons (by first | exact trivial | exact (frz_ints rfl).1 | exact (frz_edges rfl).1 | exact (frz_rows rfl).1 | exact (frz_intsN rfl (by simp <;> omega)).1 | exact (frz_intsN rfl (marks_len _ _).symm).1 | exact ⟨⟨_, rfl, rfl⟩, trivial⟩ | exact ⟨⟨_, rfl, rfl⟩, ⟨_, rfl, rfl⟩, trivial⟩ | exact ⟨⟨_, rfl, rfl⟩, ⟨_, rfl, rfl⟩, ⟨_, rfl, rfl⟩, trivial⟩ | exact ⟨⟨_, rfl, rfl⟩, ⟨_, rfl, rfl⟩, ⟨_, rfl, rfl⟩, ⟨_, rfl, rfl⟩, trivial⟩ | exact ⟨_, rfl, rfl⟩) (frzOKL_cons (by first | exact trivial | exact (frz_ints rfl).1 | exact (frz_edges rfl).1 | exact (frz_rows rfl).1 | exact (frz_intsN rfl (by simp <;> omega)).1 | exact (frz_intsN rfl (marks_len _ _).symm).1 | exact ⟨⟨_, rfl, rfl⟩, trivial⟩ | exact ⟨⟨_, rfl, rfl⟩, ⟨_, rfl, rfl⟩, trivial⟩ | exact ⟨⟨_, rfl, rfl⟩, ⟨_, rfl, rfl⟩, ⟨_, rfl, rfl⟩, trivial⟩ | exact ⟨⟨_, rfl, rfl⟩, ⟨_, rfl, rfl⟩, ⟨_, rfl, rfl⟩, ⟨_, rfl, rfl⟩, trivial⟩ | exact ⟨_, rfl, rfl⟩) frzOKL_nil)))) (fzRL_cons (by first | rfl | exact (frz_ints rfl).2 | exact (frz_edges rfl).2 | exact (frz_rows rfl).2 | exact (frz_intsN rfl (by simp <;> omega)).2 | exact (frz_intsN rfl (marks_len _ _).symm).2 ) (fzRL_cons (by first | rfl | exact (frz_ints rfl).2 | exact (frz_edges rfl).2 | exact (frz_rows rfl).2 | exact (frz_intsN rfl (by simp <;> omega)).2 | exact (frz_intsN rfl (marks_len _ _).symm).2 ) (fzRL_cons (by first | rfl | exact (frz_ints rfl).2 | exact (frz_edges rfl).2 | exact (frz_rows rfl).2 | exact (frz_intsN rfl (by simp <;> omega)).2 | exact (frz_intsN rfl (marks_len _ _).symm).2 ) (fzRL_cons (by first | rfl | exact (frz_ints rfl).2 | exact (frz_edges rfl).2 | exact (frz_rows rfl).2 | exact (frz_intsN rfl (by simp <;> omega)).2 | exact (frz_intsN rfl (marks_len _ _).symm).2 ) rfl)))) (impl_UndominatedFacts_own n es p s (by omega) hr hn (by omega) (by omega)) rfl (ownC_ints _) (by decide) rfl ?_)
        refine TO_cons rfl (TOp_pure (pur_assign rfl) rfl ?_)
        refine TO_nil ?_
        refine T_keep [0, 1, 2, 3, 10, 11, 12, 13, 14] ?_
        simp only [pick, List.map, lk, put, val, constA, entry, cellsOf, cellVal, cellVals, List.drop, List.take, List.append_assoc, List.nil_append, List.cons_append, List.singleton_append, List.length_cons, List.length_nil, List.set_cons_zero, List.set_cons_succ, setRow, setSub, spl, Root.under, List.getElem?_cons_zero, List.getElem?_cons_succ, List.map_cons, List.map_nil, reduceIte, Nat.reduceEqDiff, Nat.reduceAdd, Nat.reduceSub, Int.toNat_natCast, Nat.succ_ne_zero, Nat.zero_ne_one, Nat.one_ne_zero]
        refine T_seq ?_
        refine T_seq ?_
        refine T_region ?_
        refine TO_cons rfl (TOp_pure (pur_move rfl) rfl ?_)
        refine TO_cons rfl (TOp_pure (pur_move rfl) rfl ?_)
        refine TO_cons rfl (TOp_callB (call_static ent21 rfl) (frzOKL_cons (by first | exact trivial | exact (frz_ints rfl).1 | exact (frz_edges rfl).1 | exact (frz_rows rfl).1 | exact (frz_intsN rfl (by simp <;> omega)).1 | exact (frz_intsN rfl (marks_len _ _).symm).1 | exact ⟨⟨_, rfl, rfl⟩, trivial⟩ | exact ⟨⟨_, rfl, rfl⟩, ⟨_, rfl, rfl⟩, trivial⟩ | exact ⟨⟨_, rfl, rfl⟩, ⟨_, rfl, rfl⟩, ⟨_, rfl, rfl⟩, trivial⟩ | exact ⟨⟨_, rfl, rfl⟩, ⟨_, rfl, rfl⟩, ⟨_, rfl, rfl⟩, ⟨_, rfl, rfl⟩, trivial⟩ | exact ⟨_, rfl, rfl⟩) (frzOKL_cons (by first | exact trivial | exact (frz_ints rfl).1 | exact (frz_edges rfl).1 | exact (frz_rows rfl).1 | exact (frz_intsN rfl (by simp <;> omega)).1 | exact (frz_intsN rfl (marks_len _ _).symm).1 | exact ⟨⟨_, rfl, rfl⟩, trivial⟩ | exact ⟨⟨_, rfl, rfl⟩, ⟨_, rfl, rfl⟩, trivial⟩ | exact ⟨⟨_, rfl, rfl⟩, ⟨_, rfl, rfl⟩, ⟨_, rfl, rfl⟩, trivial⟩ | exact ⟨⟨_, rfl, rfl⟩, ⟨_, rfl, rfl⟩, ⟨_, rfl, rfl⟩, ⟨_, rfl, rfl⟩, trivial⟩ | exact ⟨_, rfl, rfl⟩) frzOKL_nil)) (fzRL_cons (by first | rfl | exact (frz_ints rfl).2 | exact (frz_edges rfl).2 | exact (frz_rows rfl).2 | exact (frz_intsN rfl (by simp <;> omega)).2 | exact (frz_intsN rfl (marks_len _ _).symm).2 ) (fzRL_cons (by first | rfl | exact (frz_ints rfl).2 | exact (frz_edges rfl).2 | exact (frz_rows rfl).2 | exact (frz_intsN rfl (by simp <;> omega)).2 | exact (frz_intsN rfl (marks_len _ _).symm).2 ) rfl)) (laws_eqIntS (UF n es p s) (UF n es p s) (by omega) (by omega)) rfl ?_)
        refine TO_cons rfl (TOp_pure (pur_not rfl rfl) rfl ?_)
        refine TO_nil ?_
        refine T_keep [0, 1, 2, 3, 10, 11, 12, 13, 14, 54] ?_
        simp only [pick, List.map, lk, put, val, constA, entry, cellsOf, cellVal, cellVals, List.drop, List.take, List.append_assoc, List.nil_append, List.cons_append, List.singleton_append, List.length_cons, List.length_nil, List.set_cons_zero, List.set_cons_succ, setRow, setSub, spl, Root.under, List.getElem?_cons_zero, List.getElem?_cons_succ, List.map_cons, List.map_nil, reduceIte, Nat.reduceEqDiff, Nat.reduceAdd, Nat.reduceSub, Int.toNat_natCast, Nat.succ_ne_zero, Nat.zero_ne_one, Nat.one_ne_zero]
        refine T_cond rfl (fun c4 => ?_) (fun c4 => ?_)
        · try simp only [decide_eq_true_eq, decide_eq_false_iff_not, Bool.not_eq_true', Bool.not_eq_false', Int.not_lt, Int.not_le, Int.ofNat_lt, Int.ofNat_le, Int.ofNat_inj, ne_eq, Decidable.not_not] at c4
          all_goals (first | (simp at c4; done) | (exfalso; omega) | (exfalso; simp_all; done))
        · try simp only [decide_eq_true_eq, decide_eq_false_iff_not, Bool.not_eq_true', Bool.not_eq_false', Int.not_lt, Int.not_le, Int.ofNat_lt, Int.ofNat_le, Int.ofNat_inj, ne_eq, Decidable.not_not] at c4
          refine T_skip ?_
          refine T_seq ?_
          refine T_seq ?_
          refine T_region ?_
          refine TO_cons rfl (TOp_pure (pur_move rfl) rfl ?_)
          refine TO_cons rfl (TOp_pure (pur_move rfl) rfl ?_)
          refine TO_cons rfl (TOp_callV (call_static ent13 rfl) (laws_toConflictEdgeS es (by omega)) rfl rfl rfl ?_)
          refine TO_cons rfl (TOp_callB (call_static ent15 rfl) (frzOKL_cons (by first | exact trivial | exact (frz_ints rfl).1 | exact (frz_edges rfl).1 | exact (frz_rows rfl).1 | exact (frz_intsN rfl (by simp <;> omega)).1 | exact (frz_intsN rfl (marks_len _ _).symm).1 | exact ⟨⟨_, rfl, rfl⟩, trivial⟩ | exact ⟨⟨_, rfl, rfl⟩, ⟨_, rfl, rfl⟩, trivial⟩ | exact ⟨⟨_, rfl, rfl⟩, ⟨_, rfl, rfl⟩, ⟨_, rfl, rfl⟩, trivial⟩ | exact ⟨⟨_, rfl, rfl⟩, ⟨_, rfl, rfl⟩, ⟨_, rfl, rfl⟩, ⟨_, rfl, rfl⟩, trivial⟩ | exact ⟨_, rfl, rfl⟩) (frzOKL_cons (by first | exact trivial | exact (frz_ints rfl).1 | exact (frz_edges rfl).1 | exact (frz_rows rfl).1 | exact (frz_intsN rfl (by simp <;> omega)).1 | exact (frz_intsN rfl (marks_len _ _).symm).1 | exact ⟨⟨_, rfl, rfl⟩, trivial⟩ | exact ⟨⟨_, rfl, rfl⟩, ⟨_, rfl, rfl⟩, trivial⟩ | exact ⟨⟨_, rfl, rfl⟩, ⟨_, rfl, rfl⟩, ⟨_, rfl, rfl⟩, trivial⟩ | exact ⟨⟨_, rfl, rfl⟩, ⟨_, rfl, rfl⟩, ⟨_, rfl, rfl⟩, ⟨_, rfl, rfl⟩, trivial⟩ | exact ⟨_, rfl, rfl⟩) frzOKL_nil)) (fzRL_cons (by first | rfl | exact (frz_ints rfl).2 | exact (frz_edges rfl).2 | exact (frz_rows rfl).2 | exact (frz_intsN rfl (by simp <;> omega)).2 | exact (frz_intsN rfl (marks_len _ _).symm).2 ) (fzRL_cons (by first | rfl | exact (frz_ints rfl).2 | exact (frz_edges rfl).2 | exact (frz_rows rfl).2 | exact (frz_intsN rfl (by simp <;> omega)).2 | exact (frz_intsN rfl (marks_len _ _).symm).2 ) rfl)) (laws_eqConflictEdgeS es es (by omega) (by omega)) rfl ?_)
          refine TO_cons rfl (TOp_pure (pur_not rfl rfl) rfl ?_)
          refine TO_nil ?_
          refine T_keep [0, 1, 2, 3, 10, 11, 12, 13, 14, 59] ?_
          simp only [pick, List.map, lk, put, val, constA, entry, cellsOf, cellVal, cellVals, List.drop, List.take, List.append_assoc, List.nil_append, List.cons_append, List.singleton_append, List.length_cons, List.length_nil, List.set_cons_zero, List.set_cons_succ, setRow, setSub, spl, Root.under, List.getElem?_cons_zero, List.getElem?_cons_succ, List.map_cons, List.map_nil, reduceIte, Nat.reduceEqDiff, Nat.reduceAdd, Nat.reduceSub, Int.toNat_natCast, Nat.succ_ne_zero, Nat.zero_ne_one, Nat.one_ne_zero]
          refine T_cond rfl (fun c5 => ?_) (fun c5 => ?_)
          · try simp only [decide_eq_true_eq, decide_eq_false_iff_not, Bool.not_eq_true', Bool.not_eq_false', Int.not_lt, Int.not_le, Int.ofNat_lt, Int.ofNat_le, Int.ofNat_inj, ne_eq, Decidable.not_not] at c5
            all_goals (first | (simp at c5; done) | (exfalso; omega) | (exfalso; simp_all; done))
          · try simp only [decide_eq_true_eq, decide_eq_false_iff_not, Bool.not_eq_true', Bool.not_eq_false', Int.not_lt, Int.not_le, Int.ofNat_lt, Int.ofNat_le, Int.ofNat_inj, ne_eq, Decidable.not_not] at c5
            refine T_skip ?_
            refine T_seq ?_
            refine T_seq ?_
            refine T_region ?_
            refine TO_cons rfl (TOp_pure (pur_move rfl) rfl ?_)
            refine TO_cons rfl (TOp_pure (pur_move rfl) rfl ?_)
            refine TO_cons rfl (TOp_callV (call_static ent13 rfl) (laws_toConflictEdgeS p (by omega)) rfl rfl rfl ?_)
            refine TO_cons rfl (TOp_callB (call_static ent15 rfl) (frzOKL_cons (by first | exact trivial | exact (frz_ints rfl).1 | exact (frz_edges rfl).1 | exact (frz_rows rfl).1 | exact (frz_intsN rfl (by simp <;> omega)).1 | exact (frz_intsN rfl (marks_len _ _).symm).1 | exact ⟨⟨_, rfl, rfl⟩, trivial⟩ | exact ⟨⟨_, rfl, rfl⟩, ⟨_, rfl, rfl⟩, trivial⟩ | exact ⟨⟨_, rfl, rfl⟩, ⟨_, rfl, rfl⟩, ⟨_, rfl, rfl⟩, trivial⟩ | exact ⟨⟨_, rfl, rfl⟩, ⟨_, rfl, rfl⟩, ⟨_, rfl, rfl⟩, ⟨_, rfl, rfl⟩, trivial⟩ | exact ⟨_, rfl, rfl⟩) (frzOKL_cons (by first | exact trivial | exact (frz_ints rfl).1 | exact (frz_edges rfl).1 | exact (frz_rows rfl).1 | exact (frz_intsN rfl (by simp <;> omega)).1 | exact (frz_intsN rfl (marks_len _ _).symm).1 | exact ⟨⟨_, rfl, rfl⟩, trivial⟩ | exact ⟨⟨_, rfl, rfl⟩, ⟨_, rfl, rfl⟩, trivial⟩ | exact ⟨⟨_, rfl, rfl⟩, ⟨_, rfl, rfl⟩, ⟨_, rfl, rfl⟩, trivial⟩ | exact ⟨⟨_, rfl, rfl⟩, ⟨_, rfl, rfl⟩, ⟨_, rfl, rfl⟩, ⟨_, rfl, rfl⟩, trivial⟩ | exact ⟨_, rfl, rfl⟩) frzOKL_nil)) (fzRL_cons (by first | rfl | exact (frz_ints rfl).2 | exact (frz_edges rfl).2 | exact (frz_rows rfl).2 | exact (frz_intsN rfl (by simp <;> omega)).2 | exact (frz_intsN rfl (marks_len _ _).symm).2 ) (fzRL_cons (by first | rfl | exact (frz_ints rfl).2 | exact (frz_edges rfl).2 | exact (frz_rows rfl).2 | exact (frz_intsN rfl (by simp <;> omega)).2 | exact (frz_intsN rfl (marks_len _ _).symm).2 ) rfl)) (laws_eqConflictEdgeS p p (by omega) (by omega)) rfl ?_)
            refine TO_cons rfl (TOp_pure (pur_not rfl rfl) rfl ?_)
            refine TO_nil ?_
            refine T_keep [0, 1, 2, 3, 10, 11, 12, 13, 14, 64] ?_
            simp only [pick, List.map, lk, put, val, constA, entry, cellsOf, cellVal, cellVals, List.drop, List.take, List.append_assoc, List.nil_append, List.cons_append, List.singleton_append, List.length_cons, List.length_nil, List.set_cons_zero, List.set_cons_succ, setRow, setSub, spl, Root.under, List.getElem?_cons_zero, List.getElem?_cons_succ, List.map_cons, List.map_nil, reduceIte, Nat.reduceEqDiff, Nat.reduceAdd, Nat.reduceSub, Int.toNat_natCast, Nat.succ_ne_zero, Nat.zero_ne_one, Nat.one_ne_zero]
            refine T_cond rfl (fun c6 => ?_) (fun c6 => ?_)
            · try simp only [decide_eq_true_eq, decide_eq_false_iff_not, Bool.not_eq_true', Bool.not_eq_false', Int.not_lt, Int.not_le, Int.ofNat_lt, Int.ofNat_le, Int.ofNat_inj, ne_eq, Decidable.not_not] at c6
              all_goals (first | (simp at c6; done) | (exfalso; omega) | (exfalso; simp_all; done))
            · try simp only [decide_eq_true_eq, decide_eq_false_iff_not, Bool.not_eq_true', Bool.not_eq_false', Int.not_lt, Int.not_le, Int.ofNat_lt, Int.ofNat_le, Int.ofNat_inj, ne_eq, Decidable.not_not] at c6
              refine T_skip ?_
              refine T_seq ?_
              refine T_seq ?_
              refine T_region ?_
              refine TO_cons rfl (TOp_pure (pur_move rfl) rfl ?_)
              refine TO_cons rfl (TOp_pure (pur_move rfl) rfl ?_)
              refine TO_cons rfl (TOp_callV (call_static ent19 rfl) (laws_toIntS s (by omega)) rfl rfl rfl ?_)
              refine TO_cons rfl (TOp_callB (call_static ent21 rfl) (frzOKL_cons (by first | exact trivial | exact (frz_ints rfl).1 | exact (frz_edges rfl).1 | exact (frz_rows rfl).1 | exact (frz_intsN rfl (by simp <;> omega)).1 | exact (frz_intsN rfl (marks_len _ _).symm).1 | exact ⟨⟨_, rfl, rfl⟩, trivial⟩ | exact ⟨⟨_, rfl, rfl⟩, ⟨_, rfl, rfl⟩, trivial⟩ | exact ⟨⟨_, rfl, rfl⟩, ⟨_, rfl, rfl⟩, ⟨_, rfl, rfl⟩, trivial⟩ | exact ⟨⟨_, rfl, rfl⟩, ⟨_, rfl, rfl⟩, ⟨_, rfl, rfl⟩, ⟨_, rfl, rfl⟩, trivial⟩ | exact ⟨_, rfl, rfl⟩) (frzOKL_cons (by first | exact trivial | exact (frz_ints rfl).1 | exact (frz_edges rfl).1 | exact (frz_rows rfl).1 | exact (frz_intsN rfl (by simp <;> omega)).1 | exact (frz_intsN rfl (marks_len _ _).symm).1 | exact ⟨⟨_, rfl, rfl⟩, trivial⟩ | exact ⟨⟨_, rfl, rfl⟩, ⟨_, rfl, rfl⟩, trivial⟩ | exact ⟨⟨_, rfl, rfl⟩, ⟨_, rfl, rfl⟩, ⟨_, rfl, rfl⟩, trivial⟩ | exact ⟨⟨_, rfl, rfl⟩, ⟨_, rfl, rfl⟩, ⟨_, rfl, rfl⟩, ⟨_, rfl, rfl⟩, trivial⟩ | exact ⟨_, rfl, rfl⟩) frzOKL_nil)) (fzRL_cons (by first | rfl | exact (frz_ints rfl).2 | exact (frz_edges rfl).2 | exact (frz_rows rfl).2 | exact (frz_intsN rfl (by simp <;> omega)).2 | exact (frz_intsN rfl (marks_len _ _).symm).2 ) (fzRL_cons (by first | rfl | exact (frz_ints rfl).2 | exact (frz_edges rfl).2 | exact (frz_rows rfl).2 | exact (frz_intsN rfl (by simp <;> omega)).2 | exact (frz_intsN rfl (marks_len _ _).symm).2 ) rfl)) (laws_eqIntS s s (by omega) (by omega)) rfl ?_)
              refine TO_cons rfl (TOp_pure (pur_not rfl rfl) rfl ?_)
              refine TO_nil ?_
              refine T_keep [0, 1, 2, 3, 10, 11, 12, 13, 14, 69] ?_
              simp only [pick, List.map, lk, put, val, constA, entry, cellsOf, cellVal, cellVals, List.drop, List.take, List.append_assoc, List.nil_append, List.cons_append, List.singleton_append, List.length_cons, List.length_nil, List.set_cons_zero, List.set_cons_succ, setRow, setSub, spl, Root.under, List.getElem?_cons_zero, List.getElem?_cons_succ, List.map_cons, List.map_nil, reduceIte, Nat.reduceEqDiff, Nat.reduceAdd, Nat.reduceSub, Int.toNat_natCast, Nat.succ_ne_zero, Nat.zero_ne_one, Nat.one_ne_zero]
              refine T_cond rfl (fun c7 => ?_) (fun c7 => ?_)
              · try simp only [decide_eq_true_eq, decide_eq_false_iff_not, Bool.not_eq_true', Bool.not_eq_false', Int.not_lt, Int.not_le, Int.ofNat_lt, Int.ofNat_le, Int.ofNat_inj, ne_eq, Decidable.not_not] at c7
                all_goals (first | (simp at c7; done) | (exfalso; omega) | (exfalso; simp_all; done))
              · try simp only [decide_eq_true_eq, decide_eq_false_iff_not, Bool.not_eq_true', Bool.not_eq_false', Int.not_lt, Int.not_le, Int.ofNat_lt, Int.ofNat_le, Int.ofNat_inj, ne_eq, Decidable.not_not] at c7
                refine T_skip ?_
                refine T_seq ?_
                refine T_region ?_
                refine TO_cons rfl (TOp_pure (pur_assign rfl) rfl ?_)
                refine TO_nil ?_
                refine T_keep [0, 1, 2, 3, 10, 11, 12, 13, 14, 15] ?_
                simp only [pick, List.map, lk, put, val, constA, entry, cellsOf, cellVal, cellVals, List.drop, List.take, List.append_assoc, List.nil_append, List.cons_append, List.singleton_append, List.length_cons, List.length_nil, List.set_cons_zero, List.set_cons_succ, setRow, setSub, spl, Root.under, List.getElem?_cons_zero, List.getElem?_cons_succ, List.map_cons, List.map_nil, reduceIte, Nat.reduceEqDiff, Nat.reduceAdd, Nat.reduceSub, Int.toNat_natCast, Nat.succ_ne_zero, Nat.zero_ne_one, Nat.one_ne_zero]
                refine T_seq ?_
                refine T_region ?_
                refine TO_cons rfl (TOp_pure (pur_move rfl) rfl ?_)
                refine TO_cons rfl (TOp_pure (pur_move rfl) rfl ?_)
                refine TO_cons rfl (TOp_callM 0 (call_static ent22 rfl) rfl rfl rfl (laws_markConflictEdgeS es 1 (by omega) (by omega) (by omega)) rfl ?_)
                refine TO_cons rfl (TOp_pure (pur_assign rfl) rfl ?_)
                refine TO_nil ?_
                refine T_keep [0, 1, 2, 3, 10, 12, 13, 14, 15] ?_
                simp only [pick, List.map, lk, put, val, constA, entry, cellsOf, cellVal, cellVals, List.drop, List.take, List.append_assoc, List.nil_append, List.cons_append, List.singleton_append, List.length_cons, List.length_nil, List.set_cons_zero, List.set_cons_succ, setRow, setSub, spl, Root.under, List.getElem?_cons_zero, List.getElem?_cons_succ, List.map_cons, List.map_nil, reduceIte, Nat.reduceEqDiff, Nat.reduceAdd, Nat.reduceSub, Int.toNat_natCast, Nat.succ_ne_zero, Nat.zero_ne_one, Nat.one_ne_zero]
                refine T_seq ?_
                refine T_region ?_
                refine TO_cons rfl (TOp_pure (pur_move rfl) rfl ?_)
                refine TO_cons rfl (TOp_pure (pur_move rfl) rfl ?_)
                refine TO_cons rfl (TOp_callM 1 (call_static ent22 rfl) rfl rfl rfl (laws_markConflictEdgeS p _ (by omega) (by omega) (by omega)) rfl ?_)
                refine TO_cons rfl (TOp_pure (pur_assign rfl) rfl ?_)
                refine TO_nil ?_
                refine T_keep [0, 1, 2, 3, 10, 13, 14, 15] ?_
                simp only [pick, List.map, lk, put, val, constA, entry, cellsOf, cellVal, cellVals, List.drop, List.take, List.append_assoc, List.nil_append, List.cons_append, List.singleton_append, List.length_cons, List.length_nil, List.set_cons_zero, List.set_cons_succ, setRow, setSub, spl, Root.under, List.getElem?_cons_zero, List.getElem?_cons_succ, List.map_cons, List.map_nil, reduceIte, Nat.reduceEqDiff, Nat.reduceAdd, Nat.reduceSub, Int.toNat_natCast, Nat.succ_ne_zero, Nat.zero_ne_one, Nat.one_ne_zero]
                refine T_seq ?_
                refine T_region ?_
                refine TO_cons rfl (TOp_pure (pur_move rfl) rfl ?_)
                refine TO_cons rfl (TOp_pure (pur_move rfl) rfl ?_)
                refine TO_cons rfl (TOp_callM 2 (call_static ent23 rfl) rfl rfl rfl (laws_markIntS s _ (by omega) (by omega) (by omega)) rfl ?_)
                refine TO_cons rfl (TOp_pure (pur_assign rfl) rfl ?_)
                refine TO_nil ?_
                refine T_keep [0, 1, 2, 3, 10, 14, 15] ?_
                simp only [pick, List.map, lk, put, val, constA, entry, cellsOf, cellVal, cellVals, List.drop, List.take, List.append_assoc, List.nil_append, List.cons_append, List.singleton_append, List.length_cons, List.length_nil, List.set_cons_zero, List.set_cons_succ, setRow, setSub, spl, Root.under, List.getElem?_cons_zero, List.getElem?_cons_succ, List.map_cons, List.map_nil, reduceIte, Nat.reduceEqDiff, Nat.reduceAdd, Nat.reduceSub, Int.toNat_natCast, Nat.succ_ne_zero, Nat.zero_ne_one, Nat.one_ne_zero]
                refine T_seq ?_
                refine T_seq ?_
                refine T_region ?_
                refine TO_cons rfl (TOp_pure (pur_move rfl) rfl ?_)
                refine TO_cons rfl (TOp_pure (pur_lss rfl rfl rfl) rfl ?_)
                refine TO_cons rfl (TOp_pure (pur_move rfl) rfl ?_)
                refine TO_split 81 rfl (fun g8 => ?_) (fun g8 => ?_)
                · try simp only [decide_eq_true_eq, decide_eq_false_iff_not, Bool.not_eq_true', Bool.not_eq_false', Int.not_lt, Int.not_le, Int.ofNat_lt, Int.ofNat_le, Int.ofNat_inj, ne_eq, Decidable.not_not] at g8
                  refine TO_off rfl rfl (by decide) rfl rfl rfl ?_
                  refine TO_off rfl rfl (by decide) rfl rfl rfl ?_
                  refine TO_off rfl rfl (by decide) rfl rfl rfl ?_
                  refine TO_off rfl rfl (by decide) rfl rfl rfl ?_
                  refine TO_cons rfl (TOp_pure (pur_pick rfl rfl rfl) rfl ?_)
                  refine TO_nil ?_
                  refine T_keep [0, 1, 2, 3, 10, 14, 86] ?_
                  simp only [pick, List.map, lk, put, val, constA, entry, cellsOf, cellVal, cellVals, List.drop, List.take, List.append_assoc, List.nil_append, List.cons_append, List.singleton_append, List.length_cons, List.length_nil, List.set_cons_zero, List.set_cons_succ, setRow, setSub, spl, Root.under, List.getElem?_cons_zero, List.getElem?_cons_succ, List.map_cons, List.map_nil, reduceIte, Nat.reduceEqDiff, Nat.reduceAdd, Nat.reduceSub, Int.toNat_natCast, Nat.succ_ne_zero, Nat.zero_ne_one, Nat.one_ne_zero]
                  refine T_cond (t := true) rfl (fun _ => ?_) (fun h => nomatch h)
                  refine T_seq ?_
                  refine T_region ?_
                  refine TO_cons rfl (TOp_pure (pur_assign rfl) rfl ?_)
                  refine TO_nil ?_
                  refine T_keep [8] ?_
                  simp only [pick, List.map, lk, put, val, constA, entry, cellsOf, cellVal, cellVals, List.drop, List.take, List.append_assoc, List.nil_append, List.cons_append, List.singleton_append, List.length_cons, List.length_nil, List.set_cons_zero, List.set_cons_succ, setRow, setSub, spl, Root.under, List.getElem?_cons_zero, List.getElem?_cons_succ, List.map_cons, List.map_nil, reduceIte, Nat.reduceEqDiff, Nat.reduceAdd, Nat.reduceSub, Int.toNat_natCast, Nat.succ_ne_zero, Nat.zero_ne_one, Nat.one_ne_zero]
                  refine T_ret ?_
                  refine then_ret ?_
                  refine end_ret (.tmp .nil) rfl rfl ⟨?_, rfl⟩
                  first | rfl | (exfalso; omega) | (exfalso; simp_all; done)
                · try simp only [decide_eq_true_eq, decide_eq_false_iff_not, Bool.not_eq_true', Bool.not_eq_false', Int.not_lt, Int.not_le, Int.ofNat_lt, Int.ofNat_le, Int.ofNat_inj, ne_eq, Decidable.not_not] at g8
                  refine TO_on rfl rfl (by decide) rfl rfl (TOp_pure (pur_move rfl) rfl ?_)
                  refine TO_on rfl rfl (by decide) rfl rfl (TOp_pure (pur_move rfl) rfl ?_)
                  refine TO_on rfl rfl (by decide) rfl rfl (TOp_callB (call_static ent21 rfl) (frzOKL_cons (by first | exact trivial | exact (frz_ints rfl).1 | exact (frz_edges rfl).1 | exact (frz_rows rfl).1 | exact (frz_intsN rfl (by simp <;> omega)).1 | exact (frz_intsN rfl (marks_len _ _).symm).1 | exact ⟨⟨_, rfl, rfl⟩, trivial⟩ | exact ⟨⟨_, rfl, rfl⟩, ⟨_, rfl, rfl⟩, trivial⟩ | exact ⟨⟨_, rfl, rfl⟩, ⟨_, rfl, rfl⟩, ⟨_, rfl, rfl⟩, trivial⟩ | exact ⟨⟨_, rfl, rfl⟩, ⟨_, rfl, rfl⟩, ⟨_, rfl, rfl⟩, ⟨_, rfl, rfl⟩, trivial⟩ | exact ⟨_, rfl, rfl⟩) (frzOKL_cons (by first | exact trivial | exact (frz_ints rfl).1 | exact (frz_edges rfl).1 | exact (frz_rows rfl).1 | exact (frz_intsN rfl (by simp <;> omega)).1 | exact (frz_intsN rfl (marks_len _ _).symm).1 | exact ⟨⟨_, rfl, rfl⟩, trivial⟩ | exact ⟨⟨_, rfl, rfl⟩, ⟨_, rfl, rfl⟩, trivial⟩ | exact ⟨⟨_, rfl, rfl⟩, ⟨_, rfl, rfl⟩, ⟨_, rfl, rfl⟩, trivial⟩ | exact ⟨⟨_, rfl, rfl⟩, ⟨_, rfl, rfl⟩, ⟨_, rfl, rfl⟩, ⟨_, rfl, rfl⟩, trivial⟩ | exact ⟨_, rfl, rfl⟩) frzOKL_nil)) (fzRL_cons (by first | rfl | exact (frz_ints rfl).2 | exact (frz_edges rfl).2 | exact (frz_rows rfl).2 | exact (frz_intsN rfl (by simp <;> omega)).2 | exact (frz_intsN rfl (marks_len _ _).symm).2 ) (fzRL_cons (by first | rfl | exact (frz_ints rfl).2 | exact (frz_edges rfl).2 | exact (frz_rows rfl).2 | exact (frz_intsN rfl (by simp <;> omega)).2 | exact (frz_intsN rfl (marks_len _ _).symm).2 ) rfl)) (laws_eqIntS (UF n es p s) (UF n es p s) (by omega) (by omega)) rfl ?_)
                  refine TO_on rfl rfl (by decide) rfl rfl (TOp_pure (pur_not rfl rfl) rfl ?_)
                  refine TO_cons rfl (TOp_pure (pur_pick rfl rfl rfl) rfl ?_)
                  refine TO_nil ?_
                  refine T_keep [0, 1, 2, 3, 10, 14, 86] ?_
                  simp only [pick, List.map, lk, put, val, constA, entry, cellsOf, cellVal, cellVals, List.drop, List.take, List.append_assoc, List.nil_append, List.cons_append, List.singleton_append, List.length_cons, List.length_nil, List.set_cons_zero, List.set_cons_succ, setRow, setSub, spl, Root.under, List.getElem?_cons_zero, List.getElem?_cons_succ, List.map_cons, List.map_nil, reduceIte, Nat.reduceEqDiff, Nat.reduceAdd, Nat.reduceSub, Int.toNat_natCast, Nat.succ_ne_zero, Nat.zero_ne_one, Nat.one_ne_zero]
                  refine T_cond rfl (fun c9 => ?_) (fun c9 => ?_)
                  · try simp only [decide_eq_true_eq, decide_eq_false_iff_not, Bool.not_eq_true', Bool.not_eq_false', Int.not_lt, Int.not_le, Int.ofNat_lt, Int.ofNat_le, Int.ofNat_inj, ne_eq, Decidable.not_not] at c9
                    all_goals (first | (simp at c9; done) | (exfalso; omega) | (exfalso; simp_all; done))
                  · try simp only [decide_eq_true_eq, decide_eq_false_iff_not, Bool.not_eq_true', Bool.not_eq_false', Int.not_lt, Int.not_le, Int.ofNat_lt, Int.ofNat_le, Int.ofNat_inj, ne_eq, Decidable.not_not] at c9
                    refine T_skip ?_
                    refine T_seq ?_
                    refine T_region ?_
                    refine TO_cons rfl (TOp_pure (pur_assign rfl) rfl ?_)
                    refine TO_nil ?_
                    refine T_keep [0, 1, 2, 3, 10, 14, 16] ?_
                    simp only [pick, List.map, lk, put, val, constA, entry, cellsOf, cellVal, cellVals, List.drop, List.take, List.append_assoc, List.nil_append, List.cons_append, List.singleton_append, List.length_cons, List.length_nil, List.set_cons_zero, List.set_cons_succ, setRow, setSub, spl, Root.under, List.getElem?_cons_zero, List.getElem?_cons_succ, List.map_cons, List.map_nil, reduceIte, Nat.reduceEqDiff, Nat.reduceAdd, Nat.reduceSub, Int.toNat_natCast, Nat.succ_ne_zero, Nat.zero_ne_one, Nat.one_ne_zero]
                    refine T_seq ?_
                    refine T_region ?_
                    refine TO_cons rfl (TOp_pure (pur_move rfl) rfl ?_)
                    refine TO_cons rfl (TOp_pure (pur_move rfl) rfl ?_)
                    refine TO_cons rfl (TOp_callM 3 (call_static ent23 rfl) rfl rfl rfl (laws_markIntS (UF n es p s) 1 (by omega) (by omega) (by omega)) rfl ?_)
                    refine TO_cons rfl (TOp_pure (pur_assign rfl) rfl ?_)
                    refine TO_nil ?_
                    refine T_keep [0, 1, 2, 3, 10, 14, 16] ?_
                    simp only [pick, List.map, lk, put, val, constA, entry, cellsOf, cellVal, cellVals, List.drop, List.take, List.append_assoc, List.nil_append, List.cons_append, List.singleton_append, List.length_cons, List.length_nil, List.set_cons_zero, List.set_cons_succ, setRow, setSub, spl, Root.under, List.getElem?_cons_zero, List.getElem?_cons_succ, List.map_cons, List.map_nil, reduceIte, Nat.reduceEqDiff, Nat.reduceAdd, Nat.reduceSub, Int.toNat_natCast, Nat.succ_ne_zero, Nat.zero_ne_one, Nat.one_ne_zero]
                    refine T_seq ?_
                    refine T_region ?_
                    refine TO_cons rfl (TOp_pure (pur_assign rfl) rfl ?_)
                    refine TO_nil ?_
                    refine T_keep [0, 1, 2, 3, 10, 14, 16, 17] ?_
                    simp only [pick, List.map, lk, put, val, constA, entry, cellsOf, cellVal, cellVals, List.drop, List.take, List.append_assoc, List.nil_append, List.cons_append, List.singleton_append, List.length_cons, List.length_nil, List.set_cons_zero, List.set_cons_succ, setRow, setSub, spl, Root.under, List.getElem?_cons_zero, List.getElem?_cons_succ, List.map_cons, List.map_nil, reduceIte, Nat.reduceEqDiff, Nat.reduceAdd, Nat.reduceSub, Int.toNat_natCast, Nat.succ_ne_zero, Nat.zero_ne_one, Nat.one_ne_zero]
                    refine T_seq ?_
                    refine T_region ?_
                    refine TO_cons rfl (TOp_pure (pur_move rfl) rfl ?_)
                    refine TO_cons rfl (TOp_pure (pur_move rfl) rfl ?_)
                    refine TO_cons rfl (TOp_callB (call_static ent24 rfl) (frzOKL_cons (by first | exact trivial | exact (frz_ints rfl).1 | exact (frz_edges rfl).1 | exact (frz_rows rfl).1 | exact (frz_intsN rfl (by simp <;> omega)).1 | exact (frz_intsN rfl (marks_len _ _).symm).1 | exact ⟨⟨_, rfl, rfl⟩, trivial⟩ | exact ⟨⟨_, rfl, rfl⟩, ⟨_, rfl, rfl⟩, trivial⟩ | exact ⟨⟨_, rfl, rfl⟩, ⟨_, rfl, rfl⟩, ⟨_, rfl, rfl⟩, trivial⟩ | exact ⟨⟨_, rfl, rfl⟩, ⟨_, rfl, rfl⟩, ⟨_, rfl, rfl⟩, ⟨_, rfl, rfl⟩, trivial⟩ | exact ⟨_, rfl, rfl⟩) (frzOKL_cons (by first | exact trivial | exact (frz_ints rfl).1 | exact (frz_edges rfl).1 | exact (frz_rows rfl).1 | exact (frz_intsN rfl (by simp <;> omega)).1 | exact (frz_intsN rfl (marks_len _ _).symm).1 | exact ⟨⟨_, rfl, rfl⟩, trivial⟩ | exact ⟨⟨_, rfl, rfl⟩, ⟨_, rfl, rfl⟩, trivial⟩ | exact ⟨⟨_, rfl, rfl⟩, ⟨_, rfl, rfl⟩, ⟨_, rfl, rfl⟩, trivial⟩ | exact ⟨⟨_, rfl, rfl⟩, ⟨_, rfl, rfl⟩, ⟨_, rfl, rfl⟩, ⟨_, rfl, rfl⟩, trivial⟩ | exact ⟨_, rfl, rfl⟩) frzOKL_nil)) (fzRL_cons (by first | rfl | exact (frz_ints rfl).2 | exact (frz_edges rfl).2 | exact (frz_rows rfl).2 | exact (frz_intsN rfl (by simp <;> omega)).2 | exact (frz_intsN rfl (marks_len _ _).symm).2 ) (fzRL_cons (by first | rfl | exact (frz_ints rfl).2 | exact (frz_edges rfl).2 | exact (frz_rows rfl).2 | exact (frz_intsN rfl (by simp <;> omega)).2 | exact (frz_intsN rfl (marks_len _ _).symm).2 ) rfl)) (laws_heldIntS (UF n es p s).length 1 (by omega) (by omega) (by omega)) rfl ?_)
                    refine TO_cons rfl (TOp_pure (pur_assign rfl) rfl ?_)
                    refine TO_nil ?_
                    refine T_keep [0, 1, 2, 3, 10, 14, 16, 17] ?_
                    simp only [pick, List.map, lk, put, val, constA, entry, cellsOf, cellVal, cellVals, List.drop, List.take, List.append_assoc, List.nil_append, List.cons_append, List.singleton_append, List.length_cons, List.length_nil, List.set_cons_zero, List.set_cons_succ, setRow, setSub, spl, Root.under, List.getElem?_cons_zero, List.getElem?_cons_succ, List.map_cons, List.map_nil, reduceIte, Nat.reduceEqDiff, Nat.reduceAdd, Nat.reduceSub, Int.toNat_natCast, Nat.succ_ne_zero, Nat.zero_ne_one, Nat.one_ne_zero]
                    refine T_seq ?_
                    refine T_seq ?_
                    refine T_region ?_
                    refine TO_cons rfl (TOp_pure (pur_move rfl) rfl ?_)
                    refine TO_cons rfl (TOp_pure (pur_lss rfl rfl rfl) rfl ?_)
                    refine TO_nil ?_
                    refine T_keep [0, 1, 2, 3, 10, 14, 16, 17, 94] ?_
                    simp only [pick, List.map, lk, put, val, constA, entry, cellsOf, cellVal, cellVals, List.drop, List.take, List.append_assoc, List.nil_append, List.cons_append, List.singleton_append, List.length_cons, List.length_nil, List.set_cons_zero, List.set_cons_succ, setRow, setSub, spl, Root.under, List.getElem?_cons_zero, List.getElem?_cons_succ, List.map_cons, List.map_nil, reduceIte, Nat.reduceEqDiff, Nat.reduceAdd, Nat.reduceSub, Int.toNat_natCast, Nat.succ_ne_zero, Nat.zero_ne_one, Nat.one_ne_zero]
                    refine T_cond rfl (fun c10 => ?_) (fun c10 => ?_)
                    · try simp only [decide_eq_true_eq, decide_eq_false_iff_not, Bool.not_eq_true', Bool.not_eq_false', Int.not_lt, Int.not_le, Int.ofNat_lt, Int.ofNat_le, Int.ofNat_inj, ne_eq, Decidable.not_not] at c10
                      all_goals (first | (simp at c10; done) | (exfalso; omega) | (exfalso; simp_all; done))
                    · try simp only [decide_eq_true_eq, decide_eq_false_iff_not, Bool.not_eq_true', Bool.not_eq_false', Int.not_lt, Int.not_le, Int.ofNat_lt, Int.ofNat_le, Int.ofNat_inj, ne_eq, Decidable.not_not] at c10
                      refine T_skip ?_
                      refine T_seq ?_
                      refine T_seq ?_
                      refine T_region ?_
                      refine TO_cons rfl (TOp_pure (pur_move rfl) rfl ?_)
                      refine TO_cons rfl (TOp_pure (pur_move rfl) rfl ?_)
                      refine TO_cons rfl (TOp_pure (pur_neq rfl rfl rfl) rfl ?_)
                      refine TO_nil ?_
                      refine T_keep [0, 1, 2, 3, 10, 14, 16, 97] ?_
                      simp only [pick, List.map, lk, put, val, constA, entry, cellsOf, cellVal, cellVals, List.drop, List.take, List.append_assoc, List.nil_append, List.cons_append, List.singleton_append, List.length_cons, List.length_nil, List.set_cons_zero, List.set_cons_succ, setRow, setSub, spl, Root.under, List.getElem?_cons_zero, List.getElem?_cons_succ, List.map_cons, List.map_nil, reduceIte, Nat.reduceEqDiff, Nat.reduceAdd, Nat.reduceSub, Int.toNat_natCast, Nat.succ_ne_zero, Nat.zero_ne_one, Nat.one_ne_zero]
                      refine T_cond rfl (fun c11 => ?_) (fun c11 => ?_)
                      · try simp only [decide_eq_true_eq, decide_eq_false_iff_not, Bool.not_eq_true', Bool.not_eq_false', Int.not_lt, Int.not_le, Int.ofNat_lt, Int.ofNat_le, Int.ofNat_inj, ne_eq, Decidable.not_not] at c11
                        all_goals (first | (simp at c11; done) | (exfalso; omega) | (exfalso; simp_all; done))
                      · try simp only [decide_eq_true_eq, decide_eq_false_iff_not, Bool.not_eq_true', Bool.not_eq_false', Int.not_lt, Int.not_le, Int.ofNat_lt, Int.ofNat_le, Int.ofNat_inj, ne_eq, Decidable.not_not] at c11
                        refine T_skip ?_
                        refine T_seq ?_
                        refine T_region ?_
                        refine TO_cons rfl (TOp_pure (pur_move rfl) rfl ?_)
                        refine TO_cons rfl (TOp_pure (pur_move rfl) rfl ?_)
                        refine TO_cons rfl (TOp_callV (call_static ent13 rfl) (laws_toConflictEdgeS es (by omega)) rfl rfl rfl ?_)
                        refine TO_cons rfl (TOp_pure (pur_move rfl) rfl ?_)
                        refine TO_cons rfl (TOp_callV (call_static ent13 rfl) (laws_toConflictEdgeS p (by omega)) rfl rfl rfl ?_)
                        refine TO_cons rfl (TOp_pure (pur_move rfl) rfl ?_)
                        refine TO_cons rfl (TOp_callV (call_static ent19 rfl) (laws_toIntS s (by omega)) rfl rfl rfl ?_)
                        refine TO_cons rfl (TOp_callV (call_static ent20 rfl) (impl_UndominatedFacts n es p s (by omega) hr hn (by omega) (by omega)) rfl rfl rfl ?_)
                        refine TO_cons rfl (TOp_pure (pur_assign rfl) rfl ?_)
                        refine TO_nil ?_
                        refine T_keep [10, 14, 16, 18] ?_
                        simp only [pick, List.map, lk, put, val, constA, entry, cellsOf, cellVal, cellVals, List.drop, List.take, List.append_assoc, List.nil_append, List.cons_append, List.singleton_append, List.length_cons, List.length_nil, List.set_cons_zero, List.set_cons_succ, setRow, setSub, spl, Root.under, List.getElem?_cons_zero, List.getElem?_cons_succ, List.map_cons, List.map_nil, reduceIte, Nat.reduceEqDiff, Nat.reduceAdd, Nat.reduceSub, Int.toNat_natCast, Nat.succ_ne_zero, Nat.zero_ne_one, Nat.one_ne_zero]
                        refine T_seq ?_
                        refine T_seq ?_
                        refine T_region ?_
                        refine TO_cons rfl (TOp_pure (pur_move rfl) rfl ?_)
                        refine TO_cons rfl (TOp_pure (pur_move rfl) rfl ?_)
                        refine TO_cons rfl (TOp_callV (call_static ent21 rfl) (laws_eqIntS (UF n es p s) (UF n es p s) (by omega) (by omega)) rfl rfl rfl ?_)
                        refine TO_cons rfl (TOp_pure (pur_not rfl rfl) rfl ?_)
                        refine TO_nil ?_
                        refine T_keep [14, 16, 109] ?_
                        simp only [pick, List.map, lk, put, val, constA, entry, cellsOf, cellVal, cellVals, List.drop, List.take, List.append_assoc, List.nil_append, List.cons_append, List.singleton_append, List.length_cons, List.length_nil, List.set_cons_zero, List.set_cons_succ, setRow, setSub, spl, Root.under, List.getElem?_cons_zero, List.getElem?_cons_succ, List.map_cons, List.map_nil, reduceIte, Nat.reduceEqDiff, Nat.reduceAdd, Nat.reduceSub, Int.toNat_natCast, Nat.succ_ne_zero, Nat.zero_ne_one, Nat.one_ne_zero]
                        refine T_cond rfl (fun c12 => ?_) (fun c12 => ?_)
                        · try simp only [decide_eq_true_eq, decide_eq_false_iff_not, Bool.not_eq_true', Bool.not_eq_false', Int.not_lt, Int.not_le, Int.ofNat_lt, Int.ofNat_le, Int.ofNat_inj, ne_eq, Decidable.not_not] at c12
                          all_goals (first | (simp at c12; done) | (exfalso; omega) | (exfalso; simp_all; done))
                        · try simp only [decide_eq_true_eq, decide_eq_false_iff_not, Bool.not_eq_true', Bool.not_eq_false', Int.not_lt, Int.not_le, Int.ofNat_lt, Int.ofNat_le, Int.ofNat_inj, ne_eq, Decidable.not_not] at c12
                          refine T_skip ?_
                          refine T_seq ?_
                          refine T_region ?_
                          refine TO_cons rfl (TOp_pure (pur_assign rfl) rfl ?_)
                          refine TO_nil ?_
                          refine T_keep [14, 16, 17] ?_
                          simp only [pick, List.map, lk, put, val, constA, entry, cellsOf, cellVal, cellVals, List.drop, List.take, List.append_assoc, List.nil_append, List.cons_append, List.singleton_append, List.length_cons, List.length_nil, List.set_cons_zero, List.set_cons_succ, setRow, setSub, spl, Root.under, List.getElem?_cons_zero, List.getElem?_cons_succ, List.map_cons, List.map_nil, reduceIte, Nat.reduceEqDiff, Nat.reduceAdd, Nat.reduceSub, Int.toNat_natCast, Nat.succ_ne_zero, Nat.zero_ne_one, Nat.one_ne_zero]
                          refine T_seq ?_
                          refine T_region ?_
                          refine TO_cons rfl (TOp_pure (pur_move rfl) rfl ?_)
                          refine TO_cons rfl (TOp_pure (pur_move rfl) rfl ?_)
                          refine TO_cons rfl (TOp_callB (call_static ent24 rfl) (frzOKL_cons (by first | exact trivial | exact (frz_ints rfl).1 | exact (frz_edges rfl).1 | exact (frz_rows rfl).1 | exact (frz_intsN rfl (by simp <;> omega)).1 | exact (frz_intsN rfl (marks_len _ _).symm).1 | exact ⟨⟨_, rfl, rfl⟩, trivial⟩ | exact ⟨⟨_, rfl, rfl⟩, ⟨_, rfl, rfl⟩, trivial⟩ | exact ⟨⟨_, rfl, rfl⟩, ⟨_, rfl, rfl⟩, ⟨_, rfl, rfl⟩, trivial⟩ | exact ⟨⟨_, rfl, rfl⟩, ⟨_, rfl, rfl⟩, ⟨_, rfl, rfl⟩, ⟨_, rfl, rfl⟩, trivial⟩ | exact ⟨_, rfl, rfl⟩) (frzOKL_cons (by first | exact trivial | exact (frz_ints rfl).1 | exact (frz_edges rfl).1 | exact (frz_rows rfl).1 | exact (frz_intsN rfl (by simp <;> omega)).1 | exact (frz_intsN rfl (marks_len _ _).symm).1 | exact ⟨⟨_, rfl, rfl⟩, trivial⟩ | exact ⟨⟨_, rfl, rfl⟩, ⟨_, rfl, rfl⟩, trivial⟩ | exact ⟨⟨_, rfl, rfl⟩, ⟨_, rfl, rfl⟩, ⟨_, rfl, rfl⟩, trivial⟩ | exact ⟨⟨_, rfl, rfl⟩, ⟨_, rfl, rfl⟩, ⟨_, rfl, rfl⟩, ⟨_, rfl, rfl⟩, trivial⟩ | exact ⟨_, rfl, rfl⟩) frzOKL_nil)) (fzRL_cons (by first | rfl | exact (frz_ints rfl).2 | exact (frz_edges rfl).2 | exact (frz_rows rfl).2 | exact (frz_intsN rfl (by simp <;> omega)).2 | exact (frz_intsN rfl (marks_len _ _).symm).2 ) (fzRL_cons (by first | rfl | exact (frz_ints rfl).2 | exact (frz_edges rfl).2 | exact (frz_rows rfl).2 | exact (frz_intsN rfl (by simp <;> omega)).2 | exact (frz_intsN rfl (marks_len _ _).symm).2 ) rfl)) (laws_heldIntS (UF n es p s).length 1 (by omega) (by omega) (by omega)) rfl ?_)
                          refine TO_cons rfl (TOp_pure (pur_assign rfl) rfl ?_)
                          refine TO_nil ?_
                          refine T_keep [16, 17] ?_
                          simp only [pick, List.map, lk, put, val, constA, entry, cellsOf, cellVal, cellVals, List.drop, List.take, List.append_assoc, List.nil_append, List.cons_append, List.singleton_append, List.length_cons, List.length_nil, List.set_cons_zero, List.set_cons_succ, setRow, setSub, spl, Root.under, List.getElem?_cons_zero, List.getElem?_cons_succ, List.map_cons, List.map_nil, reduceIte, Nat.reduceEqDiff, Nat.reduceAdd, Nat.reduceSub, Int.toNat_natCast, Nat.succ_ne_zero, Nat.zero_ne_one, Nat.one_ne_zero]
                          refine T_seq ?_
                          refine T_seq ?_
                          refine T_region ?_
                          refine TO_cons rfl (TOp_pure (pur_move rfl) rfl ?_)
                          refine TO_cons rfl (TOp_pure (pur_lss rfl rfl rfl) rfl ?_)
                          refine TO_nil ?_
                          refine T_keep [16, 17, 114] ?_
                          simp only [pick, List.map, lk, put, val, constA, entry, cellsOf, cellVal, cellVals, List.drop, List.take, List.append_assoc, List.nil_append, List.cons_append, List.singleton_append, List.length_cons, List.length_nil, List.set_cons_zero, List.set_cons_succ, setRow, setSub, spl, Root.under, List.getElem?_cons_zero, List.getElem?_cons_succ, List.map_cons, List.map_nil, reduceIte, Nat.reduceEqDiff, Nat.reduceAdd, Nat.reduceSub, Int.toNat_natCast, Nat.succ_ne_zero, Nat.zero_ne_one, Nat.one_ne_zero]
                          refine T_cond rfl (fun c13 => ?_) (fun c13 => ?_)
                          · try simp only [decide_eq_true_eq, decide_eq_false_iff_not, Bool.not_eq_true', Bool.not_eq_false', Int.not_lt, Int.not_le, Int.ofNat_lt, Int.ofNat_le, Int.ofNat_inj, ne_eq, Decidable.not_not] at c13
                            all_goals (first | (simp at c13; done) | (exfalso; omega) | (exfalso; simp_all; done))
                          · try simp only [decide_eq_true_eq, decide_eq_false_iff_not, Bool.not_eq_true', Bool.not_eq_false', Int.not_lt, Int.not_le, Int.ofNat_lt, Int.ofNat_le, Int.ofNat_inj, ne_eq, Decidable.not_not] at c13
                            refine T_skip ?_
                            refine T_seq ?_
                            refine T_seq ?_
                            refine T_region ?_
                            refine TO_cons rfl (TOp_pure (pur_move rfl) rfl ?_)
                            refine TO_cons rfl (TOp_pure (pur_move rfl) rfl ?_)
                            refine TO_cons rfl (TOp_pure (pur_neq rfl rfl rfl) rfl ?_)
                            refine TO_nil ?_
                            refine T_keep [117] ?_
                            simp only [pick, List.map, lk, put, val, constA, entry, cellsOf, cellVal, cellVals, List.drop, List.take, List.append_assoc, List.nil_append, List.cons_append, List.singleton_append, List.length_cons, List.length_nil, List.set_cons_zero, List.set_cons_succ, setRow, setSub, spl, Root.under, List.getElem?_cons_zero, List.getElem?_cons_succ, List.map_cons, List.map_nil, reduceIte, Nat.reduceEqDiff, Nat.reduceAdd, Nat.reduceSub, Int.toNat_natCast, Nat.succ_ne_zero, Nat.zero_ne_one, Nat.one_ne_zero]
                            refine T_cond rfl (fun c14 => ?_) (fun c14 => ?_)
                            · try simp only [decide_eq_true_eq, decide_eq_false_iff_not, Bool.not_eq_true', Bool.not_eq_false', Int.not_lt, Int.not_le, Int.ofNat_lt, Int.ofNat_le, Int.ofNat_inj, ne_eq, Decidable.not_not] at c14
                              all_goals (first | (simp at c14; done) | (exfalso; omega) | (exfalso; simp_all; done))
                            · try simp only [decide_eq_true_eq, decide_eq_false_iff_not, Bool.not_eq_true', Bool.not_eq_false', Int.not_lt, Int.not_le, Int.ofNat_lt, Int.ofNat_le, Int.ofNat_inj, ne_eq, Decidable.not_not] at c14
                              refine T_skip ?_
                              refine T_seq ?_
                              refine T_region ?_
                              refine TO_cons rfl (TOp_pure (pur_assign rfl) rfl ?_)
                              refine TO_nil ?_
                              refine T_keep [8] ?_
                              simp only [pick, List.map, lk, put, val, constA, entry, cellsOf, cellVal, cellVals, List.drop, List.take, List.append_assoc, List.nil_append, List.cons_append, List.singleton_append, List.length_cons, List.length_nil, List.set_cons_zero, List.set_cons_succ, setRow, setSub, spl, Root.under, List.getElem?_cons_zero, List.getElem?_cons_succ, List.map_cons, List.map_nil, reduceIte, Nat.reduceEqDiff, Nat.reduceAdd, Nat.reduceSub, Int.toNat_natCast, Nat.succ_ne_zero, Nat.zero_ne_one, Nat.one_ne_zero]
                              refine T_ret ?_
                              refine end_ret (.tmp .nil) rfl rfl ⟨?_, rfl⟩
                              first | rfl | (exfalso; omega) | (exfalso; simp_all; done)
end Go.Proofs.Ytglgcncmjnjfgaa

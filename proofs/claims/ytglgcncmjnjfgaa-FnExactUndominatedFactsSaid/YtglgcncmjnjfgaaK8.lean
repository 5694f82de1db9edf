/- Contracts of functions of the program (lawint), each walked once. -/
import Derived.Test.YtglgcncmjnjfgaaProg
import Derived.Test.YtglgcncmjnjfgaaCO
import Derived.Test.YtglgcncmjnjfgaaK1
set_option linter.unusedVariables false
set_option linter.unusedSimpArgs false
set_option maxRecDepth 4000
namespace Go.Proofs.Ytglgcncmjnjfgaa
open Go Go.Proofs Go.Sep
theorem bytes3 : (prg.info? 3).map (·.bytes) = some 8 := by kernel_rfl
theorem sl31 : SlT prg 31 3 1 := .of (by kernel_rfl) (by kernel_rfl) (by decide)
theorem zero3 : ZeroT prg 3 [.int .i64 0] := .of (by kernel_rfl) (by decide)


/-- laws.toIntS -/
theorem laws_toIntS_own (es : List Int) (he : es.length ≤ 1048576) : Sep.Fn prg 19 [.i 1 (ints es)] [] fun r σ => r = .m [0] 0 es.length 1 ∧ σ = [.row (ints es)] := by
  refine fn_of_T Try.func19 rfl rfl (Nat.le_of_ble_eq_true rfl) ?_
  simp only [entry, Nat.reduceAdd]
  refine T_seq ?_
  refine T_region ?_
  refine TO_cons rfl (TOp_pure (pur_assign rfl) rfl ?_)
  refine TO_nil ?_
  refine T_keep [0] ?_
  simp only [pick, List.map, lk, put, val, constA, entry, cellsOf, cellVal, cellVals, List.drop, List.take, List.append_assoc, List.nil_append, List.cons_append, List.singleton_append, List.length_cons, List.length_nil, List.set_cons_zero, List.set_cons_succ, setRow, setSub, spl, Root.under, List.getElem?_cons_zero, List.getElem?_cons_succ, List.map_cons, List.map_nil, reduceIte, Nat.reduceEqDiff, Nat.reduceAdd, Nat.reduceSub, Int.toNat_natCast, Nat.succ_ne_zero, Nat.zero_ne_one, Nat.one_ne_zero]
  refine T_seq ?_
  refine T_region ?_
  refine TO_cons rfl (TOp_pure (pur_move rfl) rfl ?_)
  refine TO_cons rfl (TOp_pure (by first | exact pur_len sl31 rfl (by decide) rfl | exact pur_len_m sl31 rfl rfl | exact pur_len_n sl31 rfl rfl) rfl ?_)
  refine TO_cons rfl (TOp_makeZ (zeros_int _) sl31 zero3 rfl bytes3 rfl rfl rfl rfl (by omega) (by omega) ?_)
  refine TO_cons rfl (TOp_pure (pur_assign rfl) rfl ?_)
  refine TO_nil ?_
  refine T_keep [0, 3] ?_
  simp only [pick, List.map, lk, put, val, constA, entry, cellsOf, cellVal, cellVals, List.drop, List.take, List.append_assoc, List.nil_append, List.cons_append, List.singleton_append, List.length_cons, List.length_nil, List.set_cons_zero, List.set_cons_succ, setRow, setSub, spl, Root.under, List.getElem?_cons_zero, List.getElem?_cons_succ, List.map_cons, List.map_nil, reduceIte, Nat.reduceEqDiff, Nat.reduceAdd, Nat.reduceSub, Int.toNat_natCast, Nat.succ_ne_zero, Nat.zero_ne_one, Nat.one_ne_zero]
  refine T_seq ?_
  refine T_seq ?_
  refine T_region ?_
  refine TO_cons rfl (TOp_pure (pur_assign rfl) rfl ?_)
  refine TO_nil ?_
  refine T_keep [0, 3, 4] ?_
  simp only [pick, List.map, lk, put, val, constA, entry, cellsOf, cellVal, cellVals, List.drop, List.take, List.append_assoc, List.nil_append, List.cons_append, List.singleton_append, List.length_cons, List.length_nil, List.set_cons_zero, List.set_cons_succ, setRow, setSub, spl, Root.under, List.getElem?_cons_zero, List.getElem?_cons_succ, List.map_cons, List.map_nil, reduceIte, Nat.reduceEqDiff, Nat.reduceAdd, Nat.reduceSub, Int.toNat_natCast, Nat.succ_ne_zero, Nat.zero_ne_one, Nat.one_ne_zero]
  refine T_block ?_
  refine T_loop (fun k E σ => ∃ (i : Nat) (out : List Int), (i ≤ es.length) ∧ (out.length = es.length) ∧ (∀ j, j < i → out.getD j 0 = es.getD j 0) ∧ k = es.length - i ∧ E = [(0, .i 1 (ints es)), (3, .m [0] 0 es.length 1), (4, natA i)] ∧ σ = [.row (ints out)]) _ (E0 := [(0, .i 1 (ints es)), (3, .m [0] 0 es.length 1), (4, natA (0))]) (σ0 := [.row (ints (List.replicate es.length 0))]) (Weak.to 1 (by decide) rfl rfl rfl ⟨rfl, rfl, rfl, trivial⟩) ⟨(0), (List.replicate es.length 0), ?_, ?_, ?_, rfl, rfl, rfl⟩ ?_
  · omega
  · simp
  · intro j hj; omega
  rintro k E σ ⟨i, out, hi, hl, hall, rfl, rfl, rfl⟩
  refine T_seq ?_
  refine T_seq ?_
  refine T_region ?_
  refine TO_cons rfl (TOp_pure (pur_move rfl) rfl ?_)
  refine TO_cons rfl (TOp_pure (pur_move rfl) rfl ?_)
  refine TO_cons rfl (TOp_pure (by first | exact pur_len sl31 rfl (by decide) rfl | exact pur_len_m sl31 rfl rfl | exact pur_len_n sl31 rfl rfl) rfl ?_)
  refine TO_cons rfl (TOp_pure (pur_lss rfl rfl rfl) rfl ?_)
  refine TO_nil ?_
  refine T_keep [0, 3, 4, 11] ?_
  simp only [pick, List.map, lk, put, val, constA, entry, cellsOf, cellVal, cellVals, List.drop, List.take, List.append_assoc, List.nil_append, List.cons_append, List.singleton_append, List.length_cons, List.length_nil, List.set_cons_zero, List.set_cons_succ, setRow, setSub, spl, Root.under, List.getElem?_cons_zero, List.getElem?_cons_succ, List.map_cons, List.map_nil, reduceIte, Nat.reduceEqDiff, Nat.reduceAdd, Nat.reduceSub, Int.toNat_natCast, Nat.succ_ne_zero, Nat.zero_ne_one, Nat.one_ne_zero]
  refine T_cond rfl (fun c1 => ?_) (fun c1 => ?_)
  · try simp only [decide_eq_true_eq, decide_eq_false_iff_not, Bool.not_eq_true', Bool.not_eq_false', Int.not_lt, Int.not_le, Int.ofNat_lt, Int.ofNat_le, Int.ofNat_inj, ne_eq, Decidable.not_not] at c1
    refine T_skip ?_
    refine T_seq ?_
    refine T_block ?_
    refine T_region ?_
    refine TO_cons rfl (TOp_pure (pur_move rfl) rfl ?_)
    refine TO_cons rfl (TOp_pure (pur_move rfl) rfl ?_)
    refine TO_cons rfl (TOp_pure (pur_move rfl) rfl ?_)
    refine TO_cons rfl (TOp_pure (pur_move rfl) rfl ?_)
    refine TO_cons rfl (TOp_pure (by first | exact pur_ixN sl31 rfl rfl (by omega) rfl | exact pur_ixN_m sl31 rfl rfl (by omega) rfl | exact pur_ix sl31 rfl rfl (by omega) (by omega) rfl | exact pur_ix_m sl31 rfl rfl (by omega) (by omega) rfl) rfl ?_)
    refine TO_cons rfl (TOp_pure (by first | exact pur_ld_b one3 rfl rfl rfl rfl | exact pur_ld_ints rfl one3 rfl rfl (by omega) | exact pur_lde_ints rfl one3 rfl rfl rfl (by omega) | exact pur_ld_q one3 rfl rfl rfl | exact pur_ld_e one3 rfl rfl rfl rfl) rfl ?_)
    refine TO_cons rfl (TOp_pure (by first | exact pur_ixN sl31 rfl rfl (by omega) rfl | exact pur_ixN_m sl31 rfl rfl (by omega) rfl | exact pur_ix sl31 rfl rfl (by omega) (by omega) rfl | exact pur_ix_m sl31 rfl rfl (by omega) (by omega) rfl) rfl ?_)
    first | refine TO_cons rfl (TOp_storeB sz3 rfl rfl rfl rfl rfl rfl rfl (by decide) (Nat.le_of_ble_eq_true rfl) rfl ?_) | refine TO_cons rfl (TOp_setI sz3 rfl rfl rfl rfl rfl (by omega) rfl ?_)
    refine TO_nil ?_
    refine T_region ?_
    refine TO_cons rfl (TOp_pure (pur_move rfl) rfl ?_)
    refine TO_cons rfl (TOp_pure (pur_add rfl rfl rfl (fits64 (by omega) (by omega))) rfl ?_)
    refine TO_cons rfl (TOp_pure (pur_assign rfl) rfl ?_)
    refine TO_nil ?_
    refine again0 (E' := [(0, .i 1 (ints es)), (3, .m [0] 0 es.length 1), (4, natA (i + 1))]) (σ' := [.row (ints (out.set i (es.getD i 0)))]) _ ?_ (Weak.to 1 (by decide) rfl rfl rfl ⟨rfl, rfl, rfl, trivial⟩) ⟨(i + 1), (out.set i (es.getD i 0)), ?_, ?_, ?_, rfl, rfl, rfl⟩
    · omega
    · omega
    · simpa using hl
    · exact set_all (α := Int) hall (by omega)
  · try simp only [decide_eq_true_eq, decide_eq_false_iff_not, Bool.not_eq_true', Bool.not_eq_false', Int.not_lt, Int.not_le, Int.ofNat_lt, Int.ofNat_le, Int.ofNat_inj, ne_eq, Decidable.not_not] at c1
    refine T_exit ?_
    refine then_exit ?_
    refine then_exit ?_
    refine block_exit ?_
    refine T_seq ?_
    refine T_region ?_
    refine TO_cons rfl (TOp_pure (pur_move rfl) rfl ?_)
    refine TO_cons rfl (TOp_pure (pur_assign rfl) rfl ?_)
    refine TO_nil ?_
    refine T_keep [2] ?_
    simp only [pick, List.map, lk, put, val, constA, entry, cellsOf, cellVal, cellVals, List.drop, List.take, List.append_assoc, List.nil_append, List.cons_append, List.singleton_append, List.length_cons, List.length_nil, List.set_cons_zero, List.set_cons_succ, setRow, setSub, spl, Root.under, List.getElem?_cons_zero, List.getElem?_cons_succ, List.map_cons, List.map_nil, reduceIte, Nat.reduceEqDiff, Nat.reduceAdd, Nat.reduceSub, Int.toNat_natCast, Nat.succ_ne_zero, Nat.zero_ne_one, Nat.one_ne_zero]
    refine T_ret ?_
    have e : out = es := list_ext_getD (α := Int) hl (fun j hj => hall j (by omega))
    subst e
    exact end_own (.tmp .nil) rfl 1 (by decide) rfl rfl rfl rfl ⟨rfl, rfl⟩

theorem laws_toIntS (es : List Int) (he : es.length ≤ 1048576) : FnV prg 19 [.i 1 (ints es)] (.i 1 (ints es)) :=
  Sep.Fn.frz (laws_toIntS_own es he) fun r σ h => by obtain ⟨rfl, rfl⟩ := h; exact frz_ints rfl

/-- laws.eqIntS -/
theorem laws_eqIntS (xs ys : List Int) (ha : xs.length ≤ 9223372036854775807) (hb : ys.length ≤ 9223372036854775807) : FnV prg 21 [.i 1 (ints xs), .i 1 (ints ys)] (boolA (decide (xs = ys))) := by
  refine fnV_of_T Try.func21 rfl rfl (Nat.le_of_ble_eq_true rfl) ?_
  simp only [entry, Nat.reduceAdd]
  refine T_seq ?_
  refine T_region ?_
  refine TO_cons rfl (TOp_pure (pur_assign rfl) rfl ?_)
  refine TO_nil ?_
  refine T_keep [0, 1] ?_
  simp only [pick, List.map, lk, put, val, constA, entry, cellsOf, cellVal, cellVals, List.drop, List.take, List.append_assoc, List.nil_append, List.cons_append, List.singleton_append, List.length_cons, List.length_nil, List.set_cons_zero, List.set_cons_succ, setRow, setSub, spl, Root.under, List.getElem?_cons_zero, List.getElem?_cons_succ, List.map_cons, List.map_nil, reduceIte, Nat.reduceEqDiff, Nat.reduceAdd, Nat.reduceSub, Int.toNat_natCast, Nat.succ_ne_zero, Nat.zero_ne_one, Nat.one_ne_zero]
  refine T_seq ?_
  refine T_seq ?_
  refine T_region ?_
  refine TO_cons rfl (TOp_pure (pur_move rfl) rfl ?_)
  refine TO_cons rfl (TOp_pure (by first | exact pur_len sl31 rfl (by decide) rfl | exact pur_len_m sl31 rfl rfl | exact pur_len_n sl31 rfl rfl) rfl ?_)
  refine TO_cons rfl (TOp_pure (pur_move rfl) rfl ?_)
  refine TO_cons rfl (TOp_pure (by first | exact pur_len sl31 rfl (by decide) rfl | exact pur_len_m sl31 rfl rfl | exact pur_len_n sl31 rfl rfl) rfl ?_)
  refine TO_cons rfl (TOp_pure (pur_neq rfl rfl rfl) rfl ?_)
  refine TO_nil ?_
  refine T_keep [0, 1, 10] ?_
  simp only [pick, List.map, lk, put, val, constA, entry, cellsOf, cellVal, cellVals, List.drop, List.take, List.append_assoc, List.nil_append, List.cons_append, List.singleton_append, List.length_cons, List.length_nil, List.set_cons_zero, List.set_cons_succ, setRow, setSub, spl, Root.under, List.getElem?_cons_zero, List.getElem?_cons_succ, List.map_cons, List.map_nil, reduceIte, Nat.reduceEqDiff, Nat.reduceAdd, Nat.reduceSub, Int.toNat_natCast, Nat.succ_ne_zero, Nat.zero_ne_one, Nat.one_ne_zero]
  refine T_cond rfl (fun c1 => ?_) (fun c1 => ?_)
  · try simp only [decide_eq_true_eq, decide_eq_false_iff_not, Bool.not_eq_true', Bool.not_eq_false', Int.not_lt, Int.not_le, Int.ofNat_lt, Int.ofNat_le, Int.ofNat_inj, ne_eq, Decidable.not_not] at c1
    refine T_seq ?_
    refine T_region ?_
    refine TO_cons rfl (TOp_pure (pur_assign rfl) rfl ?_)
    refine TO_nil ?_
    refine T_keep [4] ?_
    simp only [pick, List.map, lk, put, val, constA, entry, cellsOf, cellVal, cellVals, List.drop, List.take, List.append_assoc, List.nil_append, List.cons_append, List.singleton_append, List.length_cons, List.length_nil, List.set_cons_zero, List.set_cons_succ, setRow, setSub, spl, Root.under, List.getElem?_cons_zero, List.getElem?_cons_succ, List.map_cons, List.map_nil, reduceIte, Nat.reduceEqDiff, Nat.reduceAdd, Nat.reduceSub, Int.toNat_natCast, Nat.succ_ne_zero, Nat.zero_ne_one, Nat.one_ne_zero]
    refine T_ret ?_
    refine then_ret ?_
    refine end_ret (.tmp .nil) rfl rfl ⟨?_, rfl⟩
    simp only [resA, lk, reduceIte, Nat.reduceEqDiff]
    refine congrArg boolA ?_
    first | (rw [decide_eq_true (list_ext_getD (α := Int) (by omega) (fun j hj => hall j (by omega)))]) | (rw [decide_eq_false]; intro h; subst h; simp_all)
  · try simp only [decide_eq_true_eq, decide_eq_false_iff_not, Bool.not_eq_true', Bool.not_eq_false', Int.not_lt, Int.not_le, Int.ofNat_lt, Int.ofNat_le, Int.ofNat_inj, ne_eq, Decidable.not_not] at c1
    refine T_skip ?_
    refine T_seq ?_
    refine T_seq ?_
    refine T_region ?_
    refine TO_cons rfl (TOp_pure (pur_assign rfl) rfl ?_)
    refine TO_nil ?_
    refine T_keep [0, 1, 5] ?_
    simp only [pick, List.map, lk, put, val, constA, entry, cellsOf, cellVal, cellVals, List.drop, List.take, List.append_assoc, List.nil_append, List.cons_append, List.singleton_append, List.length_cons, List.length_nil, List.set_cons_zero, List.set_cons_succ, setRow, setSub, spl, Root.under, List.getElem?_cons_zero, List.getElem?_cons_succ, List.map_cons, List.map_nil, reduceIte, Nat.reduceEqDiff, Nat.reduceAdd, Nat.reduceSub, Int.toNat_natCast, Nat.succ_ne_zero, Nat.zero_ne_one, Nat.one_ne_zero]
    refine T_block ?_
    refine T_loop (fun k E σ => ∃ (i : Nat), (i ≤ xs.length) ∧ (xs.length = ys.length) ∧ (∀ j, j < i → xs.getD j 0 = ys.getD j 0) ∧ k = xs.length - i ∧ E = [(0, .i 1 (ints xs)), (1, .i 1 (ints ys)), (5, natA i)] ∧ σ = []) _ (E0 := [(0, .i 1 (ints xs)), (1, .i 1 (ints ys)), (5, natA (0))]) (σ0 := []) (Weak.to0 rfl ⟨rfl, rfl, rfl, trivial⟩) ⟨(0), ?_, ?_, ?_, rfl, rfl, rfl⟩ ?_
    · (first | omega | (simp_all; done) | (simp_all; omega))
    · (first | omega | (simp_all; done) | (simp_all; omega))
    · (first | omega | (simp_all; done) | (simp_all; omega))
    rintro k E σ ⟨i, hi, hl, hall, rfl, rfl, rfl⟩
    refine T_seq ?_
    refine T_seq ?_
    refine T_region ?_
    refine TO_cons rfl (TOp_pure (pur_move rfl) rfl ?_)
    refine TO_cons rfl (TOp_pure (pur_move rfl) rfl ?_)
    refine TO_cons rfl (TOp_pure (by first | exact pur_len sl31 rfl (by decide) rfl | exact pur_len_m sl31 rfl rfl | exact pur_len_n sl31 rfl rfl) rfl ?_)
    refine TO_cons rfl (TOp_pure (pur_lss rfl rfl rfl) rfl ?_)
    refine TO_nil ?_
    refine T_keep [0, 1, 5, 14] ?_
    simp only [pick, List.map, lk, put, val, constA, entry, cellsOf, cellVal, cellVals, List.drop, List.take, List.append_assoc, List.nil_append, List.cons_append, List.singleton_append, List.length_cons, List.length_nil, List.set_cons_zero, List.set_cons_succ, setRow, setSub, spl, Root.under, List.getElem?_cons_zero, List.getElem?_cons_succ, List.map_cons, List.map_nil, reduceIte, Nat.reduceEqDiff, Nat.reduceAdd, Nat.reduceSub, Int.toNat_natCast, Nat.succ_ne_zero, Nat.zero_ne_one, Nat.one_ne_zero]
    refine T_cond rfl (fun c2 => ?_) (fun c2 => ?_)
    · try simp only [decide_eq_true_eq, decide_eq_false_iff_not, Bool.not_eq_true', Bool.not_eq_false', Int.not_lt, Int.not_le, Int.ofNat_lt, Int.ofNat_le, Int.ofNat_inj, ne_eq, Decidable.not_not] at c2
      refine T_skip ?_
      refine T_seq ?_
      refine T_block ?_
      refine T_seq ?_
      refine T_regionD mixed (by kernel_rfl) ?_
      refine TQ_pure rfl (pur_move rfl) rfl ?_
      refine TQ_pure rfl (pur_move rfl) rfl ?_
      refine TQ_pure rfl (by first | exact pur_ixN sl31 rfl rfl (by omega) rfl | exact pur_ixN_m sl31 rfl rfl (by omega) rfl | exact pur_ix sl31 rfl rfl (by omega) (by omega) rfl | exact pur_ix_m sl31 rfl rfl (by omega) (by omega) rfl) rfl ?_
      refine TQ_pure rfl (by first | exact pur_ld_b one3 rfl rfl rfl rfl | exact pur_ld_ints rfl one3 rfl rfl (by omega) | exact pur_lde_ints rfl one3 rfl rfl rfl (by omega) | exact pur_ld_q one3 rfl rfl rfl | exact pur_ld_e one3 rfl rfl rfl rfl) rfl ?_
      refine TQ_pure rfl (pur_move rfl) rfl ?_
      refine TQ_pure rfl (pur_move rfl) rfl ?_
      refine TQ_pure rfl (by first | exact pur_ixN sl31 rfl rfl (by omega) rfl | exact pur_ixN_m sl31 rfl rfl (by omega) rfl | exact pur_ix sl31 rfl rfl (by omega) (by omega) rfl | exact pur_ix_m sl31 rfl rfl (by omega) (by omega) rfl) rfl ?_
      refine TQ_pure rfl (by first | exact pur_ld_b one3 rfl rfl rfl rfl | exact pur_ld_ints rfl one3 rfl rfl (by omega) | exact pur_lde_ints rfl one3 rfl rfl rfl (by omega) | exact pur_ld_q one3 rfl rfl rfl | exact pur_ld_e one3 rfl rfl rfl rfl) rfl ?_
      refine TQ_pure rfl (pur_neq rfl rfl rfl) rfl ?_
      refine TQ_nil ?_
      refine T_keep [0, 1, 5, 25] ?_
      simp only [pick, List.map, lk, put, val, constA, entry, cellsOf, cellVal, cellVals, List.drop, List.take, List.append_assoc, List.nil_append, List.cons_append, List.singleton_append, List.length_cons, List.length_nil, List.set_cons_zero, List.set_cons_succ, setRow, setSub, spl, Root.under, List.getElem?_cons_zero, List.getElem?_cons_succ, List.map_cons, List.map_nil, reduceIte, Nat.reduceEqDiff, Nat.reduceAdd, Nat.reduceSub, Int.toNat_natCast, Nat.succ_ne_zero, Nat.zero_ne_one, Nat.one_ne_zero]
      refine T_cond rfl (fun c3 => ?_) (fun c3 => ?_)
      · try simp only [decide_eq_true_eq, decide_eq_false_iff_not, Bool.not_eq_true', Bool.not_eq_false', Int.not_lt, Int.not_le, Int.ofNat_lt, Int.ofNat_le, Int.ofNat_inj, ne_eq, Decidable.not_not] at c3
        refine T_seq ?_
        refine T_region ?_
        refine TO_cons rfl (TOp_pure (pur_assign rfl) rfl ?_)
        refine TO_nil ?_
        refine T_keep [4] ?_
        simp only [pick, List.map, lk, put, val, constA, entry, cellsOf, cellVal, cellVals, List.drop, List.take, List.append_assoc, List.nil_append, List.cons_append, List.singleton_append, List.length_cons, List.length_nil, List.set_cons_zero, List.set_cons_succ, setRow, setSub, spl, Root.under, List.getElem?_cons_zero, List.getElem?_cons_succ, List.map_cons, List.map_nil, reduceIte, Nat.reduceEqDiff, Nat.reduceAdd, Nat.reduceSub, Int.toNat_natCast, Nat.succ_ne_zero, Nat.zero_ne_one, Nat.one_ne_zero]
        refine T_ret ?_
        refine block_ret ?_
        refine then_ret ?_
        refine then_ret ?_
        refine block_ret ?_
        refine then_ret ?_
        refine end_ret (.tmp .nil) rfl rfl ⟨?_, rfl⟩
        simp only [resA, lk, reduceIte, Nat.reduceEqDiff]
        refine congrArg boolA ?_
        first | (rw [decide_eq_true (list_ext_getD (α := Int) (by omega) (fun j hj => hall j (by omega)))]) | (rw [decide_eq_false]; intro h; subst h; simp_all)
      · try simp only [decide_eq_true_eq, decide_eq_false_iff_not, Bool.not_eq_true', Bool.not_eq_false', Int.not_lt, Int.not_le, Int.ofNat_lt, Int.ofNat_le, Int.ofNat_inj, ne_eq, Decidable.not_not] at c3
        refine T_skip ?_
        refine T_region ?_
        refine TO_cons rfl (TOp_pure (pur_move rfl) rfl ?_)
        refine TO_cons rfl (TOp_pure (pur_add rfl rfl rfl (fits64 (by omega) (by omega))) rfl ?_)
        refine TO_cons rfl (TOp_pure (pur_assign rfl) rfl ?_)
        refine TO_nil ?_
        refine again0 (E' := [(0, .i 1 (ints xs)), (1, .i 1 (ints ys)), (5, natA (i + 1))]) (σ' := []) _ ?_ (Weak.to0 rfl ⟨rfl, rfl, rfl, trivial⟩) ⟨(i + 1), ?_, ?_, ?_, rfl, rfl, rfl⟩
        · omega
        · omega
        · exact hl
        · exact all_succ hall (by simp_all)
    · try simp only [decide_eq_true_eq, decide_eq_false_iff_not, Bool.not_eq_true', Bool.not_eq_false', Int.not_lt, Int.not_le, Int.ofNat_lt, Int.ofNat_le, Int.ofNat_inj, ne_eq, Decidable.not_not] at c2
      refine T_exit ?_
      refine then_exit ?_
      refine then_exit ?_
      refine block_exit ?_
      refine T_seq ?_
      refine T_region ?_
      refine TO_cons rfl (TOp_pure (pur_assign rfl) rfl ?_)
      refine TO_nil ?_
      refine T_keep [4] ?_
      simp only [pick, List.map, lk, put, val, constA, entry, cellsOf, cellVal, cellVals, List.drop, List.take, List.append_assoc, List.nil_append, List.cons_append, List.singleton_append, List.length_cons, List.length_nil, List.set_cons_zero, List.set_cons_succ, setRow, setSub, spl, Root.under, List.getElem?_cons_zero, List.getElem?_cons_succ, List.map_cons, List.map_nil, reduceIte, Nat.reduceEqDiff, Nat.reduceAdd, Nat.reduceSub, Int.toNat_natCast, Nat.succ_ne_zero, Nat.zero_ne_one, Nat.one_ne_zero]
      refine T_ret ?_
      refine end_ret (.tmp .nil) rfl rfl ⟨?_, rfl⟩
      simp only [resA, lk, reduceIte, Nat.reduceEqDiff]
      refine congrArg boolA ?_
      first | (rw [decide_eq_true (list_ext_getD (α := Int) (by omega) (fun j hj => hall j (by omega)))]) | (rw [decide_eq_false]; intro h; subst h; simp_all)
end Go.Proofs.Ytglgcncmjnjfgaa

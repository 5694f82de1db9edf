/- Contracts of functions of the program (base), each walked once. -/
import Derived.Test.YtglgcncmjnjfgaaProg
import Derived.Test.YtglgcncmjnjfgaaCN
set_option linter.unusedVariables false
set_option linter.unusedSimpArgs false
set_option maxRecDepth 4000
namespace Go.Proofs.Ytglgcncmjnjfgaa
open Go Go.Proofs Go.Sep
noncomputable abbrev prg := Try.prog
theorem agg52 : AggT prg 52 2 := .of (by kernel_rfl) (by kernel_rfl)
theorem agg54 : AggT prg 54 2 := .of (by kernel_rfl) (by kernel_rfl)
theorem bytes52 : (prg.info? 52).map (·.bytes) = some 16 := by kernel_rfl
theorem ent42 : EnT prg 42 := fun args w => by
  have h := Try.func42
  simp [callFunc, h, Try.f42]
theorem ent43 : EnT prg 43 := fun args w => by
  have h := Try.func43
  simp [callFunc, h, Try.f43]
theorem ent44 : EnT prg 44 := fun args w => by
  have h := Try.func44
  simp [callFunc, h, Try.f44]
theorem ent75 : EnT prg 75 := fun args w => by
  have h := Try.func75
  simp [callFunc, h, Try.f75]
theorem eqe52 : EqE prg 52 := .of (ti := 3) (by kernel_rfl) (by kernel_rfl) (by kernel_rfl) (by kernel_rfl) (by kernel_rfl)
theorem fld52_0 : FldT prg 52 0 0 3 := .of (by kernel_rfl) (by kernel_rfl)
theorem fld52_1 : FldT prg 52 1 1 3 := .of (by kernel_rfl) (by kernel_rfl)
theorem fld54_0 : FldT prg 54 0 0 3 := .of (by kernel_rfl) (by kernel_rfl)
theorem fld54_1 : FldT prg 54 1 1 3 := .of (by kernel_rfl) (by kernel_rfl)
theorem mixed : prg.follows .mixedOrders = true := by kernel_rfl
theorem one3 : OneT prg 3 := .of (by kernel_rfl)
theorem sl22 : SlT prg 22 54 2 := .of (by kernel_rfl) (by kernel_rfl) (by decide)
theorem sl25 : SlT prg 25 52 2 := .of (by kernel_rfl) (by kernel_rfl) (by decide)
theorem sz3 : SzT prg 3 1 := .of (by kernel_rfl)
theorem sz52 : SzT prg 52 2 := .of (by kernel_rfl)
theorem zero52 : ZeroT prg 52 [.int .i64 0, .int .i64 0] := .of (by kernel_rfl) (by decide)
theorem bld52 : BldT prg 52 [(0, 1), (1, 1)] [.int .i64 0, .int .i64 0] := .of zero52 (by kernel_rfl) (by decide)

theorem set_all {α : Type} [Inhabited α] {out es : List α} {i : Nat} (h : ∀ j, j < i → out.getD j default = es.getD j default) (hi : i < out.length) : ∀ j, j < i + 1 → (out.set i (es.getD i default)).getD j default = es.getD j default := fun j hj => by
  simp only [List.getD, List.getElem?_set]
  by_cases e : i = j
  · subst e; simp [hi]
  · rw [if_neg e]; exact h j (by omega)
theorem all_succ {p : Nat → Prop} {i : Nat} (h : ∀ j, j < i → p j) (hi : p i) : ∀ j, j < i + 1 → p j := fun j hj => by
  rcases Nat.lt_or_eq_of_le (Nat.le_of_lt_succ hj) with h1 | rfl
  · exact h j h1
  · exact hi
theorem any_hit {α : Type} [Inhabited α] {p : α → Bool} {xs : List α} {i : Nat} (hi : i < xs.length) (h : p (xs.getD i default) = true) : xs.any p = true := by
  rw [List.any_eq_true]
  exact ⟨xs.getD i default, by simp [List.getD, hi], h⟩
theorem any_miss {α : Type} [Inhabited α] {p : α → Bool} {xs : List α} (h : ∀ j, j < xs.length → p (xs.getD j default) = false) : xs.any p = false := by
  rw [List.any_eq_false]
  intro x hx
  obtain ⟨j, hj, rfl⟩ := List.getElem_of_mem hx
  have := h j hj
  simp only [List.getD, List.getElem?_eq_getElem hj, Option.getD_some] at this
  simp [this]
theorem list_ext_getD {α : Type} [Inhabited α] {xs ys : List α} (hl : xs.length = ys.length) (h : ∀ j, j < xs.length → xs.getD j default = ys.getD j default) : xs = ys := by
  apply List.ext_getElem hl
  intro j h1 h2
  have := h j h1
  simpa [List.getD, h1, h2] using this
/-- The place of the first x, or -1. -/
def idx {α : Type} [DecidableEq α] (xs : List α) (x : α) : Int := match xs.findIdx? (fun y => decide (x = y)) with | some i => i | none => -1
theorem idx_hit {α : Type} [DecidableEq α] (xs : List α) (x d : α) (i : Nat) (hi : i < xs.length) (h : x = xs.getD i d) (hall : ∀ j, j < i → ¬ x = xs.getD j d) : idx xs x = i := by
  have : xs.findIdx? (fun y => decide (x = y)) = some i := by
    rw [List.findIdx?_eq_some_iff_getElem]
    refine ⟨hi, by simpa [List.getD, hi] using h, fun j hj => ?_⟩
    have := hall j hj
    simpa [List.getD, show j < xs.length by omega] using this
  simp [idx, this]
theorem idx_miss {α : Type} [DecidableEq α] (xs : List α) (x d : α) (hall : ∀ j, j < xs.length → ¬ x = xs.getD j d) : idx xs x = -1 := by
  have : xs.findIdx? (fun y => decide (x = y)) = none := by
    rw [List.findIdx?_eq_none_iff]
    intro y hy
    obtain ⟨j, hj, rfl⟩ := List.getElem_of_mem hy
    have := hall j hj
    simpa [List.getD, hj] using this
  simp [idx, this]
theorem idx_nonneg {α : Type} [DecidableEq α] (xs : List α) (x : α) : 0 ≤ idx xs x ↔ x ∈ xs := by
  unfold idx
  cases h : xs.findIdx? (fun y => decide (x = y)) with
  | some i =>
    rw [List.findIdx?_eq_some_iff_getElem] at h
    obtain ⟨hi, h1, _⟩ := h
    have : x = xs[i] := by simpa using h1
    have hm : x ∈ xs := this ▸ List.getElem_mem hi
    simp [hm]
  | none =>
    rw [List.findIdx?_eq_none_iff] at h
    have hm : ¬ x ∈ xs := fun hx => by simpa using h x hx
    simp [hm]
theorem idx_ge {α : Type} [DecidableEq α] (xs : List α) (x : α) : -1 ≤ idx xs x ∧ idx xs x < xs.length := by
  unfold idx
  cases h : xs.findIdx? (fun y => decide (x = y)) with
  | some i =>
    rw [List.findIdx?_eq_some_iff_getElem] at h
    obtain ⟨hi, _, _⟩ := h
    simp; omega
  | none => simp; omega
theorem any_mem (es : List (Int × Int)) (a b : Int) : (es.any fun e => decide (e.1 = a) && decide (e.2 = b)) = decide ((a, b) ∈ es) := by
  rw [Bool.eq_iff_iff]; simp only [List.any_eq_true, Bool.and_eq_true, decide_eq_true_eq]
  exact ⟨fun ⟨e, h, h1, h2⟩ => by subst h1; subst h2; exact h, fun h => ⟨_, h, rfl, rfl⟩⟩

/-- laws.szConflictEdgeS -/
theorem laws_szConflictEdgeS (es : List (Int × Int)) (left : Int) (he : es.length ≤ 9223372036854775807) (h0 : 0 ≤ left) (h1 : left ≤ 1048576) : FnV prg 11 [edgesI es, intA left] (intA (if (es.length : Int) ≤ left then left - es.length else -1)) := by
  refine fnV_of_T Try.func11 rfl rfl (Nat.le_of_ble_eq_true rfl) ?_
  simp only [entry, Nat.reduceAdd]
  refine T_seq ?_
  refine T_region ?_
  refine TO_cons rfl (TOp_pure (pur_assign rfl) rfl ?_)
  refine TO_nil ?_
  refine T_keep [0, 1] ?_
  simp only [pick, List.map, lk, put, val, constA, entry, cellsOf, cellVal, cellVals, List.drop, List.take, List.append_assoc, List.nil_append, List.cons_append, List.singleton_append, List.length_cons, List.length_nil, List.set_cons_zero, List.set_cons_succ, setRow, setSub, spl, Root.under, List.getElem?_cons_zero, List.getElem?_cons_succ, List.map_cons, List.map_nil, reduceIte, Nat.reduceEqDiff, Nat.reduceAdd, Nat.reduceSub, Int.toNat_natCast, Nat.succ_ne_zero, Nat.zero_ne_one, Nat.one_ne_zero]
  refine T_seq ?_
  refine T_region ?_
  refine TO_cons rfl (TOp_pure (pur_move rfl) rfl ?_)
  refine TO_cons rfl (TOp_pure (pur_move rfl) rfl ?_)
  refine TO_cons rfl (TOp_pure (by first | exact pur_len sl22 rfl (by decide) rfl | exact pur_len_m sl22 rfl rfl | exact pur_len_n sl22 rfl rfl) rfl ?_)
  refine TO_cons rfl (TOp_pure (pur_sub rfl rfl rfl (fits64 (by omega) (by omega))) rfl ?_)
  refine TO_cons rfl (TOp_pure (pur_assign rfl) rfl ?_)
  refine TO_nil ?_
  refine T_keep [1] ?_
  simp only [pick, List.map, lk, put, val, constA, entry, cellsOf, cellVal, cellVals, List.drop, List.take, List.append_assoc, List.nil_append, List.cons_append, List.singleton_append, List.length_cons, List.length_nil, List.set_cons_zero, List.set_cons_succ, setRow, setSub, spl, Root.under, List.getElem?_cons_zero, List.getElem?_cons_succ, List.map_cons, List.map_nil, reduceIte, Nat.reduceEqDiff, Nat.reduceAdd, Nat.reduceSub, Int.toNat_natCast, Nat.succ_ne_zero, Nat.zero_ne_one, Nat.one_ne_zero]
  refine T_seq ?_
  refine T_seq ?_
  refine T_region ?_
  refine TO_cons rfl (TOp_pure (pur_move rfl) rfl ?_)
  refine TO_cons rfl (TOp_pure (pur_lss rfl rfl rfl) rfl ?_)
  refine TO_nil ?_
  refine T_keep [1, 10] ?_
  simp only [pick, List.map, lk, put, val, constA, entry, cellsOf, cellVal, cellVals, List.drop, List.take, List.append_assoc, List.nil_append, List.cons_append, List.singleton_append, List.length_cons, List.length_nil, List.set_cons_zero, List.set_cons_succ, setRow, setSub, spl, Root.under, List.getElem?_cons_zero, List.getElem?_cons_succ, List.map_cons, List.map_nil, reduceIte, Nat.reduceEqDiff, Nat.reduceAdd, Nat.reduceSub, Int.toNat_natCast, Nat.succ_ne_zero, Nat.zero_ne_one, Nat.one_ne_zero]
  refine T_cond rfl (fun c1 => ?_) (fun c1 => ?_)
  · try simp only [decide_eq_true_eq, decide_eq_false_iff_not, Bool.not_eq_true', Bool.not_eq_false', Int.not_lt, Int.not_le, Int.ofNat_lt, Int.ofNat_le, Int.ofNat_inj, ne_eq, Decidable.not_not] at c1
    refine T_seq ?_
    refine T_region ?_
    refine TO_cons rfl (TOp_pure (pur_assign rfl) rfl ?_)
    refine TO_nil ?_
    refine T_keep [4] ?_
    simp only [pick, List.map, lk, put, val, constA, entry, cellsOf, cellVal, cellVals, List.drop, List.take, List.append_assoc, List.nil_append, List.cons_append, List.singleton_append, List.length_cons, List.length_nil, List.set_cons_zero, List.set_cons_succ, setRow, setSub, spl, Root.under, List.getElem?_cons_zero, List.getElem?_cons_succ, List.map_cons, List.map_nil, reduceIte, Nat.reduceEqDiff, Nat.reduceAdd, Nat.reduceSub, Int.toNat_natCast, Nat.succ_ne_zero, Nat.zero_ne_one, Nat.one_ne_zero]
    refine T_ret ?_
    refine then_ret ?_
    refine end_ret (.tmp .nil) rfl rfl ⟨?_, rfl⟩
    simp only [resA, lk, reduceIte, Nat.reduceEqDiff]
    first | rw [if_pos (by omega)] | rw [if_neg (by omega)]
  · try simp only [decide_eq_true_eq, decide_eq_false_iff_not, Bool.not_eq_true', Bool.not_eq_false', Int.not_lt, Int.not_le, Int.ofNat_lt, Int.ofNat_le, Int.ofNat_inj, ne_eq, Decidable.not_not] at c1
    refine T_skip ?_
    refine T_seq ?_
    refine T_region ?_
    refine TO_cons rfl (TOp_pure (pur_move rfl) rfl ?_)
    refine TO_cons rfl (TOp_pure (pur_assign rfl) rfl ?_)
    refine TO_nil ?_
    refine T_keep [4] ?_
    simp only [pick, List.map, lk, put, val, constA, entry, cellsOf, cellVal, cellVals, List.drop, List.take, List.append_assoc, List.nil_append, List.cons_append, List.singleton_append, List.length_cons, List.length_nil, List.set_cons_zero, List.set_cons_succ, setRow, setSub, spl, Root.under, List.getElem?_cons_zero, List.getElem?_cons_succ, List.map_cons, List.map_nil, reduceIte, Nat.reduceEqDiff, Nat.reduceAdd, Nat.reduceSub, Int.toNat_natCast, Nat.succ_ne_zero, Nat.zero_ne_one, Nat.one_ne_zero]
    refine T_ret ?_
    refine end_ret (.tmp .nil) rfl rfl ⟨?_, rfl⟩
    simp only [resA, lk, reduceIte, Nat.reduceEqDiff]
    first | rw [if_pos (by omega)] | rw [if_neg (by omega)]

/-- spec.IsPreferred -/
theorem spec_IsPreferred (es : List (Int × Int)) (a b : Int) (he : es.length ≤ 9223372036854775807) : FnV prg 12 [edgesI es, intA a, intA b] (boolA (es.any fun e => decide (e.1 = a) && decide (e.2 = b))) := by
  refine fnV_of_T Try.func12 rfl rfl (Nat.le_of_ble_eq_true rfl) ?_
  simp only [entry, Nat.reduceAdd]
  refine T_seq ?_
  refine T_region ?_
  refine TO_cons rfl (TOp_pure (pur_assign rfl) rfl ?_)
  refine TO_nil ?_
  refine T_keep [0, 1, 2] ?_
  simp only [pick, List.map, lk, put, val, constA, entry, cellsOf, cellVal, cellVals, List.drop, List.take, List.append_assoc, List.nil_append, List.cons_append, List.singleton_append, List.length_cons, List.length_nil, List.set_cons_zero, List.set_cons_succ, setRow, setSub, spl, Root.under, List.getElem?_cons_zero, List.getElem?_cons_succ, List.map_cons, List.map_nil, reduceIte, Nat.reduceEqDiff, Nat.reduceAdd, Nat.reduceSub, Int.toNat_natCast, Nat.succ_ne_zero, Nat.zero_ne_one, Nat.one_ne_zero]
  refine T_seq ?_
  refine T_seq ?_
  refine T_region ?_
  refine TO_cons rfl (TOp_pure (pur_assign rfl) rfl ?_)
  refine TO_nil ?_
  refine T_keep [0, 1, 2, 7] ?_
  simp only [pick, List.map, lk, put, val, constA, entry, cellsOf, cellVal, cellVals, List.drop, List.take, List.append_assoc, List.nil_append, List.cons_append, List.singleton_append, List.length_cons, List.length_nil, List.set_cons_zero, List.set_cons_succ, setRow, setSub, spl, Root.under, List.getElem?_cons_zero, List.getElem?_cons_succ, List.map_cons, List.map_nil, reduceIte, Nat.reduceEqDiff, Nat.reduceAdd, Nat.reduceSub, Int.toNat_natCast, Nat.succ_ne_zero, Nat.zero_ne_one, Nat.one_ne_zero]
  refine T_block ?_
  refine T_loop (fun k E σ => ∃ (i : Nat), (i ≤ es.length) ∧ (∀ j, j < i → (decide ((es.getD j default).1 = a) && decide ((es.getD j default).2 = b)) = false) ∧ k = es.length - i ∧ E = [(0, edgesI es), (1, intA a), (2, intA b), (7, natA i)] ∧ σ = []) _ (E0 := [(0, edgesI es), (1, intA a), (2, intA b), (7, natA (0))]) (σ0 := []) (Weak.to0 rfl ⟨rfl, rfl, rfl, rfl, trivial⟩) ⟨(0), ?_, ?_, rfl, rfl, rfl⟩ ?_
  · (first | omega | (simp_all; done) | (simp_all; omega))
  · (first | omega | (simp_all; done) | (simp_all; omega))
  rintro k E σ ⟨i, hi, hall, rfl, rfl, rfl⟩
  refine T_seq ?_
  refine T_seq ?_
  refine T_region ?_
  refine TO_cons rfl (TOp_pure (pur_move rfl) rfl ?_)
  refine TO_cons rfl (TOp_pure (pur_move rfl) rfl ?_)
  refine TO_cons rfl (TOp_pure (by first | exact pur_len sl25 rfl (by decide) rfl | exact pur_len_m sl25 rfl rfl | exact pur_len_n sl25 rfl rfl) rfl ?_)
  refine TO_cons rfl (TOp_pure (pur_lss rfl rfl rfl) rfl ?_)
  refine TO_nil ?_
  refine T_keep [0, 1, 2, 7, 11] ?_
  simp only [pick, List.map, lk, put, val, constA, entry, cellsOf, cellVal, cellVals, List.drop, List.take, List.append_assoc, List.nil_append, List.cons_append, List.singleton_append, List.length_cons, List.length_nil, List.set_cons_zero, List.set_cons_succ, setRow, setSub, spl, Root.under, List.getElem?_cons_zero, List.getElem?_cons_succ, List.map_cons, List.map_nil, reduceIte, Nat.reduceEqDiff, Nat.reduceAdd, Nat.reduceSub, Int.toNat_natCast, Nat.succ_ne_zero, Nat.zero_ne_one, Nat.one_ne_zero]
  refine T_cond rfl (fun c1 => ?_) (fun c1 => ?_)
  · try simp only [decide_eq_true_eq, decide_eq_false_iff_not, Bool.not_eq_true', Bool.not_eq_false', Int.not_lt, Int.not_le, Int.ofNat_lt, Int.ofNat_le, Int.ofNat_inj, ne_eq, Decidable.not_not] at c1
    refine T_skip ?_
    refine T_seq ?_
    refine T_block ?_
    refine T_seq ?_
    refine T_region ?_
    refine TO_cons rfl (TOp_pure (pur_move rfl) rfl ?_)
    refine TO_cons rfl (TOp_pure (pur_move rfl) rfl ?_)
    refine TO_cons rfl (TOp_pure (by first | exact pur_ixN sl25 rfl rfl (by omega) rfl | exact pur_ixN_m sl25 rfl rfl (by omega) rfl | exact pur_ix sl25 rfl rfl (by omega) (by omega) rfl | exact pur_ix_m sl25 rfl rfl (by omega) (by omega) rfl) rfl ?_)
    refine TO_cons rfl (TOp_pure (by first | exact pur_fa_q fld52_0 rfl rfl | exact pur_fa_b fld52_0 rfl rfl | exact pur_fa_e fld52_0 rfl rfl) rfl ?_)
    refine TO_cons rfl (TOp_pure (by first | exact pur_ld_b one3 rfl rfl rfl rfl | exact pur_ld_flat rfl _ 0 len_edge one3 rfl rfl (by omega) rfl | exact pur_ld_q one3 rfl rfl rfl | exact pur_ld_e one3 rfl rfl rfl rfl) rfl ?_)
    refine TO_cons rfl (TOp_pure (pur_move rfl) rfl ?_)
    refine TO_cons rfl (TOp_pure (pur_eql rfl rfl rfl) rfl ?_)
    refine TO_cons rfl (TOp_pure (pur_move rfl) rfl ?_)
    refine TO_split 21 rfl (fun g2 => ?_) (fun g2 => ?_)
    · try simp only [decide_eq_true_eq, decide_eq_false_iff_not, Bool.not_eq_true', Bool.not_eq_false', Int.not_lt, Int.not_le, Int.ofNat_lt, Int.ofNat_le, Int.ofNat_inj, ne_eq, Decidable.not_not] at g2
      refine TO_on rfl rfl (by decide) rfl rfl (TOp_pure (pur_move rfl) rfl ?_)
      refine TO_on rfl rfl (by decide) rfl rfl (TOp_pure (pur_move rfl) rfl ?_)
      refine TO_on rfl rfl (by decide) rfl rfl (TOp_pure (by first | exact pur_ixN sl25 rfl rfl (by omega) rfl | exact pur_ixN_m sl25 rfl rfl (by omega) rfl | exact pur_ix sl25 rfl rfl (by omega) (by omega) rfl | exact pur_ix_m sl25 rfl rfl (by omega) (by omega) rfl) rfl ?_)
      refine TO_on rfl rfl (by decide) rfl rfl (TOp_pure (by first | exact pur_fa_q fld52_1 rfl rfl | exact pur_fa_b fld52_1 rfl rfl | exact pur_fa_e fld52_1 rfl rfl) rfl ?_)
      refine TO_on rfl rfl (by decide) rfl rfl (TOp_pure (by first | exact pur_ld_b one3 rfl rfl rfl rfl | exact pur_ld_flat rfl _ 1 len_edge one3 rfl rfl (by omega) rfl | exact pur_ld_q one3 rfl rfl rfl | exact pur_ld_e one3 rfl rfl rfl rfl) rfl ?_)
      refine TO_on rfl rfl (by decide) rfl rfl (TOp_pure (pur_move rfl) rfl ?_)
      refine TO_on rfl rfl (by decide) rfl rfl (TOp_pure (pur_eql rfl rfl rfl) rfl ?_)
      refine TO_cons rfl (TOp_pure (pur_pick rfl rfl rfl) rfl ?_)
      refine TO_nil ?_
      refine T_keep [0, 1, 2, 7, 29] ?_
      simp only [pick, List.map, lk, put, val, constA, entry, cellsOf, cellVal, cellVals, List.drop, List.take, List.append_assoc, List.nil_append, List.cons_append, List.singleton_append, List.length_cons, List.length_nil, List.set_cons_zero, List.set_cons_succ, setRow, setSub, spl, Root.under, List.getElem?_cons_zero, List.getElem?_cons_succ, List.map_cons, List.map_nil, reduceIte, Nat.reduceEqDiff, Nat.reduceAdd, Nat.reduceSub, Int.toNat_natCast, Nat.succ_ne_zero, Nat.zero_ne_one, Nat.one_ne_zero]
      refine T_cond rfl (fun c3 => ?_) (fun c3 => ?_)
      · try simp only [decide_eq_true_eq, decide_eq_false_iff_not, Bool.not_eq_true', Bool.not_eq_false', Int.not_lt, Int.not_le, Int.ofNat_lt, Int.ofNat_le, Int.ofNat_inj, ne_eq, Decidable.not_not] at c3
        refine T_seq ?_
        refine T_region ?_
        refine TO_cons rfl (TOp_pure (pur_assign rfl) rfl ?_)
        refine TO_nil ?_
        refine T_keep [6] ?_
        simp only [pick, List.map, lk, put, val, constA, entry, cellsOf, cellVal, cellVals, List.drop, List.take, List.append_assoc, List.nil_append, List.cons_append, List.singleton_append, List.length_cons, List.length_nil, List.set_cons_zero, List.set_cons_succ, setRow, setSub, spl, Root.under, List.getElem?_cons_zero, List.getElem?_cons_succ, List.map_cons, List.map_nil, reduceIte, Nat.reduceEqDiff, Nat.reduceAdd, Nat.reduceSub, Int.toNat_natCast, Nat.succ_ne_zero, Nat.zero_ne_one, Nat.one_ne_zero]
        refine T_ret ?_
        refine block_ret ?_
        refine then_ret ?_
        refine then_ret ?_
        refine block_ret ?_
        refine then_ret ?_
        refine end_ret (.tmp .nil) rfl rfl ⟨?_, rfl⟩
        simp only [resA, lk, reduceIte, Nat.reduceEqDiff]
        first | (rw [any_hit (i := i) (by omega) (by simp_all)]) | (rw [any_miss (fun j hj => hall j (by omega))])
      · try simp only [decide_eq_true_eq, decide_eq_false_iff_not, Bool.not_eq_true', Bool.not_eq_false', Int.not_lt, Int.not_le, Int.ofNat_lt, Int.ofNat_le, Int.ofNat_inj, ne_eq, Decidable.not_not] at c3
        refine T_skip ?_
        refine T_region ?_
        refine TO_cons rfl (TOp_pure (pur_move rfl) rfl ?_)
        refine TO_cons rfl (TOp_pure (pur_add rfl rfl rfl (fits64 (by omega) (by omega))) rfl ?_)
        refine TO_cons rfl (TOp_pure (pur_assign rfl) rfl ?_)
        refine TO_nil ?_
        refine again0 (E' := [(0, edgesI es), (1, intA a), (2, intA b), (7, natA (i + 1))]) (σ' := []) _ ?_ (Weak.to0 rfl ⟨rfl, rfl, rfl, rfl, trivial⟩) ⟨(i + 1), ?_, ?_, rfl, rfl, rfl⟩
        · omega
        · omega
        · exact all_succ hall (by simp_all)
    · try simp only [decide_eq_true_eq, decide_eq_false_iff_not, Bool.not_eq_true', Bool.not_eq_false', Int.not_lt, Int.not_le, Int.ofNat_lt, Int.ofNat_le, Int.ofNat_inj, ne_eq, Decidable.not_not] at g2
      refine TO_off rfl rfl (by decide) rfl rfl rfl ?_
      refine TO_off rfl rfl (by decide) rfl rfl rfl ?_
      refine TO_off rfl rfl (by decide) rfl rfl rfl ?_
      refine TO_off rfl rfl (by decide) rfl rfl rfl ?_
      refine TO_off rfl rfl (by decide) rfl rfl rfl ?_
      refine TO_off rfl rfl (by decide) rfl rfl rfl ?_
      refine TO_off rfl rfl (by decide) rfl rfl rfl ?_
      refine TO_cons rfl (TOp_pure (pur_pick rfl rfl rfl) rfl ?_)
      refine TO_nil ?_
      refine T_keep [0, 1, 2, 7, 29] ?_
      simp only [pick, List.map, lk, put, val, constA, entry, cellsOf, cellVal, cellVals, List.drop, List.take, List.append_assoc, List.nil_append, List.cons_append, List.singleton_append, List.length_cons, List.length_nil, List.set_cons_zero, List.set_cons_succ, setRow, setSub, spl, Root.under, List.getElem?_cons_zero, List.getElem?_cons_succ, List.map_cons, List.map_nil, reduceIte, Nat.reduceEqDiff, Nat.reduceAdd, Nat.reduceSub, Int.toNat_natCast, Nat.succ_ne_zero, Nat.zero_ne_one, Nat.one_ne_zero]
      refine T_cond (t := false) rfl (fun h => nomatch h) (fun _ => ?_)
      refine T_skip ?_
      refine T_region ?_
      refine TO_cons rfl (TOp_pure (pur_move rfl) rfl ?_)
      refine TO_cons rfl (TOp_pure (pur_add rfl rfl rfl (fits64 (by omega) (by omega))) rfl ?_)
      refine TO_cons rfl (TOp_pure (pur_assign rfl) rfl ?_)
      refine TO_nil ?_
      refine again0 (E' := [(0, edgesI es), (1, intA a), (2, intA b), (7, natA (i + 1))]) (σ' := []) _ ?_ (Weak.to0 rfl ⟨rfl, rfl, rfl, rfl, trivial⟩) ⟨(i + 1), ?_, ?_, rfl, rfl, rfl⟩
      · omega
      · omega
      · exact all_succ hall (by simp_all)
  · try simp only [decide_eq_true_eq, decide_eq_false_iff_not, Bool.not_eq_true', Bool.not_eq_false', Int.not_lt, Int.not_le, Int.ofNat_lt, Int.ofNat_le, Int.ofNat_inj, ne_eq, Decidable.not_not] at c1
    refine T_exit ?_
    refine then_exit ?_
    refine then_exit ?_
    refine block_exit ?_
    refine T_seq ?_
    refine T_region ?_
    refine TO_cons rfl (TOp_pure (pur_assign rfl) rfl ?_)
    refine TO_nil ?_
    refine T_keep [6] ?_
    simp only [pick, List.map, lk, put, val, constA, entry, cellsOf, cellVal, cellVals, List.drop, List.take, List.append_assoc, List.nil_append, List.cons_append, List.singleton_append, List.length_cons, List.length_nil, List.set_cons_zero, List.set_cons_succ, setRow, setSub, spl, Root.under, List.getElem?_cons_zero, List.getElem?_cons_succ, List.map_cons, List.map_nil, reduceIte, Nat.reduceEqDiff, Nat.reduceAdd, Nat.reduceSub, Int.toNat_natCast, Nat.succ_ne_zero, Nat.zero_ne_one, Nat.one_ne_zero]
    refine T_ret ?_
    refine end_ret (.tmp .nil) rfl rfl ⟨?_, rfl⟩
    simp only [resA, lk, reduceIte, Nat.reduceEqDiff]
    first | (rw [any_hit (i := i) (by omega) (by simp_all)]) | (rw [any_miss (fun j hj => hall j (by omega))])

/-- laws.toConflictEdge -/
theorem laws_toConflictEdge (e : Int × Int)  : FnV prg 42 [.g (edge e)] (.g (edge e)) := by
  refine fnV_of_T Try.func42 rfl rfl (Nat.le_of_ble_eq_true rfl) ?_
  simp only [entry, Nat.reduceAdd]
  refine T_seq ?_
  refine T_region ?_
  refine TO_cons rfl (TOp_box rfl (boxAll rfl) rfl rfl ?_)
  refine TO_cons rfl (TOp_alloc zero52 rfl rfl ?_)
  refine TO_nil ?_
  refine T_keep [1, 2] ?_
  simp only [pick, List.map, lk, put, val, constA, entry, cellsOf, cellVal, cellVals, List.drop, List.take, List.append_assoc, List.nil_append, List.cons_append, List.singleton_append, List.length_cons, List.length_nil, List.set_cons_zero, List.set_cons_succ, setRow, setSub, spl, Root.under, List.getElem?_cons_zero, List.getElem?_cons_succ, List.map_cons, List.map_nil, reduceIte, Nat.reduceEqDiff, Nat.reduceAdd, Nat.reduceSub, Int.toNat_natCast, Nat.succ_ne_zero, Nat.zero_ne_one, Nat.one_ne_zero]
  refine T_seq ?_
  refine T_region ?_
  refine TO_cons rfl (TOp_alloc zero52 rfl rfl ?_)
  refine TO_nil ?_
  refine T_keep [1, 2, 3] ?_
  simp only [pick, List.map, lk, put, val, constA, entry, cellsOf, cellVal, cellVals, List.drop, List.take, List.append_assoc, List.nil_append, List.cons_append, List.singleton_append, List.length_cons, List.length_nil, List.set_cons_zero, List.set_cons_succ, setRow, setSub, spl, Root.under, List.getElem?_cons_zero, List.getElem?_cons_succ, List.map_cons, List.map_nil, reduceIte, Nat.reduceEqDiff, Nat.reduceAdd, Nat.reduceSub, Int.toNat_natCast, Nat.succ_ne_zero, Nat.zero_ne_one, Nat.one_ne_zero]
  refine T_seq ?_
  refine T_region ?_
  refine TO_cons rfl (TOp_pure (by first | exact pur_fa_q fld54_0 rfl rfl | exact pur_fa_b fld54_0 rfl rfl | exact pur_fa_e fld54_0 rfl rfl) rfl ?_)
  refine TO_cons rfl (TOp_pure (by first | exact pur_ld_b one3 rfl rfl rfl rfl | exact pur_ld_flat rfl _ 0 len_edge one3 rfl rfl (by omega) rfl | exact pur_ld_q one3 rfl rfl rfl | exact pur_ld_e one3 rfl rfl rfl rfl) rfl ?_)
  refine TO_cons rfl (TOp_pure (by first | exact pur_fa_q fld52_0 rfl rfl | exact pur_fa_b fld52_0 rfl rfl | exact pur_fa_e fld52_0 rfl rfl) rfl ?_)
  first | refine TO_cons rfl (TOp_storeB sz3 rfl rfl rfl rfl rfl rfl rfl (by decide) (Nat.le_of_ble_eq_true rfl) rfl ?_) | refine TO_cons rfl (TOp_setI sz3 rfl rfl rfl rfl rfl (by omega) rfl ?_)
  refine TO_nil ?_
  refine T_keep [1, 2, 3] ?_
  simp only [pick, List.map, lk, put, val, constA, entry, cellsOf, cellVal, cellVals, List.drop, List.take, List.append_assoc, List.nil_append, List.cons_append, List.singleton_append, List.length_cons, List.length_nil, List.set_cons_zero, List.set_cons_succ, setRow, setSub, spl, Root.under, List.getElem?_cons_zero, List.getElem?_cons_succ, List.map_cons, List.map_nil, reduceIte, Nat.reduceEqDiff, Nat.reduceAdd, Nat.reduceSub, Int.toNat_natCast, Nat.succ_ne_zero, Nat.zero_ne_one, Nat.one_ne_zero]
  refine T_seq ?_
  refine T_region ?_
  refine TO_cons rfl (TOp_pure (by first | exact pur_fa_q fld54_1 rfl rfl | exact pur_fa_b fld54_1 rfl rfl | exact pur_fa_e fld54_1 rfl rfl) rfl ?_)
  refine TO_cons rfl (TOp_pure (by first | exact pur_ld_b one3 rfl rfl rfl rfl | exact pur_ld_flat rfl _ 1 len_edge one3 rfl rfl (by omega) rfl | exact pur_ld_q one3 rfl rfl rfl | exact pur_ld_e one3 rfl rfl rfl rfl) rfl ?_)
  refine TO_cons rfl (TOp_pure (by first | exact pur_fa_q fld52_1 rfl rfl | exact pur_fa_b fld52_1 rfl rfl | exact pur_fa_e fld52_1 rfl rfl) rfl ?_)
  first | refine TO_cons rfl (TOp_storeB sz3 rfl rfl rfl rfl rfl rfl rfl (by decide) (Nat.le_of_ble_eq_true rfl) rfl ?_) | refine TO_cons rfl (TOp_setI sz3 rfl rfl rfl rfl rfl (by omega) rfl ?_)
  refine TO_nil ?_
  refine T_keep [2, 3] ?_
  simp only [pick, List.map, lk, put, val, constA, entry, cellsOf, cellVal, cellVals, List.drop, List.take, List.append_assoc, List.nil_append, List.cons_append, List.singleton_append, List.length_cons, List.length_nil, List.set_cons_zero, List.set_cons_succ, setRow, setSub, spl, Root.under, List.getElem?_cons_zero, List.getElem?_cons_succ, List.map_cons, List.map_nil, reduceIte, Nat.reduceEqDiff, Nat.reduceAdd, Nat.reduceSub, Int.toNat_natCast, Nat.succ_ne_zero, Nat.zero_ne_one, Nat.one_ne_zero]
  refine T_seq ?_
  refine T_region ?_
  refine TO_cons rfl (TOp_pure (by first | exact pur_ldK_b agg52 rfl rfl (Nat.le_of_ble_eq_true rfl) rfl | exact pur_ldK_flat rfl _ len_edge agg52 rfl rfl (by omega)) rfl ?_)
  first | refine TO_cons rfl (TOp_storeB sz52 rfl rfl rfl rfl rfl rfl rfl (by decide) (Nat.le_of_ble_eq_true rfl) rfl ?_) | refine TO_cons rfl (TOp_setF len_edge (by decide) sz52 rfl rfl rfl rfl rfl (by omega) rfl rfl ?_)
  refine TO_nil ?_
  refine T_keep [2] ?_
  simp only [pick, List.map, lk, put, val, constA, entry, cellsOf, cellVal, cellVals, List.drop, List.take, List.append_assoc, List.nil_append, List.cons_append, List.singleton_append, List.length_cons, List.length_nil, List.set_cons_zero, List.set_cons_succ, setRow, setSub, spl, Root.under, List.getElem?_cons_zero, List.getElem?_cons_succ, List.map_cons, List.map_nil, reduceIte, Nat.reduceEqDiff, Nat.reduceAdd, Nat.reduceSub, Int.toNat_natCast, Nat.succ_ne_zero, Nat.zero_ne_one, Nat.one_ne_zero]
  refine T_ret ?_
  refine end_ret (.cellK rfl agg52 rfl (Nat.le_of_ble_eq_true rfl) .nil) rfl rfl ⟨?_, rfl⟩
  first | rfl | (simp only [resA, lk, reduceIte, Nat.reduceEqDiff]; first | rfl | (simp_all; done) | (simp_all; omega))

/-- impl.ConflictEdge] -/
theorem Index_edge (es : List (Int × Int)) (x : Int × Int) (he : es.length ≤ 9223372036854775807) : FnV prg 75 [edgesI es, .g (edge x)] (intA (idx es x)) := by
  refine fnV_of_T Try.func75 rfl rfl (Nat.le_of_ble_eq_true rfl) ?_
  simp only [entry, Nat.reduceAdd]
  refine T_seq ?_
  refine T_region ?_
  refine TO_cons rfl (TOp_box rfl (boxAll rfl) rfl rfl ?_)
  refine TO_cons rfl (TOp_pure (pur_assign rfl) rfl ?_)
  refine TO_nil ?_
  refine T_keep [0, 3] ?_
  simp only [pick, List.map, lk, put, val, constA, entry, cellsOf, cellVal, cellVals, List.drop, List.take, List.append_assoc, List.nil_append, List.cons_append, List.singleton_append, List.length_cons, List.length_nil, List.set_cons_zero, List.set_cons_succ, setRow, setSub, spl, Root.under, List.getElem?_cons_zero, List.getElem?_cons_succ, List.map_cons, List.map_nil, reduceIte, Nat.reduceEqDiff, Nat.reduceAdd, Nat.reduceSub, Int.toNat_natCast, Nat.succ_ne_zero, Nat.zero_ne_one, Nat.one_ne_zero]
  refine T_seq ?_
  refine T_seq ?_
  refine T_region ?_
  refine TO_cons rfl (TOp_pure (pur_move rfl) rfl ?_)
  refine TO_cons rfl (TOp_pure (by first | exact pur_len sl25 rfl (by decide) rfl | exact pur_len_m sl25 rfl rfl | exact pur_len_n sl25 rfl rfl) rfl ?_)
  refine TO_cons rfl (TOp_pure (pur_move rfl) rfl ?_)
  refine TO_nil ?_
  refine T_keep [0, 3, 7, 8] ?_
  simp only [pick, List.map, lk, put, val, constA, entry, cellsOf, cellVal, cellVals, List.drop, List.take, List.append_assoc, List.nil_append, List.cons_append, List.singleton_append, List.length_cons, List.length_nil, List.set_cons_zero, List.set_cons_succ, setRow, setSub, spl, Root.under, List.getElem?_cons_zero, List.getElem?_cons_succ, List.map_cons, List.map_nil, reduceIte, Nat.reduceEqDiff, Nat.reduceAdd, Nat.reduceSub, Int.toNat_natCast, Nat.succ_ne_zero, Nat.zero_ne_one, Nat.one_ne_zero]
  refine T_block ?_
  refine T_loop (fun k E σ => ∃ (i : Nat), (i ≤ es.length) ∧ (∀ j, j < i → ¬ x = es.getD j default) ∧ k = es.length - i ∧ E = [(0, edgesI es), (3, .b 0 0), (7, natA es.length), (8, natA i)] ∧ σ = [.box (edge x)]) _ (E0 := [(0, edgesI es), (3, .b 0 0), (7, natA es.length), (8, natA (0))]) (σ0 := [.box (edge x)]) (Weak.to 1 (by decide) rfl rfl rfl ⟨rfl, rfl, rfl, rfl, trivial⟩) ⟨(0), ?_, ?_, rfl, rfl, rfl⟩ ?_
  · (first | omega | (simp_all; done) | (simp_all; omega))
  · (first | omega | (simp_all; done) | (simp_all; omega))
  rintro k E σ ⟨i, hi, hall, rfl, rfl, rfl⟩
  refine T_seq ?_
  refine T_region ?_
  refine TO_cons rfl (TOp_pure (pur_lss rfl rfl rfl) rfl ?_)
  refine TO_nil ?_
  refine T_keep [0, 3, 7, 8, 9] ?_
  simp only [pick, List.map, lk, put, val, constA, entry, cellsOf, cellVal, cellVals, List.drop, List.take, List.append_assoc, List.nil_append, List.cons_append, List.singleton_append, List.length_cons, List.length_nil, List.set_cons_zero, List.set_cons_succ, setRow, setSub, spl, Root.under, List.getElem?_cons_zero, List.getElem?_cons_succ, List.map_cons, List.map_nil, reduceIte, Nat.reduceEqDiff, Nat.reduceAdd, Nat.reduceSub, Int.toNat_natCast, Nat.succ_ne_zero, Nat.zero_ne_one, Nat.one_ne_zero]
  refine T_seq ?_
  refine T_cond rfl (fun c1 => ?_) (fun c1 => ?_)
  · try simp only [decide_eq_true_eq, decide_eq_false_iff_not, Bool.not_eq_true', Bool.not_eq_false', Int.not_lt, Int.not_le, Int.ofNat_lt, Int.ofNat_le, Int.ofNat_inj, ne_eq, Decidable.not_not] at c1
    refine T_skip ?_
    refine T_seq ?_
    refine T_block ?_
    refine T_seq ?_
    refine T_region ?_
    refine TO_cons rfl (TOp_pure (pur_move rfl) rfl ?_)
    refine TO_cons rfl (TOp_pure (pur_assign rfl) rfl ?_)
    refine TO_nil ?_
    refine T_keep [0, 3, 5, 7, 8] ?_
    simp only [pick, List.map, lk, put, val, constA, entry, cellsOf, cellVal, cellVals, List.drop, List.take, List.append_assoc, List.nil_append, List.cons_append, List.singleton_append, List.length_cons, List.length_nil, List.set_cons_zero, List.set_cons_succ, setRow, setSub, spl, Root.under, List.getElem?_cons_zero, List.getElem?_cons_succ, List.map_cons, List.map_nil, reduceIte, Nat.reduceEqDiff, Nat.reduceAdd, Nat.reduceSub, Int.toNat_natCast, Nat.succ_ne_zero, Nat.zero_ne_one, Nat.one_ne_zero]
    refine T_seq ?_
    refine T_regionD mixed (by kernel_rfl) ?_
    refine TQ_pure rfl (by first | exact pur_ldK_b agg52 rfl rfl (Nat.le_of_ble_eq_true rfl) rfl | exact pur_ldK_flat rfl _ len_edge agg52 rfl rfl (by omega)) rfl ?_
    refine TQ_pure rfl (pur_move rfl) rfl ?_
    refine TQ_pure rfl (pur_move rfl) rfl ?_
    refine TQ_pure rfl (by first | exact pur_ixN sl25 rfl rfl (by omega) rfl | exact pur_ixN_m sl25 rfl rfl (by omega) rfl | exact pur_ix sl25 rfl rfl (by omega) (by omega) rfl | exact pur_ix_m sl25 rfl rfl (by omega) (by omega) rfl) rfl ?_
    refine TQ_pure rfl (by first | exact pur_ldK_b agg52 rfl rfl (Nat.le_of_ble_eq_true rfl) rfl | exact pur_ldK_flat rfl _ len_edge agg52 rfl rfl (by omega)) rfl ?_
    refine TQ_pure rfl (pur_eql_edge eqe52 rfl rfl rfl) rfl ?_
    refine TQ_nil ?_
    refine T_keep [0, 3, 5, 7, 8, 16] ?_
    simp only [pick, List.map, lk, put, val, constA, entry, cellsOf, cellVal, cellVals, List.drop, List.take, List.append_assoc, List.nil_append, List.cons_append, List.singleton_append, List.length_cons, List.length_nil, List.set_cons_zero, List.set_cons_succ, setRow, setSub, spl, Root.under, List.getElem?_cons_zero, List.getElem?_cons_succ, List.map_cons, List.map_nil, reduceIte, Nat.reduceEqDiff, Nat.reduceAdd, Nat.reduceSub, Int.toNat_natCast, Nat.succ_ne_zero, Nat.zero_ne_one, Nat.one_ne_zero]
    refine T_cond rfl (fun c2 => ?_) (fun c2 => ?_)
    · try simp only [decide_eq_true_eq, decide_eq_false_iff_not, Bool.not_eq_true', Bool.not_eq_false', Int.not_lt, Int.not_le, Int.ofNat_lt, Int.ofNat_le, Int.ofNat_inj, ne_eq, Decidable.not_not] at c2
      refine T_seq ?_
      refine T_region ?_
      refine TO_cons rfl (TOp_pure (pur_move rfl) rfl ?_)
      refine TO_cons rfl (TOp_pure (pur_assign rfl) rfl ?_)
      refine TO_nil ?_
      refine T_keep [4] ?_
      simp only [pick, List.map, lk, put, val, constA, entry, cellsOf, cellVal, cellVals, List.drop, List.take, List.append_assoc, List.nil_append, List.cons_append, List.singleton_append, List.length_cons, List.length_nil, List.set_cons_zero, List.set_cons_succ, setRow, setSub, spl, Root.under, List.getElem?_cons_zero, List.getElem?_cons_succ, List.map_cons, List.map_nil, reduceIte, Nat.reduceEqDiff, Nat.reduceAdd, Nat.reduceSub, Int.toNat_natCast, Nat.succ_ne_zero, Nat.zero_ne_one, Nat.one_ne_zero]
      refine T_ret ?_
      refine block_ret ?_
      refine then_ret ?_
      refine then_ret ?_
      refine block_ret ?_
      refine then_ret ?_
      refine end_ret (.tmp .nil) rfl rfl ⟨?_, rfl⟩
      simp only [resA, lk, reduceIte, Nat.reduceEqDiff]
      first | (rw [idx_hit es x default i (by omega) (by assumption) hall]) | (rw [idx_miss es x default (fun j hj => hall j (by omega))])
    · try simp only [decide_eq_true_eq, decide_eq_false_iff_not, Bool.not_eq_true', Bool.not_eq_false', Int.not_lt, Int.not_le, Int.ofNat_lt, Int.ofNat_le, Int.ofNat_inj, ne_eq, Decidable.not_not] at c2
      refine T_skip ?_
      refine T_region ?_
      refine TO_cons rfl (TOp_pure (pur_add rfl rfl rfl (fits64 (by omega) (by omega))) rfl ?_)
      refine TO_cons rfl (TOp_pure (pur_move rfl) rfl ?_)
      refine TO_nil ?_
      refine again0 (E' := [(0, edgesI es), (3, .b 0 0), (7, natA es.length), (8, natA (i + 1))]) (σ' := [.box (edge x)]) _ ?_ (Weak.to 1 (by decide) rfl rfl rfl ⟨rfl, rfl, rfl, rfl, trivial⟩) ⟨(i + 1), ?_, ?_, rfl, rfl, rfl⟩
      · omega
      · omega
      · exact all_succ hall (by assumption)
  · try simp only [decide_eq_true_eq, decide_eq_false_iff_not, Bool.not_eq_true', Bool.not_eq_false', Int.not_lt, Int.not_le, Int.ofNat_lt, Int.ofNat_le, Int.ofNat_inj, ne_eq, Decidable.not_not] at c1
    refine T_exit ?_
    refine then_exit ?_
    refine then_exit ?_
    refine block_exit ?_
    refine T_seq ?_
    refine T_region ?_
    refine TO_cons rfl (TOp_pure (pur_assign rfl) rfl ?_)
    refine TO_nil ?_
    refine T_keep [4] ?_
    simp only [pick, List.map, lk, put, val, constA, entry, cellsOf, cellVal, cellVals, List.drop, List.take, List.append_assoc, List.nil_append, List.cons_append, List.singleton_append, List.length_cons, List.length_nil, List.set_cons_zero, List.set_cons_succ, setRow, setSub, spl, Root.under, List.getElem?_cons_zero, List.getElem?_cons_succ, List.map_cons, List.map_nil, reduceIte, Nat.reduceEqDiff, Nat.reduceAdd, Nat.reduceSub, Int.toNat_natCast, Nat.succ_ne_zero, Nat.zero_ne_one, Nat.one_ne_zero]
    refine T_ret ?_
    refine end_ret (.tmp .nil) rfl rfl ⟨?_, rfl⟩
    simp only [resA, lk, reduceIte, Nat.reduceEqDiff]
    first | (rw [idx_hit es x default i (by omega) (by assumption) hall]) | (rw [idx_miss es x default (fun j hj => hall j (by omega))])

/-- impl.ConflictEdge] -/
theorem Contains_edge (es : List (Int × Int)) (x : Int × Int) (he : es.length ≤ 9223372036854775807) : FnV prg 43 [edgesI es, .g (edge x)] (boolA (decide (x ∈ es))) := by
  refine fnV_of_T Try.func43 rfl rfl (Nat.le_of_ble_eq_true rfl) ?_
  simp only [entry, Nat.reduceAdd]
  refine T_seq ?_
  refine T_region ?_
  refine TO_cons rfl (TOp_box rfl (boxAll rfl) rfl rfl ?_)
  refine TO_cons rfl (TOp_pure (pur_assign rfl) rfl ?_)
  refine TO_nil ?_
  refine T_keep [0, 3] ?_
  simp only [pick, List.map, lk, put, val, constA, entry, cellsOf, cellVal, cellVals, List.drop, List.take, List.append_assoc, List.nil_append, List.cons_append, List.singleton_append, List.length_cons, List.length_nil, List.set_cons_zero, List.set_cons_succ, setRow, setSub, spl, Root.under, List.getElem?_cons_zero, List.getElem?_cons_succ, List.map_cons, List.map_nil, reduceIte, Nat.reduceEqDiff, Nat.reduceAdd, Nat.reduceSub, Int.toNat_natCast, Nat.succ_ne_zero, Nat.zero_ne_one, Nat.one_ne_zero]
  refine T_seq ?_
  refine T_region ?_
  refine TO_cons rfl (TOp_pure (pur_move rfl) rfl ?_)
  refine TO_cons rfl (TOp_pure (by first | exact pur_ldK_b agg52 rfl rfl (Nat.le_of_ble_eq_true rfl) rfl | exact pur_ldK_flat rfl _ len_edge agg52 rfl rfl (by omega)) rfl ?_)
  refine TO_cons rfl (TOp_callV (call_static ent75 rfl) (Index_edge _ _ (by first | assumption | omega | (simp_all; done) | (simp_all; omega))) rfl rfl rfl ?_)
  refine TO_cons rfl (TOp_pure (pur_geq rfl rfl rfl) rfl ?_)
  refine TO_cons rfl (TOp_pure (pur_assign rfl) rfl ?_)
  refine TO_nil ?_
  refine T_keep [4] ?_
  simp only [pick, List.map, lk, put, val, constA, entry, cellsOf, cellVal, cellVals, List.drop, List.take, List.append_assoc, List.nil_append, List.cons_append, List.singleton_append, List.length_cons, List.length_nil, List.set_cons_zero, List.set_cons_succ, setRow, setSub, spl, Root.under, List.getElem?_cons_zero, List.getElem?_cons_succ, List.map_cons, List.map_nil, reduceIte, Nat.reduceEqDiff, Nat.reduceAdd, Nat.reduceSub, Int.toNat_natCast, Nat.succ_ne_zero, Nat.zero_ne_one, Nat.one_ne_zero]
  refine T_ret ?_
  refine end_ret (.tmp .nil) rfl rfl ⟨?_, rfl⟩
  simp only [resA, lk, reduceIte, Nat.reduceEqDiff]
  exact congrArg boolA (decide_eq_decide.2 (idx_nonneg es x))

/-- impl.IsPreferred -/
theorem impl_IsPreferred (es : List (Int × Int)) (a b : Int) (he : es.length ≤ 9223372036854775807) : FnV prg 14 [edgesI es, intA a, intA b] (boolA (decide ((a, b) ∈ es))) := by
  refine fnV_of_T Try.func14 rfl rfl (Nat.le_of_ble_eq_true rfl) ?_
  simp only [entry, Nat.reduceAdd]
  refine T_seq ?_
  refine T_region ?_
  refine TO_cons rfl (TOp_pure (pur_assign rfl) rfl ?_)
  refine TO_nil ?_
  refine T_keep [0, 1, 2] ?_
  simp only [pick, List.map, lk, put, val, constA, entry, cellsOf, cellVal, cellVals, List.drop, List.take, List.append_assoc, List.nil_append, List.cons_append, List.singleton_append, List.length_cons, List.length_nil, List.set_cons_zero, List.set_cons_succ, setRow, setSub, spl, Root.under, List.getElem?_cons_zero, List.getElem?_cons_succ, List.map_cons, List.map_nil, reduceIte, Nat.reduceEqDiff, Nat.reduceAdd, Nat.reduceSub, Int.toNat_natCast, Nat.succ_ne_zero, Nat.zero_ne_one, Nat.one_ne_zero]
  refine T_seq ?_
  refine T_region ?_
  refine TO_cons rfl (TOp_pure (pur_move rfl) rfl ?_)
  refine TO_cons rfl (TOp_pure (pur_move rfl) rfl ?_)
  refine TO_cons rfl (TOp_pure (pur_move rfl) rfl ?_)
  refine TO_cons rfl (TOp_pure (pur_build bld52 rfl rfl) rfl ?_)
  refine TO_cons rfl (TOp_callV (call_static ent43 rfl) (Contains_edge _ (a, b) (by omega)) rfl rfl rfl ?_)
  refine TO_cons rfl (TOp_pure (pur_assign rfl) rfl ?_)
  refine TO_nil ?_
  refine T_keep [6] ?_
  simp only [pick, List.map, lk, put, val, constA, entry, cellsOf, cellVal, cellVals, List.drop, List.take, List.append_assoc, List.nil_append, List.cons_append, List.singleton_append, List.length_cons, List.length_nil, List.set_cons_zero, List.set_cons_succ, setRow, setSub, spl, Root.under, List.getElem?_cons_zero, List.getElem?_cons_succ, List.map_cons, List.map_nil, reduceIte, Nat.reduceEqDiff, Nat.reduceAdd, Nat.reduceSub, Int.toNat_natCast, Nat.succ_ne_zero, Nat.zero_ne_one, Nat.one_ne_zero]
  refine T_ret ?_
  refine end_ret (.tmp .nil) rfl rfl ⟨?_, rfl⟩
  first | rfl | (simp only [resA, lk, reduceIte, Nat.reduceEqDiff]; first | rfl | (simp_all; done) | (simp_all; omega))

/-- laws.eqConflictEdge -/
theorem laws_eqConflictEdge (a b : Int × Int)  : FnV prg 44 [.g (edge a), .g (edge b)] (boolA (decide (a = b))) := by
  refine fnV_of_T Try.func44 rfl rfl (Nat.le_of_ble_eq_true rfl) ?_
  simp only [entry, Nat.reduceAdd]
  refine T_seq ?_
  refine T_region ?_
  refine TO_cons rfl (TOp_box rfl (boxAll rfl) rfl rfl ?_)
  refine TO_cons rfl (TOp_box rfl (boxAll rfl) rfl rfl ?_)
  refine TO_cons rfl (TOp_pure (pur_assign rfl) rfl ?_)
  refine TO_nil ?_
  refine T_keep [2, 3] ?_
  simp only [pick, List.map, lk, put, val, constA, entry, cellsOf, cellVal, cellVals, List.drop, List.take, List.append_assoc, List.nil_append, List.cons_append, List.singleton_append, List.length_cons, List.length_nil, List.set_cons_zero, List.set_cons_succ, setRow, setSub, spl, Root.under, List.getElem?_cons_zero, List.getElem?_cons_succ, List.map_cons, List.map_nil, reduceIte, Nat.reduceEqDiff, Nat.reduceAdd, Nat.reduceSub, Int.toNat_natCast, Nat.succ_ne_zero, Nat.zero_ne_one, Nat.one_ne_zero]
  refine T_seq ?_
  refine T_seq ?_
  refine T_region ?_
  refine TO_cons rfl (TOp_pure (by first | exact pur_fa_q fld52_0 rfl rfl | exact pur_fa_b fld52_0 rfl rfl | exact pur_fa_e fld52_0 rfl rfl) rfl ?_)
  refine TO_cons rfl (TOp_pure (by first | exact pur_ld_b one3 rfl rfl rfl rfl | exact pur_ld_flat rfl _ 0 len_edge one3 rfl rfl (by omega) rfl | exact pur_ld_q one3 rfl rfl rfl | exact pur_ld_e one3 rfl rfl rfl rfl) rfl ?_)
  refine TO_cons rfl (TOp_pure (by first | exact pur_fa_q fld52_0 rfl rfl | exact pur_fa_b fld52_0 rfl rfl | exact pur_fa_e fld52_0 rfl rfl) rfl ?_)
  refine TO_cons rfl (TOp_pure (by first | exact pur_ld_b one3 rfl rfl rfl rfl | exact pur_ld_flat rfl _ 0 len_edge one3 rfl rfl (by omega) rfl | exact pur_ld_q one3 rfl rfl rfl | exact pur_ld_e one3 rfl rfl rfl rfl) rfl ?_)
  refine TO_cons rfl (TOp_pure (pur_neq rfl rfl rfl) rfl ?_)
  refine TO_nil ?_
  refine T_keep [2, 3, 9] ?_
  simp only [pick, List.map, lk, put, val, constA, entry, cellsOf, cellVal, cellVals, List.drop, List.take, List.append_assoc, List.nil_append, List.cons_append, List.singleton_append, List.length_cons, List.length_nil, List.set_cons_zero, List.set_cons_succ, setRow, setSub, spl, Root.under, List.getElem?_cons_zero, List.getElem?_cons_succ, List.map_cons, List.map_nil, reduceIte, Nat.reduceEqDiff, Nat.reduceAdd, Nat.reduceSub, Int.toNat_natCast, Nat.succ_ne_zero, Nat.zero_ne_one, Nat.one_ne_zero]
  refine T_cond rfl (fun c1 => ?_) (fun c1 => ?_)
  · try simp only [decide_eq_true_eq, decide_eq_false_iff_not, Bool.not_eq_true', Bool.not_eq_false', Int.not_lt, Int.not_le, Int.ofNat_lt, Int.ofNat_le, Int.ofNat_inj, ne_eq, Decidable.not_not] at c1
    refine T_seq ?_
    refine T_region ?_
    refine TO_cons rfl (TOp_pure (pur_assign rfl) rfl ?_)
    refine TO_nil ?_
    refine T_keep [4] ?_
    simp only [pick, List.map, lk, put, val, constA, entry, cellsOf, cellVal, cellVals, List.drop, List.take, List.append_assoc, List.nil_append, List.cons_append, List.singleton_append, List.length_cons, List.length_nil, List.set_cons_zero, List.set_cons_succ, setRow, setSub, spl, Root.under, List.getElem?_cons_zero, List.getElem?_cons_succ, List.map_cons, List.map_nil, reduceIte, Nat.reduceEqDiff, Nat.reduceAdd, Nat.reduceSub, Int.toNat_natCast, Nat.succ_ne_zero, Nat.zero_ne_one, Nat.one_ne_zero]
    refine T_ret ?_
    refine then_ret ?_
    refine end_ret (.tmp .nil) rfl rfl ⟨?_, rfl⟩
    simp only [resA, lk, reduceIte, Nat.reduceEqDiff]
    exact congrArg boolA (by rw [Bool.eq_iff_iff]; simp only [decide_eq_true_eq, Prod.ext_iff]; simp_all)
  · try simp only [decide_eq_true_eq, decide_eq_false_iff_not, Bool.not_eq_true', Bool.not_eq_false', Int.not_lt, Int.not_le, Int.ofNat_lt, Int.ofNat_le, Int.ofNat_inj, ne_eq, Decidable.not_not] at c1
    refine T_skip ?_
    refine T_seq ?_
    refine T_seq ?_
    refine T_region ?_
    refine TO_cons rfl (TOp_pure (by first | exact pur_fa_q fld52_1 rfl rfl | exact pur_fa_b fld52_1 rfl rfl | exact pur_fa_e fld52_1 rfl rfl) rfl ?_)
    refine TO_cons rfl (TOp_pure (by first | exact pur_ld_b one3 rfl rfl rfl rfl | exact pur_ld_flat rfl _ 1 len_edge one3 rfl rfl (by omega) rfl | exact pur_ld_q one3 rfl rfl rfl | exact pur_ld_e one3 rfl rfl rfl rfl) rfl ?_)
    refine TO_cons rfl (TOp_pure (by first | exact pur_fa_q fld52_1 rfl rfl | exact pur_fa_b fld52_1 rfl rfl | exact pur_fa_e fld52_1 rfl rfl) rfl ?_)
    refine TO_cons rfl (TOp_pure (by first | exact pur_ld_b one3 rfl rfl rfl rfl | exact pur_ld_flat rfl _ 1 len_edge one3 rfl rfl (by omega) rfl | exact pur_ld_q one3 rfl rfl rfl | exact pur_ld_e one3 rfl rfl rfl rfl) rfl ?_)
    refine TO_cons rfl (TOp_pure (pur_neq rfl rfl rfl) rfl ?_)
    refine TO_nil ?_
    refine T_keep [14] ?_
    simp only [pick, List.map, lk, put, val, constA, entry, cellsOf, cellVal, cellVals, List.drop, List.take, List.append_assoc, List.nil_append, List.cons_append, List.singleton_append, List.length_cons, List.length_nil, List.set_cons_zero, List.set_cons_succ, setRow, setSub, spl, Root.under, List.getElem?_cons_zero, List.getElem?_cons_succ, List.map_cons, List.map_nil, reduceIte, Nat.reduceEqDiff, Nat.reduceAdd, Nat.reduceSub, Int.toNat_natCast, Nat.succ_ne_zero, Nat.zero_ne_one, Nat.one_ne_zero]
    refine T_cond rfl (fun c2 => ?_) (fun c2 => ?_)
    · try simp only [decide_eq_true_eq, decide_eq_false_iff_not, Bool.not_eq_true', Bool.not_eq_false', Int.not_lt, Int.not_le, Int.ofNat_lt, Int.ofNat_le, Int.ofNat_inj, ne_eq, Decidable.not_not] at c2
      refine T_seq ?_
      refine T_region ?_
      refine TO_cons rfl (TOp_pure (pur_assign rfl) rfl ?_)
      refine TO_nil ?_
      refine T_keep [4] ?_
      simp only [pick, List.map, lk, put, val, constA, entry, cellsOf, cellVal, cellVals, List.drop, List.take, List.append_assoc, List.nil_append, List.cons_append, List.singleton_append, List.length_cons, List.length_nil, List.set_cons_zero, List.set_cons_succ, setRow, setSub, spl, Root.under, List.getElem?_cons_zero, List.getElem?_cons_succ, List.map_cons, List.map_nil, reduceIte, Nat.reduceEqDiff, Nat.reduceAdd, Nat.reduceSub, Int.toNat_natCast, Nat.succ_ne_zero, Nat.zero_ne_one, Nat.one_ne_zero]
      refine T_ret ?_
      refine then_ret ?_
      refine end_ret (.tmp .nil) rfl rfl ⟨?_, rfl⟩
      simp only [resA, lk, reduceIte, Nat.reduceEqDiff]
      exact congrArg boolA (by rw [Bool.eq_iff_iff]; simp only [decide_eq_true_eq, Prod.ext_iff]; simp_all)
    · try simp only [decide_eq_true_eq, decide_eq_false_iff_not, Bool.not_eq_true', Bool.not_eq_false', Int.not_lt, Int.not_le, Int.ofNat_lt, Int.ofNat_le, Int.ofNat_inj, ne_eq, Decidable.not_not] at c2
      refine T_skip ?_
      refine T_seq ?_
      refine T_region ?_
      refine TO_cons rfl (TOp_pure (pur_assign rfl) rfl ?_)
      refine TO_nil ?_
      refine T_keep [4] ?_
      simp only [pick, List.map, lk, put, val, constA, entry, cellsOf, cellVal, cellVals, List.drop, List.take, List.append_assoc, List.nil_append, List.cons_append, List.singleton_append, List.length_cons, List.length_nil, List.set_cons_zero, List.set_cons_succ, setRow, setSub, spl, Root.under, List.getElem?_cons_zero, List.getElem?_cons_succ, List.map_cons, List.map_nil, reduceIte, Nat.reduceEqDiff, Nat.reduceAdd, Nat.reduceSub, Int.toNat_natCast, Nat.succ_ne_zero, Nat.zero_ne_one, Nat.one_ne_zero]
      refine T_ret ?_
      refine end_ret (.tmp .nil) rfl rfl ⟨?_, rfl⟩
      simp only [resA, lk, reduceIte, Nat.reduceEqDiff]
      exact congrArg boolA (by rw [Bool.eq_iff_iff]; simp only [decide_eq_true_eq, Prod.ext_iff]; simp_all)

/-- laws.eqConflictEdgeS -/
theorem laws_eqConflictEdgeS (xs ys : List (Int × Int)) (ha : xs.length ≤ 9223372036854775807) (hb : ys.length ≤ 9223372036854775807) : FnV prg 15 [edgesI xs, edgesI ys] (boolA (decide (xs = ys))) := by
  refine fnV_of_T Try.func15 rfl rfl (Nat.le_of_ble_eq_true rfl) ?_
  simp only [entry, Nat.reduceAdd]
  refine T_seq ?_
  refine T_region ?_
  refine TO_cons rfl (TOp_pure (pur_assign rfl) rfl ?_)
  refine TO_nil ?_
  refine T_keep [0, 1] ?_
  simp only [pick, List.map, lk, put, val, constA, entry, cellsOf, cellVal, cellVals, List.drop, List.take, List.append_assoc, List.nil_append, List.cons_append, List.singleton_append, List.length_cons, List.length_nil, List.set_cons_zero, List.set_cons_succ, setRow, setSub, spl, Root.under, List.getElem?_cons_zero, List.getElem?_cons_succ, List.map_cons, List.map_nil, reduceIte, Nat.reduceEqDiff, Nat.reduceAdd, Nat.reduceSub, Int.toNat_natCast, Nat.succ_ne_zero, Nat.zero_ne_one, Nat.one_ne_zero]
  refine T_seq ?_
  refine T_seq ?_
  refine T_region ?_
  refine TO_cons rfl (TOp_pure (pur_move rfl) rfl ?_)
  refine TO_cons rfl (TOp_pure (by first | exact pur_len sl25 rfl (by decide) rfl | exact pur_len_m sl25 rfl rfl | exact pur_len_n sl25 rfl rfl) rfl ?_)
  refine TO_cons rfl (TOp_pure (pur_move rfl) rfl ?_)
  refine TO_cons rfl (TOp_pure (by first | exact pur_len sl25 rfl (by decide) rfl | exact pur_len_m sl25 rfl rfl | exact pur_len_n sl25 rfl rfl) rfl ?_)
  refine TO_cons rfl (TOp_pure (pur_neq rfl rfl rfl) rfl ?_)
  refine TO_nil ?_
  refine T_keep [0, 1, 10] ?_
  simp only [pick, List.map, lk, put, val, constA, entry, cellsOf, cellVal, cellVals, List.drop, List.take, List.append_assoc, List.nil_append, List.cons_append, List.singleton_append, List.length_cons, List.length_nil, List.set_cons_zero, List.set_cons_succ, setRow, setSub, spl, Root.under, List.getElem?_cons_zero, List.getElem?_cons_succ, List.map_cons, List.map_nil, reduceIte, Nat.reduceEqDiff, Nat.reduceAdd, Nat.reduceSub, Int.toNat_natCast, Nat.succ_ne_zero, Nat.zero_ne_one, Nat.one_ne_zero]
  refine T_cond rfl (fun c1 => ?_) (fun c1 => ?_)
  · try simp only [decide_eq_true_eq, decide_eq_false_iff_not, Bool.not_eq_true', Bool.not_eq_false', Int.not_lt, Int.not_le, Int.ofNat_lt, Int.ofNat_le, Int.ofNat_inj, ne_eq, Decidable.not_not] at c1
    refine T_seq ?_
    refine T_region ?_
    refine TO_cons rfl (TOp_pure (pur_assign rfl) rfl ?_)
    refine TO_nil ?_
    refine T_keep [4] ?_
    simp only [pick, List.map, lk, put, val, constA, entry, cellsOf, cellVal, cellVals, List.drop, List.take, List.append_assoc, List.nil_append, List.cons_append, List.singleton_append, List.length_cons, List.length_nil, List.set_cons_zero, List.set_cons_succ, setRow, setSub, spl, Root.under, List.getElem?_cons_zero, List.getElem?_cons_succ, List.map_cons, List.map_nil, reduceIte, Nat.reduceEqDiff, Nat.reduceAdd, Nat.reduceSub, Int.toNat_natCast, Nat.succ_ne_zero, Nat.zero_ne_one, Nat.one_ne_zero]
    refine T_ret ?_
    refine then_ret ?_
    refine end_ret (.tmp .nil) rfl rfl ⟨?_, rfl⟩
    simp only [resA, lk, reduceIte, Nat.reduceEqDiff]
    refine congrArg boolA ?_
    first | (rw [decide_eq_true (list_ext_getD (by omega) (fun j hj => hall j (by omega)))]) | (rw [decide_eq_false]; intro h; subst h; simp_all)
  · try simp only [decide_eq_true_eq, decide_eq_false_iff_not, Bool.not_eq_true', Bool.not_eq_false', Int.not_lt, Int.not_le, Int.ofNat_lt, Int.ofNat_le, Int.ofNat_inj, ne_eq, Decidable.not_not] at c1
    refine T_skip ?_
    refine T_seq ?_
    refine T_seq ?_
    refine T_region ?_
    refine TO_cons rfl (TOp_pure (pur_assign rfl) rfl ?_)
    refine TO_nil ?_
    refine T_keep [0, 1, 5] ?_
    simp only [pick, List.map, lk, put, val, constA, entry, cellsOf, cellVal, cellVals, List.drop, List.take, List.append_assoc, List.nil_append, List.cons_append, List.singleton_append, List.length_cons, List.length_nil, List.set_cons_zero, List.set_cons_succ, setRow, setSub, spl, Root.under, List.getElem?_cons_zero, List.getElem?_cons_succ, List.map_cons, List.map_nil, reduceIte, Nat.reduceEqDiff, Nat.reduceAdd, Nat.reduceSub, Int.toNat_natCast, Nat.succ_ne_zero, Nat.zero_ne_one, Nat.one_ne_zero]
    refine T_block ?_
    refine T_loop (fun k E σ => ∃ (i : Nat), (i ≤ xs.length) ∧ (xs.length = ys.length) ∧ (∀ j, j < i → xs.getD j default = ys.getD j default) ∧ k = xs.length - i ∧ E = [(0, edgesI xs), (1, edgesI ys), (5, natA i)] ∧ σ = []) _ (E0 := [(0, edgesI xs), (1, edgesI ys), (5, natA (0))]) (σ0 := []) (Weak.to0 rfl ⟨rfl, rfl, rfl, trivial⟩) ⟨(0), ?_, ?_, ?_, rfl, rfl, rfl⟩ ?_
    · (first | omega | (simp_all; done) | (simp_all; omega))
    · (first | omega | (simp_all; done) | (simp_all; omega))
    · (first | omega | (simp_all; done) | (simp_all; omega))
    rintro k E σ ⟨i, hi, hl, hall, rfl, rfl, rfl⟩
    refine T_seq ?_
    refine T_seq ?_
    refine T_region ?_
    refine TO_cons rfl (TOp_pure (pur_move rfl) rfl ?_)
    refine TO_cons rfl (TOp_pure (pur_move rfl) rfl ?_)
    refine TO_cons rfl (TOp_pure (by first | exact pur_len sl25 rfl (by decide) rfl | exact pur_len_m sl25 rfl rfl | exact pur_len_n sl25 rfl rfl) rfl ?_)
    refine TO_cons rfl (TOp_pure (pur_lss rfl rfl rfl) rfl ?_)
    refine TO_nil ?_
    refine T_keep [0, 1, 5, 14] ?_
    simp only [pick, List.map, lk, put, val, constA, entry, cellsOf, cellVal, cellVals, List.drop, List.take, List.append_assoc, List.nil_append, List.cons_append, List.singleton_append, List.length_cons, List.length_nil, List.set_cons_zero, List.set_cons_succ, setRow, setSub, spl, Root.under, List.getElem?_cons_zero, List.getElem?_cons_succ, List.map_cons, List.map_nil, reduceIte, Nat.reduceEqDiff, Nat.reduceAdd, Nat.reduceSub, Int.toNat_natCast, Nat.succ_ne_zero, Nat.zero_ne_one, Nat.one_ne_zero]
    refine T_cond rfl (fun c2 => ?_) (fun c2 => ?_)
    · try simp only [decide_eq_true_eq, decide_eq_false_iff_not, Bool.not_eq_true', Bool.not_eq_false', Int.not_lt, Int.not_le, Int.ofNat_lt, Int.ofNat_le, Int.ofNat_inj, ne_eq, Decidable.not_not] at c2
      refine T_skip ?_
      refine T_seq ?_
      refine T_block ?_
      refine T_seq ?_
      refine T_regionD mixed (by kernel_rfl) ?_
      refine TQ_pure rfl (pur_move rfl) rfl ?_
      refine TQ_pure rfl (pur_move rfl) rfl ?_
      refine TQ_pure rfl (by first | exact pur_ixN sl25 rfl rfl (by omega) rfl | exact pur_ixN_m sl25 rfl rfl (by omega) rfl | exact pur_ix sl25 rfl rfl (by omega) (by omega) rfl | exact pur_ix_m sl25 rfl rfl (by omega) (by omega) rfl) rfl ?_
      refine TQ_pure rfl (by first | exact pur_ldK_b agg52 rfl rfl (Nat.le_of_ble_eq_true rfl) rfl | exact pur_ldK_flat rfl _ len_edge agg52 rfl rfl (by omega)) rfl ?_
      refine TQ_pure rfl (pur_move rfl) rfl ?_
      refine TQ_pure rfl (pur_move rfl) rfl ?_
      refine TQ_pure rfl (by first | exact pur_ixN sl25 rfl rfl (by omega) rfl | exact pur_ixN_m sl25 rfl rfl (by omega) rfl | exact pur_ix sl25 rfl rfl (by omega) (by omega) rfl | exact pur_ix_m sl25 rfl rfl (by omega) (by omega) rfl) rfl ?_
      refine TQ_pure rfl (by first | exact pur_ldK_b agg52 rfl rfl (Nat.le_of_ble_eq_true rfl) rfl | exact pur_ldK_flat rfl _ len_edge agg52 rfl rfl (by omega)) rfl ?_
      refine TQ_callV rfl (call_static ent44 rfl) (laws_eqConflictEdge _ _) rfl rfl ?_
      refine TQ_pure rfl (pur_not rfl rfl) rfl ?_
      refine TQ_nil ?_
      refine T_keep [0, 1, 5, 26] ?_
      simp only [pick, List.map, lk, put, val, constA, entry, cellsOf, cellVal, cellVals, List.drop, List.take, List.append_assoc, List.nil_append, List.cons_append, List.singleton_append, List.length_cons, List.length_nil, List.set_cons_zero, List.set_cons_succ, setRow, setSub, spl, Root.under, List.getElem?_cons_zero, List.getElem?_cons_succ, List.map_cons, List.map_nil, reduceIte, Nat.reduceEqDiff, Nat.reduceAdd, Nat.reduceSub, Int.toNat_natCast, Nat.succ_ne_zero, Nat.zero_ne_one, Nat.one_ne_zero]
      refine T_cond rfl (fun c3 => ?_) (fun c3 => ?_)
      · try simp only [decide_eq_true_eq, decide_eq_false_iff_not, Bool.not_eq_true', Bool.not_eq_false', Int.not_lt, Int.not_le, Int.ofNat_lt, Int.ofNat_le, Int.ofNat_inj, ne_eq, Decidable.not_not] at c3
        refine T_seq ?_
        refine T_region ?_
        refine TO_cons rfl (TOp_pure (pur_assign rfl) rfl ?_)
        refine TO_nil ?_
        refine T_keep [4] ?_
        simp only [pick, List.map, lk, put, val, constA, entry, cellsOf, cellVal, cellVals, List.drop, List.take, List.append_assoc, List.nil_append, List.cons_append, List.singleton_append, List.length_cons, List.length_nil, List.set_cons_zero, List.set_cons_succ, setRow, setSub, spl, Root.under, List.getElem?_cons_zero, List.getElem?_cons_succ, List.map_cons, List.map_nil, reduceIte, Nat.reduceEqDiff, Nat.reduceAdd, Nat.reduceSub, Int.toNat_natCast, Nat.succ_ne_zero, Nat.zero_ne_one, Nat.one_ne_zero]
        refine T_ret ?_
        refine block_ret ?_
        refine then_ret ?_
        refine then_ret ?_
        refine block_ret ?_
        refine then_ret ?_
        refine end_ret (.tmp .nil) rfl rfl ⟨?_, rfl⟩
        simp only [resA, lk, reduceIte, Nat.reduceEqDiff]
        refine congrArg boolA ?_
        first | (rw [decide_eq_true (list_ext_getD (by omega) (fun j hj => hall j (by omega)))]) | (rw [decide_eq_false]; intro h; subst h; simp_all)
      · try simp only [decide_eq_true_eq, decide_eq_false_iff_not, Bool.not_eq_true', Bool.not_eq_false', Int.not_lt, Int.not_le, Int.ofNat_lt, Int.ofNat_le, Int.ofNat_inj, ne_eq, Decidable.not_not] at c3
        refine T_skip ?_
        refine T_region ?_
        refine TO_cons rfl (TOp_pure (pur_move rfl) rfl ?_)
        refine TO_cons rfl (TOp_pure (pur_add rfl rfl rfl (fits64 (by omega) (by omega))) rfl ?_)
        refine TO_cons rfl (TOp_pure (pur_assign rfl) rfl ?_)
        refine TO_nil ?_
        refine again0 (E' := [(0, edgesI xs), (1, edgesI ys), (5, natA (i + 1))]) (σ' := []) _ ?_ (Weak.to0 rfl ⟨rfl, rfl, rfl, trivial⟩) ⟨(i + 1), ?_, ?_, ?_, rfl, rfl, rfl⟩
        · omega
        · omega
        · exact hl
        · exact all_succ hall (by simp_all)
    · try simp only [decide_eq_true_eq, decide_eq_false_iff_not, Bool.not_eq_true', Bool.not_eq_false', Int.not_lt, Int.not_le, Int.ofNat_lt, Int.ofNat_le, Int.ofNat_inj, ne_eq, Decidable.not_not] at c2
      refine T_exit ?_
      refine then_exit ?_
      refine then_exit ?_
      refine block_exit ?_
      refine T_seq ?_
      refine T_region ?_
      refine TO_cons rfl (TOp_pure (pur_assign rfl) rfl ?_)
      refine TO_nil ?_
      refine T_keep [4] ?_
      simp only [pick, List.map, lk, put, val, constA, entry, cellsOf, cellVal, cellVals, List.drop, List.take, List.append_assoc, List.nil_append, List.cons_append, List.singleton_append, List.length_cons, List.length_nil, List.set_cons_zero, List.set_cons_succ, setRow, setSub, spl, Root.under, List.getElem?_cons_zero, List.getElem?_cons_succ, List.map_cons, List.map_nil, reduceIte, Nat.reduceEqDiff, Nat.reduceAdd, Nat.reduceSub, Int.toNat_natCast, Nat.succ_ne_zero, Nat.zero_ne_one, Nat.one_ne_zero]
      refine T_ret ?_
      refine end_ret (.tmp .nil) rfl rfl ⟨?_, rfl⟩
      simp only [resA, lk, reduceIte, Nat.reduceEqDiff]
      refine congrArg boolA ?_
      first | (rw [decide_eq_true (list_ext_getD (by omega) (fun j hj => hall j (by omega)))]) | (rw [decide_eq_false]; intro h; subst h; simp_all)

/-- laws.toConflictEdgeS -/
theorem laws_toConflictEdgeS_own (es : List (Int × Int)) (he : es.length ≤ 1048576) : Sep.Fn prg 13 [edgesI es] [] fun r σ => r = .m [0] 0 es.length 2 ∧ σ = [.row (flat edge es)] := by
  refine fn_of_T Try.func13 rfl rfl (Nat.le_of_ble_eq_true rfl) ?_
  simp only [entry, Nat.reduceAdd]
  refine T_seq ?_
  refine T_region ?_
  refine TO_cons rfl (TOp_pure (pur_assign rfl) rfl ?_)
  refine TO_nil ?_
  refine T_keep [0] ?_
  simp only [pick, List.map, lk, put, val, constA, entry, cellsOf, cellVal, cellVals, List.drop, List.take, List.append_assoc, List.nil_append, List.cons_append, List.singleton_append, List.length_cons, List.length_nil, List.set_cons_zero, List.set_cons_succ, setRow, setSub, spl, Root.under, List.getElem?_cons_zero, List.getElem?_cons_succ, List.map_cons, List.map_nil, reduceIte, Nat.reduceEqDiff, Nat.reduceAdd, Nat.reduceSub, Int.toNat_natCast, Nat.succ_ne_zero, Nat.zero_ne_one, Nat.one_ne_zero]
  refine T_seq ?_
  refine T_region ?_
  refine TO_cons rfl (TOp_pure (pur_move rfl) rfl ?_)
  refine TO_cons rfl (TOp_pure (by first | exact pur_len sl22 rfl (by decide) rfl | exact pur_len_m sl22 rfl rfl | exact pur_len_n sl22 rfl rfl) rfl ?_)
  refine TO_cons rfl (TOp_makeZ (zeros_edge _) sl25 zero52 rfl bytes52 rfl rfl rfl rfl (by omega) (by omega) ?_)
  refine TO_cons rfl (TOp_pure (pur_assign rfl) rfl ?_)
  refine TO_nil ?_
  refine T_keep [0, 3] ?_
  simp only [pick, List.map, lk, put, val, constA, entry, cellsOf, cellVal, cellVals, List.drop, List.take, List.append_assoc, List.nil_append, List.cons_append, List.singleton_append, List.length_cons, List.length_nil, List.set_cons_zero, List.set_cons_succ, setRow, setSub, spl, Root.under, List.getElem?_cons_zero, List.getElem?_cons_succ, List.map_cons, List.map_nil, reduceIte, Nat.reduceEqDiff, Nat.reduceAdd, Nat.reduceSub, Int.toNat_natCast, Nat.succ_ne_zero, Nat.zero_ne_one, Nat.one_ne_zero]
  refine T_seq ?_
  refine T_seq ?_
  refine T_region ?_
  refine TO_cons rfl (TOp_pure (pur_assign rfl) rfl ?_)
  refine TO_nil ?_
  refine T_keep [0, 3, 4] ?_
  simp only [pick, List.map, lk, put, val, constA, entry, cellsOf, cellVal, cellVals, List.drop, List.take, List.append_assoc, List.nil_append, List.cons_append, List.singleton_append, List.length_cons, List.length_nil, List.set_cons_zero, List.set_cons_succ, setRow, setSub, spl, Root.under, List.getElem?_cons_zero, List.getElem?_cons_succ, List.map_cons, List.map_nil, reduceIte, Nat.reduceEqDiff, Nat.reduceAdd, Nat.reduceSub, Int.toNat_natCast, Nat.succ_ne_zero, Nat.zero_ne_one, Nat.one_ne_zero]
  refine T_block ?_
  refine T_loop (fun k E σ => ∃ (i : Nat) (out : List (Int × Int)), (i ≤ es.length) ∧ (out.length = es.length) ∧ (∀ j, j < i → out.getD j default = es.getD j default) ∧ k = es.length - i ∧ E = [(0, edgesI es), (3, .m [0] 0 es.length 2), (4, natA i)] ∧ σ = [.row (flat edge out)]) _ (E0 := [(0, edgesI es), (3, .m [0] 0 es.length 2), (4, natA (0))]) (σ0 := [.row (flat edge (List.replicate es.length (0, 0)))]) (Weak.to 1 (by decide) rfl rfl rfl ⟨rfl, rfl, rfl, trivial⟩) ⟨(0), (List.replicate es.length (0, 0)), ?_, ?_, ?_, rfl, rfl, rfl⟩ ?_
  · omega
  · simp
  · intro j hj; omega
  rintro k E σ ⟨i, out, hi, hl, hall, rfl, rfl, rfl⟩
  refine T_seq ?_
  refine T_seq ?_
  refine T_region ?_
  refine TO_cons rfl (TOp_pure (pur_move rfl) rfl ?_)
  refine TO_cons rfl (TOp_pure (pur_move rfl) rfl ?_)
  refine TO_cons rfl (TOp_pure (by first | exact pur_len sl22 rfl (by decide) rfl | exact pur_len_m sl22 rfl rfl | exact pur_len_n sl22 rfl rfl) rfl ?_)
  refine TO_cons rfl (TOp_pure (pur_lss rfl rfl rfl) rfl ?_)
  refine TO_nil ?_
  refine T_keep [0, 3, 4, 11] ?_
  simp only [pick, List.map, lk, put, val, constA, entry, cellsOf, cellVal, cellVals, List.drop, List.take, List.append_assoc, List.nil_append, List.cons_append, List.singleton_append, List.length_cons, List.length_nil, List.set_cons_zero, List.set_cons_succ, setRow, setSub, spl, Root.under, List.getElem?_cons_zero, List.getElem?_cons_succ, List.map_cons, List.map_nil, reduceIte, Nat.reduceEqDiff, Nat.reduceAdd, Nat.reduceSub, Int.toNat_natCast, Nat.succ_ne_zero, Nat.zero_ne_one, Nat.one_ne_zero]
  refine T_cond rfl (fun c1 => ?_) (fun c1 => ?_)
  · try simp only [decide_eq_true_eq, decide_eq_false_iff_not, Bool.not_eq_true', Bool.not_eq_false', Int.not_lt, Int.not_le, Int.ofNat_lt, Int.ofNat_le, Int.ofNat_inj, ne_eq, Decidable.not_not] at c1
    refine T_skip ?_
    refine T_seq ?_
    refine T_block ?_
    refine T_region ?_
    refine TO_cons rfl (TOp_pure (pur_move rfl) rfl ?_)
    refine TO_cons rfl (TOp_pure (pur_move rfl) rfl ?_)
    refine TO_cons rfl (TOp_pure (pur_move rfl) rfl ?_)
    refine TO_cons rfl (TOp_pure (pur_move rfl) rfl ?_)
    refine TO_cons rfl (TOp_pure (by first | exact pur_ixN sl22 rfl rfl (by omega) rfl | exact pur_ixN_m sl22 rfl rfl (by omega) rfl | exact pur_ix sl22 rfl rfl (by omega) (by omega) rfl | exact pur_ix_m sl22 rfl rfl (by omega) (by omega) rfl) rfl ?_)
    refine TO_cons rfl (TOp_pure (by first | exact pur_ldK_b agg54 rfl rfl (Nat.le_of_ble_eq_true rfl) rfl | exact pur_ldK_flat rfl _ len_edge agg54 rfl rfl (by omega)) rfl ?_)
    refine TO_cons rfl (TOp_callV (call_static ent42 rfl) (laws_toConflictEdge _) rfl rfl rfl ?_)
    refine TO_cons rfl (TOp_pure (by first | exact pur_ixN sl25 rfl rfl (by omega) rfl | exact pur_ixN_m sl25 rfl rfl (by omega) rfl | exact pur_ix sl25 rfl rfl (by omega) (by omega) rfl | exact pur_ix_m sl25 rfl rfl (by omega) (by omega) rfl) rfl ?_)
    first | refine TO_cons rfl (TOp_storeB sz52 rfl rfl rfl rfl rfl rfl rfl (by decide) (Nat.le_of_ble_eq_true rfl) rfl ?_) | refine TO_cons rfl (TOp_setF len_edge (by decide) sz52 rfl rfl rfl rfl rfl (by omega) rfl rfl ?_)
    refine TO_nil ?_
    refine T_region ?_
    refine TO_cons rfl (TOp_pure (pur_move rfl) rfl ?_)
    refine TO_cons rfl (TOp_pure (pur_add rfl rfl rfl (fits64 (by omega) (by omega))) rfl ?_)
    refine TO_cons rfl (TOp_pure (pur_assign rfl) rfl ?_)
    refine TO_nil ?_
    refine again0 (E' := [(0, edgesI es), (3, .m [0] 0 es.length 2), (4, natA (i + 1))]) (σ' := [.row (flat edge (out.set i (es.getD i default)))]) _ ?_ (Weak.to 1 (by decide) rfl rfl rfl ⟨rfl, rfl, rfl, trivial⟩) ⟨(i + 1), (out.set i (es.getD i default)), ?_, ?_, ?_, rfl, rfl, rfl⟩
    · omega
    · omega
    · simpa using hl
    · exact set_all hall (by omega)
  · try simp only [decide_eq_true_eq, decide_eq_false_iff_not, Bool.not_eq_true', Bool.not_eq_false', Int.not_lt, Int.not_le, Int.ofNat_lt, Int.ofNat_le, Int.ofNat_inj, ne_eq, Decidable.not_not] at c1
    refine T_exit ?_
    refine then_exit ?_
    refine then_exit ?_
    refine block_exit ?_
    refine T_seq ?_
    refine T_region ?_
    refine TO_cons rfl (TOp_pure (pur_move rfl) rfl ?_)
    refine TO_cons rfl (TOp_pure (pur_assign rfl) rfl ?_)
    refine TO_nil ?_
    refine T_keep [2] ?_
    simp only [pick, List.map, lk, put, val, constA, entry, cellsOf, cellVal, cellVals, List.drop, List.take, List.append_assoc, List.nil_append, List.cons_append, List.singleton_append, List.length_cons, List.length_nil, List.set_cons_zero, List.set_cons_succ, setRow, setSub, spl, Root.under, List.getElem?_cons_zero, List.getElem?_cons_succ, List.map_cons, List.map_nil, reduceIte, Nat.reduceEqDiff, Nat.reduceAdd, Nat.reduceSub, Int.toNat_natCast, Nat.succ_ne_zero, Nat.zero_ne_one, Nat.one_ne_zero]
    refine T_ret ?_
    have e : out = es := list_ext_getD hl (fun j hj => hall j (by omega))
    subst e
    exact end_own (.tmp .nil) rfl 1 (by decide) rfl rfl rfl rfl ⟨rfl, rfl⟩

theorem laws_toConflictEdgeS (es : List (Int × Int)) (he : es.length ≤ 1048576) : FnV prg 13 [edgesI es] (edgesI es) :=
  Sep.Fn.frz (laws_toConflictEdgeS_own es he) fun r σ h => by
    obtain ⟨rfl, rfl⟩ := h
    have hl := flat_len len_edge es
    refine ⟨⟨by decide, flat edge es, rfl, by rw [hl]; omega, ?_⟩, ?_⟩
    · rw [List.drop_zero, ← hl, List.take_length]; exact firmL_edges es
    · show A.i 2 (fzL (((flat edge es).drop 0).take (es.length * 2))) = _
      rw [List.drop_zero, ← hl, List.take_length]; exact congrArg (A.i 2) (fzL_edges es)
end Go.Proofs.Ytglgcncmjnjfgaa

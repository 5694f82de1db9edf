/- Contracts of functions of the program (pref), each walked once. -/
import Derived.Test.YtglgcncmjnjfgaaProg
import Derived.Test.YtglgcncmjnjfgaaK2
set_option linter.unusedVariables false
set_option linter.unusedSimpArgs false
set_option maxRecDepth 4000
namespace Go.Proofs.Ytglgcncmjnjfgaa
open Go Go.Proofs Go.Sep
theorem bytes3 : (prg.info? 3).map (·.bytes) = some 8 := by kernel_rfl
theorem ent14 : EnT prg 14 := fun args w => by
  have h := Try.func14
  simp [callFunc, h, Try.f14]
theorem ent54 : EnT prg 54 := fun args w => by
  have h := Try.func54
  simp [callFunc, h, Try.f54]
theorem ent55 : EnT prg 55 := fun args w => by
  have h := Try.func55
  simp [callFunc, h, Try.f55]
theorem ent76 : EnT prg 76 := fun args w => by
  have h := Try.func76
  simp [callFunc, h, Try.f76]
theorem ent77 : EnT prg 77 := fun args w => by
  have h := Try.func77
  simp [callFunc, h, Try.f77]
theorem ent79 : EnT prg 79 := fun args w => by
  have h := Try.func79
  simp [callFunc, h, Try.f79]
theorem one25 : OneT prg 25 := .of (by kernel_rfl)
theorem zero3 : ZeroT prg 3 [.int .i64 0] := .of (by kernel_rfl) (by decide)

theorem wrap_pred {b : Int} (h : -9223372036854775808 ≤ b ∧ b ≤ 9223372036854775807) : (b = -9223372036854775808 ∧ IntKind.i64.wrap (b - 1) = 9223372036854775807) ∨ (-9223372036854775808 < b ∧ IntKind.i64.wrap (b - 1) = b - 1) := by
  by_cases e : b = -9223372036854775808
  · subst e; exact .inl ⟨rfl, by decide⟩
  · exact .inr ⟨by omega, (fits64 (by omega) (by omega)).symm⟩
def lexlt (a b : Int × Int) : Prop := a.1 < b.1 ∨ (a.1 = b.1 ∧ a.2 < b.2)
/-- Edge j of a list of conflicts among n facts is in order. -/
def OkE (n : Int) (es : List (Int × Int)) (j : Nat) : Prop := (0 ≤ (es.getD j default).1 ∧ (es.getD j default).1 < (es.getD j default).2 ∧ (es.getD j default).2 < n) ∧ (0 < j → lexlt (es.getD (j - 1) default) (es.getD j default))
def VE (n : Int) (es : List (Int × Int)) : Prop := (0 ≤ n ∧ n ≤ 14) ∧ ∀ j, j < es.length → OkE n es j
theorem VE_end0 {n : Int} {es : List (Int × Int)} {i : Nat} (hn : -9223372036854775808 ≤ n ∧ n ≤ 9223372036854775807) (hil : ¬ i < es.length) (hall : ∀ j, j < i → OkE (IntKind.i64.wrap (n - 1) + 1) es j) (h0 : 0 ≤ n ∧ n ≤ 14) : VE n es := by
  have hwn := wrap_pred hn
  have e : IntKind.i64.wrap (n - 1) + 1 = n := by omega
  rw [e] at hall
  exact ⟨h0, fun j hj => hall j (by omega)⟩
/-- A proposition's truth. -/
noncomputable def tr (p : Prop) : Bool := @decide p (Classical.propDecidable p)
theorem tr_true {p : Prop} (h : p) : tr p = true := by unfold tr; simp [h]
theorem tr_false {p : Prop} (h : ¬ p) : tr p = false := by unfold tr; simp [h]
theorem tr_iff {p : Prop} : tr p = true ↔ p := by unfold tr; simp
theorem tr_not {p : Prop} : tr p = false ↔ ¬ p := by unfold tr; simp
theorem VE_end {n : Int} {es : List (Int × Int)} {i : Nat} (hn : -9223372036854775808 ≤ n ∧ n ≤ 9223372036854775807) (hil : ¬ i < es.length) (hall : ∀ j, j < i → OkE (IntKind.i64.wrap (n - 1) + 1) es j) : decide (0 ≤ n ∧ n ≤ 14) = tr (VE n es) := by
  by_cases h0 : 0 ≤ n ∧ n ≤ 14
  · rw [decide_eq_true h0, tr_true (VE_end0 hn hil hall h0)]
  · rw [decide_eq_false h0, tr_false (fun h => h0 h.1)]
theorem tr_congr {p q : Prop} (h : p ↔ q) : tr p = tr q := by rw [propext h]
abbrev R64 (es : List (Int × Int)) : Prop := ∀ e ∈ es, (-9223372036854775808 ≤ e.1 ∧ e.1 ≤ 9223372036854775807) ∧ (-9223372036854775808 ≤ e.2 ∧ e.2 ≤ 9223372036854775807)
theorem getD_mem {α : Type} {xs : List α} {d : α} {i : Nat} (h : i < xs.length) : xs.getD i d ∈ xs := by simp [List.getD, h]
theorem und_len {α : Type} (q : α → Bool) (xs : List α) : (xs.filter q).length ≤ xs.length := List.length_filter_le _ _

set_option maxHeartbeats 1000000 in
/-- spec.AreValidEdges -/
theorem spec_AreValidEdges (n : Int) (es : List (Int × Int)) (he : es.length ≤ 9223372036854775807) (hr : R64 es) (hn : -9223372036854775808 ≤ n ∧ n ≤ 9223372036854775807) : FnV prg 45 [intA n, edgesI es] (boolA (tr (VE n es))) := by
  refine fnV_of_T Try.func45 rfl rfl (Nat.le_of_ble_eq_true rfl) ?_
  simp only [entry, Nat.reduceAdd]
  refine T_seq ?_
  refine T_region ?_
  refine TO_cons rfl (TOp_pure (pur_assign rfl) rfl ?_)
  refine TO_nil ?_
  refine T_keep [0, 1] ?_
  simp only [pick, List.map, lk, put, val, constA, entry, cellsOf, cellVal, cellVals, List.drop, List.take, List.append_assoc, List.nil_append, List.cons_append, List.singleton_append, List.length_cons, List.length_nil, List.set_cons_zero, List.set_cons_succ, setRow, setSub, spl, Root.under, List.getElem?_cons_zero, List.getElem?_cons_succ, List.map_cons, List.map_nil, reduceIte, Nat.reduceEqDiff, Nat.reduceAdd, Nat.reduceSub, Int.toNat_natCast, Nat.succ_ne_zero, Nat.zero_ne_one, Nat.one_ne_zero]
  refine T_seq ?_
  refine T_seq ?_
  refine T_region ?_
  refine TO_cons rfl (TOp_pure (pur_assign rfl) rfl ?_)
  refine TO_nil ?_
  refine T_keep [0, 1, 5] ?_
  simp only [pick, List.map, lk, put, val, constA, entry, cellsOf, cellVal, cellVals, List.drop, List.take, List.append_assoc, List.nil_append, List.cons_append, List.singleton_append, List.length_cons, List.length_nil, List.set_cons_zero, List.set_cons_succ, setRow, setSub, spl, Root.under, List.getElem?_cons_zero, List.getElem?_cons_succ, List.map_cons, List.map_nil, reduceIte, Nat.reduceEqDiff, Nat.reduceAdd, Nat.reduceSub, Int.toNat_natCast, Nat.succ_ne_zero, Nat.zero_ne_one, Nat.one_ne_zero]
  refine T_block ?_
  refine T_loop (fun k E σ => ∃ (i : Nat), (i ≤ es.length) ∧ (∀ j, j < i → OkE (IntKind.i64.wrap (n - 1) + 1) es j) ∧ k = es.length - i ∧ E = [(0, intA n), (1, edgesI es), (5, natA i)] ∧ σ = []) _ (E0 := [(0, intA n), (1, edgesI es), (5, natA (0))]) (σ0 := []) (Weak.to0 rfl ⟨rfl, rfl, rfl, trivial⟩) ⟨(0), ?_, ?_, rfl, rfl, rfl⟩ ?_
  · (first | omega | (simp_all; done) | (simp_all; omega))
  · (first | omega | (simp_all; done) | (simp_all; omega))
  rintro k E σ ⟨i, hi, hall, rfl, rfl, rfl⟩
  refine T_seq ?_
  refine T_seq ?_
  refine T_region ?_
  refine TO_cons rfl (TOp_pure (pur_move rfl) rfl ?_)
  refine TO_cons rfl (TOp_pure (pur_move rfl) rfl ?_)
  refine TO_cons rfl (TOp_pure (by first | exact pur_len sl25 rfl (by decide) rfl | exact pur_len_m sl25 rfl rfl | exact pur_len_n sl25 rfl rfl) rfl ?_)
  refine TO_cons rfl (TOp_pure (pur_lss rfl rfl rfl) rfl ?_)
  refine TO_nil ?_
  refine T_keep [0, 1, 5, 9] ?_
  simp only [pick, List.map, lk, put, val, constA, entry, cellsOf, cellVal, cellVals, List.drop, List.take, List.append_assoc, List.nil_append, List.cons_append, List.singleton_append, List.length_cons, List.length_nil, List.set_cons_zero, List.set_cons_succ, setRow, setSub, spl, Root.under, List.getElem?_cons_zero, List.getElem?_cons_succ, List.map_cons, List.map_nil, reduceIte, Nat.reduceEqDiff, Nat.reduceAdd, Nat.reduceSub, Int.toNat_natCast, Nat.succ_ne_zero, Nat.zero_ne_one, Nat.one_ne_zero]
  refine T_cond rfl (fun c1 => ?_) (fun c1 => ?_)
  · try simp only [decide_eq_true_eq, decide_eq_false_iff_not, Bool.not_eq_true', Bool.not_eq_false', Int.not_lt, Int.not_le, Int.ofNat_lt, Int.ofNat_le, Int.ofNat_inj, ne_eq, Decidable.not_not] at c1
    have hw := wrap_pred (hr (es.getD i default) (getD_mem (by omega))).2
    have hwn := wrap_pred hn
    refine T_skip ?_
    refine T_seq ?_
    refine T_block ?_
    refine T_seq ?_
    refine T_regionD mixed (by kernel_rfl) ?_
    refine TQ_pure rfl (pur_move rfl) rfl ?_
    refine TQ_pure rfl (pur_move rfl) rfl ?_
    refine TQ_pure rfl (by first | exact pur_ixN sl25 rfl rfl (by omega) rfl | exact pur_ixN_m sl25 rfl rfl (by omega) rfl | exact pur_ix sl25 rfl rfl (by omega) (by omega) rfl | exact pur_ix_m sl25 rfl rfl (by omega) (by omega) rfl) rfl ?_
    refine TQ_pure rfl (by first | exact pur_fa_q fld52_0 rfl rfl | exact pur_fa_b fld52_0 rfl rfl | exact pur_fa_e fld52_0 rfl rfl) rfl ?_
    refine TQ_pure rfl (by first | exact pur_ld_b one3 rfl rfl rfl rfl | exact pur_ld_flat rfl _ 0 len_edge one3 rfl rfl (by omega) rfl | exact pur_ld_q one3 rfl rfl rfl | exact pur_ld_e one3 rfl rfl rfl rfl) rfl ?_
    refine TQ_pure rfl (pur_move rfl) rfl ?_
    refine TQ_pure rfl (pur_move rfl) rfl ?_
    refine TQ_pure rfl (by first | exact pur_ixN sl25 rfl rfl (by omega) rfl | exact pur_ixN_m sl25 rfl rfl (by omega) rfl | exact pur_ix sl25 rfl rfl (by omega) (by omega) rfl | exact pur_ix_m sl25 rfl rfl (by omega) (by omega) rfl) rfl ?_
    refine TQ_pure rfl (by first | exact pur_fa_q fld52_1 rfl rfl | exact pur_fa_b fld52_1 rfl rfl | exact pur_fa_e fld52_1 rfl rfl) rfl ?_
    refine TQ_pure rfl (by first | exact pur_ld_b one3 rfl rfl rfl rfl | exact pur_ld_flat rfl _ 1 len_edge one3 rfl rfl (by omega) rfl | exact pur_ld_q one3 rfl rfl rfl | exact pur_ld_e one3 rfl rfl rfl rfl) rfl ?_
    refine TQ_pure rfl (pur_sub rfl rfl rfl rfl) rfl ?_
    refine TQ_callV rfl (call_static ent76 rfl) (spec_l1In _ _ _) rfl rfl ?_
    refine TQ_pure rfl (pur_not rfl rfl) rfl ?_
    refine TQ_pure rfl (pur_move rfl) rfl ?_
    refine TQ_split 25 rfl (fun g2 => ?_) (fun g2 => ?_)
    · try simp only [decide_eq_true_eq, decide_eq_false_iff_not, Bool.not_eq_true', Bool.not_eq_false', Int.not_lt, Int.not_le, Int.ofNat_lt, Int.ofNat_le, Int.ofNat_inj, ne_eq, Decidable.not_not] at g2
      refine TQ_off rfl rfl (by decide) rfl rfl rfl ?_
      refine TQ_off rfl rfl (by decide) rfl rfl rfl ?_
      refine TQ_off rfl rfl (by decide) rfl rfl rfl ?_
      refine TQ_off rfl rfl (by decide) rfl rfl rfl ?_
      refine TQ_off rfl rfl (by decide) rfl rfl rfl ?_
      refine TQ_off rfl rfl (by decide) rfl rfl rfl ?_
      refine TQ_off rfl rfl (by decide) rfl rfl rfl ?_
      refine TQ_off rfl rfl (by decide) rfl rfl rfl ?_
      refine TQ_off rfl rfl (by decide) rfl rfl rfl ?_
      refine TQ_pure rfl (pur_pick rfl rfl rfl) rfl ?_
      refine TQ_pure rfl (pur_move rfl) rfl ?_
      refine TQ_off rfl rfl (by decide) rfl rfl rfl ?_
      refine TQ_off rfl rfl (by decide) rfl rfl rfl ?_
      refine TQ_off rfl rfl (by decide) rfl rfl rfl ?_
      refine TQ_off rfl rfl (by decide) rfl rfl rfl ?_
      refine TQ_off rfl rfl (by decide) rfl rfl rfl ?_
      refine TQ_off rfl rfl (by decide) rfl rfl rfl ?_
      refine TQ_off rfl rfl (by decide) rfl rfl rfl ?_
      refine TQ_off rfl rfl (by decide) rfl rfl rfl ?_
      refine TQ_off rfl rfl (by decide) rfl rfl rfl ?_
      refine TQ_off rfl rfl (by decide) rfl rfl rfl ?_
      refine TQ_off rfl rfl (by decide) rfl rfl rfl ?_
      refine TQ_off rfl rfl (by decide) rfl rfl rfl ?_
      refine TQ_off rfl rfl (by decide) rfl rfl rfl ?_
      refine TQ_off rfl rfl (by decide) rfl rfl rfl ?_
      refine TQ_off rfl rfl (by decide) rfl rfl rfl ?_
      refine TQ_off rfl rfl (by decide) rfl rfl rfl ?_
      refine TQ_off rfl rfl (by decide) rfl rfl rfl ?_
      refine TQ_off rfl rfl (by decide) rfl rfl rfl ?_
      refine TQ_off rfl rfl (by decide) rfl rfl rfl ?_
      refine TQ_off rfl rfl (by decide) rfl rfl rfl ?_
      refine TQ_off rfl rfl (by decide) rfl rfl rfl ?_
      refine TQ_off rfl rfl (by decide) rfl rfl rfl ?_
      refine TQ_off rfl rfl (by decide) rfl rfl rfl ?_
      refine TQ_off rfl rfl (by decide) rfl rfl rfl ?_
      refine TQ_off rfl rfl (by decide) rfl rfl rfl ?_
      refine TQ_off rfl rfl (by decide) rfl rfl rfl ?_
      refine TQ_off rfl rfl (by decide) rfl rfl rfl ?_
      refine TQ_off rfl rfl (by decide) rfl rfl rfl ?_
      refine TQ_off rfl rfl (by decide) rfl rfl rfl ?_
      refine TQ_off rfl rfl (by decide) rfl rfl rfl ?_
      refine TQ_off rfl rfl (by decide) rfl rfl rfl ?_
      refine TQ_off rfl rfl (by decide) rfl rfl rfl ?_
      refine TQ_off rfl rfl (by decide) rfl rfl rfl ?_
      refine TQ_off rfl rfl (by decide) rfl rfl rfl ?_
      refine TQ_off rfl rfl (by decide) rfl rfl rfl ?_
      refine TQ_off rfl rfl (by decide) rfl rfl rfl ?_
      refine TQ_off rfl rfl (by decide) rfl rfl rfl ?_
      refine TQ_off rfl rfl (by decide) rfl rfl rfl ?_
      refine TQ_off rfl rfl (by decide) rfl rfl rfl ?_
      refine TQ_off rfl rfl (by decide) rfl rfl rfl ?_
      refine TQ_off rfl rfl (by decide) rfl rfl rfl ?_
      refine TQ_off rfl rfl (by decide) rfl rfl rfl ?_
      refine TQ_off rfl rfl (by decide) rfl rfl rfl ?_
      refine TQ_off rfl rfl (by decide) rfl rfl rfl ?_
      refine TQ_pure rfl (pur_pick rfl rfl rfl) rfl ?_
      refine TQ_nil ?_
      refine T_keep [0, 1, 5, 81] ?_
      simp only [pick, List.map, lk, put, val, constA, entry, cellsOf, cellVal, cellVals, List.drop, List.take, List.append_assoc, List.nil_append, List.cons_append, List.singleton_append, List.length_cons, List.length_nil, List.set_cons_zero, List.set_cons_succ, setRow, setSub, spl, Root.under, List.getElem?_cons_zero, List.getElem?_cons_succ, List.map_cons, List.map_nil, reduceIte, Nat.reduceEqDiff, Nat.reduceAdd, Nat.reduceSub, Int.toNat_natCast, Nat.succ_ne_zero, Nat.zero_ne_one, Nat.one_ne_zero]
      refine T_cond (t := true) rfl (fun _ => ?_) (fun h => nomatch h)
      refine T_seq ?_
      refine T_region ?_
      refine TO_cons rfl (TOp_pure (pur_assign rfl) rfl ?_)
      refine TO_nil ?_
      refine T_keep [4] ?_
      simp only [pick, List.map, lk, put, val, constA, entry, cellsOf, cellVal, cellVals, List.drop, List.take, List.append_assoc, List.nil_append, List.cons_append, List.singleton_append, List.length_cons, List.length_nil, List.set_cons_zero, List.set_cons_succ, setRow, setSub, spl, Root.under, List.getElem?_cons_zero, List.getElem?_cons_succ, List.map_cons, List.map_nil, reduceIte, Nat.reduceEqDiff, Nat.reduceAdd, Nat.reduceSub, Int.toNat_natCast, Nat.succ_ne_zero, Nat.zero_ne_one, Nat.one_ne_zero]
      refine T_ret ?_
      refine block_ret ?_
      refine then_ret ?_
      refine then_ret ?_
      refine block_ret ?_
      refine then_ret ?_
      refine end_ret (.tmp .nil) rfl rfl ⟨?_, rfl⟩
      simp only [resA, lk, reduceIte, Nat.reduceEqDiff]
      refine congrArg boolA ?_
      first | (rw [tr_false]; rintro ⟨⟨h0, h14⟩, hv⟩; have hv := hv i (by omega); unfold OkE lexlt at hv; simp only [Int.toNat_natCast, toNat_pred, decide_eq_true_eq, decide_eq_false_iff_not, Bool.not_eq_true', Bool.not_eq_false'] at *; omega) | exact VE_end hn (by omega) hall
    · try simp only [decide_eq_true_eq, decide_eq_false_iff_not, Bool.not_eq_true', Bool.not_eq_false', Int.not_lt, Int.not_le, Int.ofNat_lt, Int.ofNat_le, Int.ofNat_inj, ne_eq, Decidable.not_not] at g2
      refine TQ_on rfl rfl (by decide) rfl (pur_move rfl) rfl ?_
      refine TQ_on rfl rfl (by decide) rfl (pur_move rfl) rfl ?_
      refine TQ_on rfl rfl (by decide) rfl (by first | exact pur_ixN sl25 rfl rfl (by omega) rfl | exact pur_ixN_m sl25 rfl rfl (by omega) rfl | exact pur_ix sl25 rfl rfl (by omega) (by omega) rfl | exact pur_ix_m sl25 rfl rfl (by omega) (by omega) rfl) rfl ?_
      refine TQ_on rfl rfl (by decide) rfl (by first | exact pur_fa_q fld52_1 rfl rfl | exact pur_fa_b fld52_1 rfl rfl | exact pur_fa_e fld52_1 rfl rfl) rfl ?_
      refine TQ_on rfl rfl (by decide) rfl (by first | exact pur_ld_b one3 rfl rfl rfl rfl | exact pur_ld_flat rfl _ 1 len_edge one3 rfl rfl (by omega) rfl | exact pur_ld_q one3 rfl rfl rfl | exact pur_ld_e one3 rfl rfl rfl rfl) rfl ?_
      refine TQ_on rfl rfl (by decide) rfl (pur_move rfl) rfl ?_
      refine TQ_on rfl rfl (by decide) rfl (pur_sub rfl rfl rfl rfl) rfl ?_
      refine TQ_onV rfl rfl (by decide) rfl (call_static ent76 rfl) (spec_l1In _ _ _) rfl rfl ?_
      refine TQ_on rfl rfl (by decide) rfl (pur_not rfl rfl) rfl ?_
      refine TQ_pure rfl (pur_pick rfl rfl rfl) rfl ?_
      refine TQ_pure rfl (pur_move rfl) rfl ?_
      refine TQ_split 36 rfl (fun g3 => ?_) (fun g3 => ?_)
      · try simp only [decide_eq_true_eq, decide_eq_false_iff_not, Bool.not_eq_true', Bool.not_eq_false', Int.not_lt, Int.not_le, Int.ofNat_lt, Int.ofNat_le, Int.ofNat_inj, ne_eq, Decidable.not_not] at g3
        refine TQ_off rfl rfl (by decide) rfl rfl rfl ?_
        refine TQ_off rfl rfl (by decide) rfl rfl rfl ?_
        refine TQ_off rfl rfl (by decide) rfl rfl rfl ?_
        refine TQ_off rfl rfl (by decide) rfl rfl rfl ?_
        refine TQ_off rfl rfl (by decide) rfl rfl rfl ?_
        refine TQ_off rfl rfl (by decide) rfl rfl rfl ?_
        refine TQ_off rfl rfl (by decide) rfl rfl rfl ?_
        refine TQ_off rfl rfl (by decide) rfl rfl rfl ?_
        refine TQ_off rfl rfl (by decide) rfl rfl rfl ?_
        refine TQ_off rfl rfl (by decide) rfl rfl rfl ?_
        refine TQ_off rfl rfl (by decide) rfl rfl rfl ?_
        refine TQ_off rfl rfl (by decide) rfl rfl rfl ?_
        refine TQ_off rfl rfl (by decide) rfl rfl rfl ?_
        refine TQ_off rfl rfl (by decide) rfl rfl rfl ?_
        refine TQ_off rfl rfl (by decide) rfl rfl rfl ?_
        refine TQ_off rfl rfl (by decide) rfl rfl rfl ?_
        refine TQ_off rfl rfl (by decide) rfl rfl rfl ?_
        refine TQ_off rfl rfl (by decide) rfl rfl rfl ?_
        refine TQ_off rfl rfl (by decide) rfl rfl rfl ?_
        refine TQ_off rfl rfl (by decide) rfl rfl rfl ?_
        refine TQ_off rfl rfl (by decide) rfl rfl rfl ?_
        refine TQ_off rfl rfl (by decide) rfl rfl rfl ?_
        refine TQ_off rfl rfl (by decide) rfl rfl rfl ?_
        refine TQ_off rfl rfl (by decide) rfl rfl rfl ?_
        refine TQ_off rfl rfl (by decide) rfl rfl rfl ?_
        refine TQ_off rfl rfl (by decide) rfl rfl rfl ?_
        refine TQ_off rfl rfl (by decide) rfl rfl rfl ?_
        refine TQ_off rfl rfl (by decide) rfl rfl rfl ?_
        refine TQ_off rfl rfl (by decide) rfl rfl rfl ?_
        refine TQ_off rfl rfl (by decide) rfl rfl rfl ?_
        refine TQ_off rfl rfl (by decide) rfl rfl rfl ?_
        refine TQ_off rfl rfl (by decide) rfl rfl rfl ?_
        refine TQ_off rfl rfl (by decide) rfl rfl rfl ?_
        refine TQ_off rfl rfl (by decide) rfl rfl rfl ?_
        refine TQ_off rfl rfl (by decide) rfl rfl rfl ?_
        refine TQ_off rfl rfl (by decide) rfl rfl rfl ?_
        refine TQ_off rfl rfl (by decide) rfl rfl rfl ?_
        refine TQ_off rfl rfl (by decide) rfl rfl rfl ?_
        refine TQ_off rfl rfl (by decide) rfl rfl rfl ?_
        refine TQ_off rfl rfl (by decide) rfl rfl rfl ?_
        refine TQ_off rfl rfl (by decide) rfl rfl rfl ?_
        refine TQ_off rfl rfl (by decide) rfl rfl rfl ?_
        refine TQ_off rfl rfl (by decide) rfl rfl rfl ?_
        refine TQ_off rfl rfl (by decide) rfl rfl rfl ?_
        refine TQ_pure rfl (pur_pick rfl rfl rfl) rfl ?_
        refine TQ_nil ?_
        refine T_keep [0, 1, 5, 81] ?_
        simp only [pick, List.map, lk, put, val, constA, entry, cellsOf, cellVal, cellVals, List.drop, List.take, List.append_assoc, List.nil_append, List.cons_append, List.singleton_append, List.length_cons, List.length_nil, List.set_cons_zero, List.set_cons_succ, setRow, setSub, spl, Root.under, List.getElem?_cons_zero, List.getElem?_cons_succ, List.map_cons, List.map_nil, reduceIte, Nat.reduceEqDiff, Nat.reduceAdd, Nat.reduceSub, Int.toNat_natCast, Nat.succ_ne_zero, Nat.zero_ne_one, Nat.one_ne_zero]
        refine T_cond (t := true) rfl (fun _ => ?_) (fun h => nomatch h)
        refine T_seq ?_
        refine T_region ?_
        refine TO_cons rfl (TOp_pure (pur_assign rfl) rfl ?_)
        refine TO_nil ?_
        refine T_keep [4] ?_
        simp only [pick, List.map, lk, put, val, constA, entry, cellsOf, cellVal, cellVals, List.drop, List.take, List.append_assoc, List.nil_append, List.cons_append, List.singleton_append, List.length_cons, List.length_nil, List.set_cons_zero, List.set_cons_succ, setRow, setSub, spl, Root.under, List.getElem?_cons_zero, List.getElem?_cons_succ, List.map_cons, List.map_nil, reduceIte, Nat.reduceEqDiff, Nat.reduceAdd, Nat.reduceSub, Int.toNat_natCast, Nat.succ_ne_zero, Nat.zero_ne_one, Nat.one_ne_zero]
        refine T_ret ?_
        refine block_ret ?_
        refine then_ret ?_
        refine then_ret ?_
        refine block_ret ?_
        refine then_ret ?_
        refine end_ret (.tmp .nil) rfl rfl ⟨?_, rfl⟩
        simp only [resA, lk, reduceIte, Nat.reduceEqDiff]
        refine congrArg boolA ?_
        first | (rw [tr_false]; rintro ⟨⟨h0, h14⟩, hv⟩; have hv := hv i (by omega); unfold OkE lexlt at hv; simp only [Int.toNat_natCast, toNat_pred, decide_eq_true_eq, decide_eq_false_iff_not, Bool.not_eq_true', Bool.not_eq_false'] at *; omega) | exact VE_end hn (by omega) hall
      · try simp only [decide_eq_true_eq, decide_eq_false_iff_not, Bool.not_eq_true', Bool.not_eq_false', Int.not_lt, Int.not_le, Int.ofNat_lt, Int.ofNat_le, Int.ofNat_inj, ne_eq, Decidable.not_not] at g3
        refine TQ_on rfl rfl (by decide) rfl (pur_move rfl) rfl ?_
        refine TQ_on rfl rfl (by decide) rfl (pur_gtr rfl rfl rfl) rfl ?_
        refine TQ_on rfl rfl (by decide) rfl (pur_move rfl) rfl ?_
        refine TQ_split 39 rfl (fun g4 => ?_) (fun g4 => ?_)
        · try simp only [decide_eq_true_eq, decide_eq_false_iff_not, Bool.not_eq_true', Bool.not_eq_false', Int.not_lt, Int.not_le, Int.ofNat_lt, Int.ofNat_le, Int.ofNat_inj, ne_eq, Decidable.not_not] at g4
          refine TQ_on rfl rfl (by decide) rfl (pur_move rfl) rfl ?_
          refine TQ_on rfl rfl (by decide) rfl (pur_move rfl) rfl ?_
          refine TQ_on rfl rfl (by decide) rfl (by first | exact pur_ixN sl25 rfl rfl (by omega) rfl | exact pur_ixN_m sl25 rfl rfl (by omega) rfl | exact pur_ix sl25 rfl rfl (by omega) (by omega) rfl | exact pur_ix_m sl25 rfl rfl (by omega) (by omega) rfl) rfl ?_
          refine TQ_on rfl rfl (by decide) rfl (by first | exact pur_fa_q fld52_0 rfl rfl | exact pur_fa_b fld52_0 rfl rfl | exact pur_fa_e fld52_0 rfl rfl) rfl ?_
          refine TQ_on rfl rfl (by decide) rfl (by first | exact pur_ld_b one3 rfl rfl rfl rfl | exact pur_ld_flat rfl _ 0 len_edge one3 rfl rfl (by omega) rfl | exact pur_ld_q one3 rfl rfl rfl | exact pur_ld_e one3 rfl rfl rfl rfl) rfl ?_
          refine TQ_on rfl rfl (by decide) rfl (pur_move rfl) rfl ?_
          refine TQ_on rfl rfl (by decide) rfl (pur_move rfl) rfl ?_
          refine TQ_on rfl rfl (by decide) rfl (pur_sub rfl rfl rfl (fits64 (by omega) (by omega))) rfl ?_
          refine TQ_on rfl rfl (by decide) rfl (by first | exact pur_ixN sl25 rfl rfl (by omega) rfl | exact pur_ixN_m sl25 rfl rfl (by omega) rfl | exact pur_ix sl25 rfl rfl (by omega) (by omega) rfl | exact pur_ix_m sl25 rfl rfl (by omega) (by omega) rfl) rfl ?_
          refine TQ_on rfl rfl (by decide) rfl (by first | exact pur_fa_q fld52_0 rfl rfl | exact pur_fa_b fld52_0 rfl rfl | exact pur_fa_e fld52_0 rfl rfl) rfl ?_
          refine TQ_on rfl rfl (by decide) rfl (by first | exact pur_ld_b one3 rfl rfl rfl rfl | exact pur_ld_flat rfl _ 0 len_edge one3 rfl rfl (by omega) rfl | exact pur_ld_q one3 rfl rfl rfl | exact pur_ld_e one3 rfl rfl rfl rfl) rfl ?_
          refine TQ_on rfl rfl (by decide) rfl (pur_lss rfl rfl rfl) rfl ?_
          refine TQ_on rfl rfl (by decide) rfl (pur_move rfl) rfl ?_
          refine TQ_split 52 rfl (fun g5 => ?_) (fun g5 => ?_)
          · try simp only [decide_eq_true_eq, decide_eq_false_iff_not, Bool.not_eq_true', Bool.not_eq_false', Int.not_lt, Int.not_le, Int.ofNat_lt, Int.ofNat_le, Int.ofNat_inj, ne_eq, Decidable.not_not] at g5
            refine TQ_off rfl rfl (by decide) rfl rfl rfl ?_
            refine TQ_off rfl rfl (by decide) rfl rfl rfl ?_
            refine TQ_off rfl rfl (by decide) rfl rfl rfl ?_
            refine TQ_off rfl rfl (by decide) rfl rfl rfl ?_
            refine TQ_off rfl rfl (by decide) rfl rfl rfl ?_
            refine TQ_off rfl rfl (by decide) rfl rfl rfl ?_
            refine TQ_off rfl rfl (by decide) rfl rfl rfl ?_
            refine TQ_off rfl rfl (by decide) rfl rfl rfl ?_
            refine TQ_off rfl rfl (by decide) rfl rfl rfl ?_
            refine TQ_off rfl rfl (by decide) rfl rfl rfl ?_
            refine TQ_off rfl rfl (by decide) rfl rfl rfl ?_
            refine TQ_off rfl rfl (by decide) rfl rfl rfl ?_
            refine TQ_off rfl rfl (by decide) rfl rfl rfl ?_
            refine TQ_off rfl rfl (by decide) rfl rfl rfl ?_
            refine TQ_off rfl rfl (by decide) rfl rfl rfl ?_
            refine TQ_off rfl rfl (by decide) rfl rfl rfl ?_
            refine TQ_off rfl rfl (by decide) rfl rfl rfl ?_
            refine TQ_off rfl rfl (by decide) rfl rfl rfl ?_
            refine TQ_off rfl rfl (by decide) rfl rfl rfl ?_
            refine TQ_off rfl rfl (by decide) rfl rfl rfl ?_
            refine TQ_off rfl rfl (by decide) rfl rfl rfl ?_
            refine TQ_off rfl rfl (by decide) rfl rfl rfl ?_
            refine TQ_off rfl rfl (by decide) rfl rfl rfl ?_
            refine TQ_off rfl rfl (by decide) rfl rfl rfl ?_
            refine TQ_off rfl rfl (by decide) rfl rfl rfl ?_
            refine TQ_off rfl rfl (by decide) rfl rfl rfl ?_
            refine TQ_on rfl rfl (by decide) rfl (pur_pick rfl rfl rfl) rfl ?_
            refine TQ_on rfl rfl (by decide) rfl (pur_pick rfl rfl rfl) rfl ?_
            refine TQ_pure rfl (pur_pick rfl rfl rfl) rfl ?_
            refine TQ_nil ?_
            refine T_keep [0, 1, 5, 81] ?_
            simp only [pick, List.map, lk, put, val, constA, entry, cellsOf, cellVal, cellVals, List.drop, List.take, List.append_assoc, List.nil_append, List.cons_append, List.singleton_append, List.length_cons, List.length_nil, List.set_cons_zero, List.set_cons_succ, setRow, setSub, spl, Root.under, List.getElem?_cons_zero, List.getElem?_cons_succ, List.map_cons, List.map_nil, reduceIte, Nat.reduceEqDiff, Nat.reduceAdd, Nat.reduceSub, Int.toNat_natCast, Nat.succ_ne_zero, Nat.zero_ne_one, Nat.one_ne_zero]
            refine T_cond (t := true) rfl (fun _ => ?_) (fun h => nomatch h)
            refine T_seq ?_
            refine T_region ?_
            refine TO_cons rfl (TOp_pure (pur_assign rfl) rfl ?_)
            refine TO_nil ?_
            refine T_keep [4] ?_
            simp only [pick, List.map, lk, put, val, constA, entry, cellsOf, cellVal, cellVals, List.drop, List.take, List.append_assoc, List.nil_append, List.cons_append, List.singleton_append, List.length_cons, List.length_nil, List.set_cons_zero, List.set_cons_succ, setRow, setSub, spl, Root.under, List.getElem?_cons_zero, List.getElem?_cons_succ, List.map_cons, List.map_nil, reduceIte, Nat.reduceEqDiff, Nat.reduceAdd, Nat.reduceSub, Int.toNat_natCast, Nat.succ_ne_zero, Nat.zero_ne_one, Nat.one_ne_zero]
            refine T_ret ?_
            refine block_ret ?_
            refine then_ret ?_
            refine then_ret ?_
            refine block_ret ?_
            refine then_ret ?_
            refine end_ret (.tmp .nil) rfl rfl ⟨?_, rfl⟩
            simp only [resA, lk, reduceIte, Nat.reduceEqDiff]
            refine congrArg boolA ?_
            first | (rw [tr_false]; rintro ⟨⟨h0, h14⟩, hv⟩; have hv := hv i (by omega); unfold OkE lexlt at hv; simp only [Int.toNat_natCast, toNat_pred, decide_eq_true_eq, decide_eq_false_iff_not, Bool.not_eq_true', Bool.not_eq_false'] at *; omega) | exact VE_end hn (by omega) hall
          · try simp only [decide_eq_true_eq, decide_eq_false_iff_not, Bool.not_eq_true', Bool.not_eq_false', Int.not_lt, Int.not_le, Int.ofNat_lt, Int.ofNat_le, Int.ofNat_inj, ne_eq, Decidable.not_not] at g5
            refine TQ_on rfl rfl (by decide) rfl (pur_move rfl) rfl ?_
            refine TQ_on rfl rfl (by decide) rfl (pur_move rfl) rfl ?_
            refine TQ_on rfl rfl (by decide) rfl (by first | exact pur_ixN sl25 rfl rfl (by omega) rfl | exact pur_ixN_m sl25 rfl rfl (by omega) rfl | exact pur_ix sl25 rfl rfl (by omega) (by omega) rfl | exact pur_ix_m sl25 rfl rfl (by omega) (by omega) rfl) rfl ?_
            refine TQ_on rfl rfl (by decide) rfl (by first | exact pur_fa_q fld52_0 rfl rfl | exact pur_fa_b fld52_0 rfl rfl | exact pur_fa_e fld52_0 rfl rfl) rfl ?_
            refine TQ_on rfl rfl (by decide) rfl (by first | exact pur_ld_b one3 rfl rfl rfl rfl | exact pur_ld_flat rfl _ 0 len_edge one3 rfl rfl (by omega) rfl | exact pur_ld_q one3 rfl rfl rfl | exact pur_ld_e one3 rfl rfl rfl rfl) rfl ?_
            refine TQ_on rfl rfl (by decide) rfl (pur_move rfl) rfl ?_
            refine TQ_on rfl rfl (by decide) rfl (pur_move rfl) rfl ?_
            refine TQ_on rfl rfl (by decide) rfl (pur_sub rfl rfl rfl (fits64 (by omega) (by omega))) rfl ?_
            refine TQ_on rfl rfl (by decide) rfl (by first | exact pur_ixN sl25 rfl rfl (by omega) rfl | exact pur_ixN_m sl25 rfl rfl (by omega) rfl | exact pur_ix sl25 rfl rfl (by omega) (by omega) rfl | exact pur_ix_m sl25 rfl rfl (by omega) (by omega) rfl) rfl ?_
            refine TQ_on rfl rfl (by decide) rfl (by first | exact pur_fa_q fld52_0 rfl rfl | exact pur_fa_b fld52_0 rfl rfl | exact pur_fa_e fld52_0 rfl rfl) rfl ?_
            refine TQ_on rfl rfl (by decide) rfl (by first | exact pur_ld_b one3 rfl rfl rfl rfl | exact pur_ld_flat rfl _ 0 len_edge one3 rfl rfl (by omega) rfl | exact pur_ld_q one3 rfl rfl rfl | exact pur_ld_e one3 rfl rfl rfl rfl) rfl ?_
            refine TQ_on rfl rfl (by decide) rfl (pur_eql rfl rfl rfl) rfl ?_
            refine TQ_on rfl rfl (by decide) rfl (pur_move rfl) rfl ?_
            refine TQ_split 65 rfl (fun g6 => ?_) (fun g6 => ?_)
            · try simp only [decide_eq_true_eq, decide_eq_false_iff_not, Bool.not_eq_true', Bool.not_eq_false', Int.not_lt, Int.not_le, Int.ofNat_lt, Int.ofNat_le, Int.ofNat_inj, ne_eq, Decidable.not_not] at g6
              refine TQ_on rfl rfl (by decide) rfl (pur_move rfl) rfl ?_
              refine TQ_on rfl rfl (by decide) rfl (pur_move rfl) rfl ?_
              refine TQ_on rfl rfl (by decide) rfl (by first | exact pur_ixN sl25 rfl rfl (by omega) rfl | exact pur_ixN_m sl25 rfl rfl (by omega) rfl | exact pur_ix sl25 rfl rfl (by omega) (by omega) rfl | exact pur_ix_m sl25 rfl rfl (by omega) (by omega) rfl) rfl ?_
              refine TQ_on rfl rfl (by decide) rfl (by first | exact pur_fa_q fld52_1 rfl rfl | exact pur_fa_b fld52_1 rfl rfl | exact pur_fa_e fld52_1 rfl rfl) rfl ?_
              refine TQ_on rfl rfl (by decide) rfl (by first | exact pur_ld_b one3 rfl rfl rfl rfl | exact pur_ld_flat rfl _ 1 len_edge one3 rfl rfl (by omega) rfl | exact pur_ld_q one3 rfl rfl rfl | exact pur_ld_e one3 rfl rfl rfl rfl) rfl ?_
              refine TQ_on rfl rfl (by decide) rfl (pur_move rfl) rfl ?_
              refine TQ_on rfl rfl (by decide) rfl (pur_move rfl) rfl ?_
              refine TQ_on rfl rfl (by decide) rfl (pur_sub rfl rfl rfl (fits64 (by omega) (by omega))) rfl ?_
              refine TQ_on rfl rfl (by decide) rfl (by first | exact pur_ixN sl25 rfl rfl (by omega) rfl | exact pur_ixN_m sl25 rfl rfl (by omega) rfl | exact pur_ix sl25 rfl rfl (by omega) (by omega) rfl | exact pur_ix_m sl25 rfl rfl (by omega) (by omega) rfl) rfl ?_
              refine TQ_on rfl rfl (by decide) rfl (by first | exact pur_fa_q fld52_1 rfl rfl | exact pur_fa_b fld52_1 rfl rfl | exact pur_fa_e fld52_1 rfl rfl) rfl ?_
              refine TQ_on rfl rfl (by decide) rfl (by first | exact pur_ld_b one3 rfl rfl rfl rfl | exact pur_ld_flat rfl _ 1 len_edge one3 rfl rfl (by omega) rfl | exact pur_ld_q one3 rfl rfl rfl | exact pur_ld_e one3 rfl rfl rfl rfl) rfl ?_
              refine TQ_on rfl rfl (by decide) rfl (pur_leq rfl rfl rfl) rfl ?_
              refine TQ_on rfl rfl (by decide) rfl (pur_pick rfl rfl rfl) rfl ?_
              refine TQ_on rfl rfl (by decide) rfl (pur_pick rfl rfl rfl) rfl ?_
              refine TQ_on rfl rfl (by decide) rfl (pur_pick rfl rfl rfl) rfl ?_
              refine TQ_pure rfl (pur_pick rfl rfl rfl) rfl ?_
              refine TQ_nil ?_
              refine T_keep [0, 1, 5, 81] ?_
              simp only [pick, List.map, lk, put, val, constA, entry, cellsOf, cellVal, cellVals, List.drop, List.take, List.append_assoc, List.nil_append, List.cons_append, List.singleton_append, List.length_cons, List.length_nil, List.set_cons_zero, List.set_cons_succ, setRow, setSub, spl, Root.under, List.getElem?_cons_zero, List.getElem?_cons_succ, List.map_cons, List.map_nil, reduceIte, Nat.reduceEqDiff, Nat.reduceAdd, Nat.reduceSub, Int.toNat_natCast, Nat.succ_ne_zero, Nat.zero_ne_one, Nat.one_ne_zero]
              refine T_cond rfl (fun c7 => ?_) (fun c7 => ?_)
              · try simp only [decide_eq_true_eq, decide_eq_false_iff_not, Bool.not_eq_true', Bool.not_eq_false', Int.not_lt, Int.not_le, Int.ofNat_lt, Int.ofNat_le, Int.ofNat_inj, ne_eq, Decidable.not_not] at c7
                refine T_seq ?_
                refine T_region ?_
                refine TO_cons rfl (TOp_pure (pur_assign rfl) rfl ?_)
                refine TO_nil ?_
                refine T_keep [4] ?_
                simp only [pick, List.map, lk, put, val, constA, entry, cellsOf, cellVal, cellVals, List.drop, List.take, List.append_assoc, List.nil_append, List.cons_append, List.singleton_append, List.length_cons, List.length_nil, List.set_cons_zero, List.set_cons_succ, setRow, setSub, spl, Root.under, List.getElem?_cons_zero, List.getElem?_cons_succ, List.map_cons, List.map_nil, reduceIte, Nat.reduceEqDiff, Nat.reduceAdd, Nat.reduceSub, Int.toNat_natCast, Nat.succ_ne_zero, Nat.zero_ne_one, Nat.one_ne_zero]
                refine T_ret ?_
                refine block_ret ?_
                refine then_ret ?_
                refine then_ret ?_
                refine block_ret ?_
                refine then_ret ?_
                refine end_ret (.tmp .nil) rfl rfl ⟨?_, rfl⟩
                simp only [resA, lk, reduceIte, Nat.reduceEqDiff]
                refine congrArg boolA ?_
                first | (rw [tr_false]; rintro ⟨⟨h0, h14⟩, hv⟩; have hv := hv i (by omega); unfold OkE lexlt at hv; simp only [Int.toNat_natCast, toNat_pred, decide_eq_true_eq, decide_eq_false_iff_not, Bool.not_eq_true', Bool.not_eq_false'] at *; omega) | exact VE_end hn (by omega) hall
              · try simp only [decide_eq_true_eq, decide_eq_false_iff_not, Bool.not_eq_true', Bool.not_eq_false', Int.not_lt, Int.not_le, Int.ofNat_lt, Int.ofNat_le, Int.ofNat_inj, ne_eq, Decidable.not_not] at c7
                refine T_skip ?_
                refine T_region ?_
                refine TO_cons rfl (TOp_pure (pur_move rfl) rfl ?_)
                refine TO_cons rfl (TOp_pure (pur_add rfl rfl rfl (fits64 (by omega) (by omega))) rfl ?_)
                refine TO_cons rfl (TOp_pure (pur_assign rfl) rfl ?_)
                refine TO_nil ?_
                refine again0 (E' := [(0, intA n), (1, edgesI es), (5, natA (i + 1))]) (σ' := []) _ ?_ (Weak.to0 rfl ⟨rfl, rfl, rfl, trivial⟩) ⟨(i + 1), ?_, ?_, rfl, rfl, rfl⟩
                · omega
                · omega
                · refine all_succ hall ?_
                  unfold OkE lexlt
                  simp only [Int.toNat_natCast, toNat_pred, decide_eq_true_eq, decide_eq_false_iff_not, Bool.not_eq_true', Bool.not_eq_false'] at *
                  omega
            · try simp only [decide_eq_true_eq, decide_eq_false_iff_not, Bool.not_eq_true', Bool.not_eq_false', Int.not_lt, Int.not_le, Int.ofNat_lt, Int.ofNat_le, Int.ofNat_inj, ne_eq, Decidable.not_not] at g6
              refine TQ_off rfl rfl (by decide) rfl rfl rfl ?_
              refine TQ_off rfl rfl (by decide) rfl rfl rfl ?_
              refine TQ_off rfl rfl (by decide) rfl rfl rfl ?_
              refine TQ_off rfl rfl (by decide) rfl rfl rfl ?_
              refine TQ_off rfl rfl (by decide) rfl rfl rfl ?_
              refine TQ_off rfl rfl (by decide) rfl rfl rfl ?_
              refine TQ_off rfl rfl (by decide) rfl rfl rfl ?_
              refine TQ_off rfl rfl (by decide) rfl rfl rfl ?_
              refine TQ_off rfl rfl (by decide) rfl rfl rfl ?_
              refine TQ_off rfl rfl (by decide) rfl rfl rfl ?_
              refine TQ_off rfl rfl (by decide) rfl rfl rfl ?_
              refine TQ_off rfl rfl (by decide) rfl rfl rfl ?_
              refine TQ_on rfl rfl (by decide) rfl (pur_pick rfl rfl rfl) rfl ?_
              refine TQ_on rfl rfl (by decide) rfl (pur_pick rfl rfl rfl) rfl ?_
              refine TQ_on rfl rfl (by decide) rfl (pur_pick rfl rfl rfl) rfl ?_
              refine TQ_pure rfl (pur_pick rfl rfl rfl) rfl ?_
              refine TQ_nil ?_
              refine T_keep [0, 1, 5, 81] ?_
              simp only [pick, List.map, lk, put, val, constA, entry, cellsOf, cellVal, cellVals, List.drop, List.take, List.append_assoc, List.nil_append, List.cons_append, List.singleton_append, List.length_cons, List.length_nil, List.set_cons_zero, List.set_cons_succ, setRow, setSub, spl, Root.under, List.getElem?_cons_zero, List.getElem?_cons_succ, List.map_cons, List.map_nil, reduceIte, Nat.reduceEqDiff, Nat.reduceAdd, Nat.reduceSub, Int.toNat_natCast, Nat.succ_ne_zero, Nat.zero_ne_one, Nat.one_ne_zero]
              refine T_cond (t := false) rfl (fun h => nomatch h) (fun _ => ?_)
              refine T_skip ?_
              refine T_region ?_
              refine TO_cons rfl (TOp_pure (pur_move rfl) rfl ?_)
              refine TO_cons rfl (TOp_pure (pur_add rfl rfl rfl (fits64 (by omega) (by omega))) rfl ?_)
              refine TO_cons rfl (TOp_pure (pur_assign rfl) rfl ?_)
              refine TO_nil ?_
              refine again0 (E' := [(0, intA n), (1, edgesI es), (5, natA (i + 1))]) (σ' := []) _ ?_ (Weak.to0 rfl ⟨rfl, rfl, rfl, trivial⟩) ⟨(i + 1), ?_, ?_, rfl, rfl, rfl⟩
              · omega
              · omega
              · refine all_succ hall ?_
                unfold OkE lexlt
                simp only [Int.toNat_natCast, toNat_pred, decide_eq_true_eq, decide_eq_false_iff_not, Bool.not_eq_true', Bool.not_eq_false'] at *
                omega
        · try simp only [decide_eq_true_eq, decide_eq_false_iff_not, Bool.not_eq_true', Bool.not_eq_false', Int.not_lt, Int.not_le, Int.ofNat_lt, Int.ofNat_le, Int.ofNat_inj, ne_eq, Decidable.not_not] at g4
          refine TQ_off rfl rfl (by decide) rfl rfl rfl ?_
          refine TQ_off rfl rfl (by decide) rfl rfl rfl ?_
          refine TQ_off rfl rfl (by decide) rfl rfl rfl ?_
          refine TQ_off rfl rfl (by decide) rfl rfl rfl ?_
          refine TQ_off rfl rfl (by decide) rfl rfl rfl ?_
          refine TQ_off rfl rfl (by decide) rfl rfl rfl ?_
          refine TQ_off rfl rfl (by decide) rfl rfl rfl ?_
          refine TQ_off rfl rfl (by decide) rfl rfl rfl ?_
          refine TQ_off rfl rfl (by decide) rfl rfl rfl ?_
          refine TQ_off rfl rfl (by decide) rfl rfl rfl ?_
          refine TQ_off rfl rfl (by decide) rfl rfl rfl ?_
          refine TQ_off rfl rfl (by decide) rfl rfl rfl ?_
          refine TQ_off rfl rfl (by decide) rfl rfl rfl ?_
          refine TQ_off rfl rfl (by decide) rfl rfl rfl ?_
          refine TQ_off rfl rfl (by decide) rfl rfl rfl ?_
          refine TQ_off rfl rfl (by decide) rfl rfl rfl ?_
          refine TQ_off rfl rfl (by decide) rfl rfl rfl ?_
          refine TQ_off rfl rfl (by decide) rfl rfl rfl ?_
          refine TQ_off rfl rfl (by decide) rfl rfl rfl ?_
          refine TQ_off rfl rfl (by decide) rfl rfl rfl ?_
          refine TQ_off rfl rfl (by decide) rfl rfl rfl ?_
          refine TQ_off rfl rfl (by decide) rfl rfl rfl ?_
          refine TQ_off rfl rfl (by decide) rfl rfl rfl ?_
          refine TQ_off rfl rfl (by decide) rfl rfl rfl ?_
          refine TQ_off rfl rfl (by decide) rfl rfl rfl ?_
          refine TQ_off rfl rfl (by decide) rfl rfl rfl ?_
          refine TQ_off rfl rfl (by decide) rfl rfl rfl ?_
          refine TQ_off rfl rfl (by decide) rfl rfl rfl ?_
          refine TQ_off rfl rfl (by decide) rfl rfl rfl ?_
          refine TQ_off rfl rfl (by decide) rfl rfl rfl ?_
          refine TQ_off rfl rfl (by decide) rfl rfl rfl ?_
          refine TQ_off rfl rfl (by decide) rfl rfl rfl ?_
          refine TQ_off rfl rfl (by decide) rfl rfl rfl ?_
          refine TQ_off rfl rfl (by decide) rfl rfl rfl ?_
          refine TQ_off rfl rfl (by decide) rfl rfl rfl ?_
          refine TQ_off rfl rfl (by decide) rfl rfl rfl ?_
          refine TQ_off rfl rfl (by decide) rfl rfl rfl ?_
          refine TQ_off rfl rfl (by decide) rfl rfl rfl ?_
          refine TQ_off rfl rfl (by decide) rfl rfl rfl ?_
          refine TQ_off rfl rfl (by decide) rfl rfl rfl ?_
          refine TQ_on rfl rfl (by decide) rfl (pur_pick rfl rfl rfl) rfl ?_
          refine TQ_pure rfl (pur_pick rfl rfl rfl) rfl ?_
          refine TQ_nil ?_
          refine T_keep [0, 1, 5, 81] ?_
          simp only [pick, List.map, lk, put, val, constA, entry, cellsOf, cellVal, cellVals, List.drop, List.take, List.append_assoc, List.nil_append, List.cons_append, List.singleton_append, List.length_cons, List.length_nil, List.set_cons_zero, List.set_cons_succ, setRow, setSub, spl, Root.under, List.getElem?_cons_zero, List.getElem?_cons_succ, List.map_cons, List.map_nil, reduceIte, Nat.reduceEqDiff, Nat.reduceAdd, Nat.reduceSub, Int.toNat_natCast, Nat.succ_ne_zero, Nat.zero_ne_one, Nat.one_ne_zero]
          refine T_cond (t := false) rfl (fun h => nomatch h) (fun _ => ?_)
          refine T_skip ?_
          refine T_region ?_
          refine TO_cons rfl (TOp_pure (pur_move rfl) rfl ?_)
          refine TO_cons rfl (TOp_pure (pur_add rfl rfl rfl (fits64 (by omega) (by omega))) rfl ?_)
          refine TO_cons rfl (TOp_pure (pur_assign rfl) rfl ?_)
          refine TO_nil ?_
          refine again0 (E' := [(0, intA n), (1, edgesI es), (5, natA (i + 1))]) (σ' := []) _ ?_ (Weak.to0 rfl ⟨rfl, rfl, rfl, trivial⟩) ⟨(i + 1), ?_, ?_, rfl, rfl, rfl⟩
          · omega
          · omega
          · refine all_succ hall ?_
            unfold OkE lexlt
            simp only [Int.toNat_natCast, toNat_pred, decide_eq_true_eq, decide_eq_false_iff_not, Bool.not_eq_true', Bool.not_eq_false'] at *
            omega
  · try simp only [decide_eq_true_eq, decide_eq_false_iff_not, Bool.not_eq_true', Bool.not_eq_false', Int.not_lt, Int.not_le, Int.ofNat_lt, Int.ofNat_le, Int.ofNat_inj, ne_eq, Decidable.not_not] at c1
    refine T_exit ?_
    refine then_exit ?_
    refine then_exit ?_
    refine block_exit ?_
    refine T_seq ?_
    refine T_region ?_
    refine TO_cons rfl (TOp_pure (pur_move rfl) rfl ?_)
    refine TO_cons rfl (TOp_callV (call_static ent76 rfl) (spec_l1In _ _ _) rfl rfl rfl ?_)
    refine TO_cons rfl (TOp_pure (pur_assign rfl) rfl ?_)
    refine TO_nil ?_
    refine T_keep [4] ?_
    simp only [pick, List.map, lk, put, val, constA, entry, cellsOf, cellVal, cellVals, List.drop, List.take, List.append_assoc, List.nil_append, List.cons_append, List.singleton_append, List.length_cons, List.length_nil, List.set_cons_zero, List.set_cons_succ, setRow, setSub, spl, Root.under, List.getElem?_cons_zero, List.getElem?_cons_succ, List.map_cons, List.map_nil, reduceIte, Nat.reduceEqDiff, Nat.reduceAdd, Nat.reduceSub, Int.toNat_natCast, Nat.succ_ne_zero, Nat.zero_ne_one, Nat.one_ne_zero]
    refine T_ret ?_
    refine end_ret (.tmp .nil) rfl rfl ⟨?_, rfl⟩
    simp only [resA, lk, reduceIte, Nat.reduceEqDiff]
    refine congrArg boolA ?_
    first | (rw [tr_false]; rintro ⟨⟨h0, h14⟩, hv⟩; have hv := hv i (by omega); unfold OkE lexlt at hv; simp only [Int.toNat_natCast, toNat_pred, decide_eq_true_eq, decide_eq_false_iff_not, Bool.not_eq_true', Bool.not_eq_false'] at *; omega) | exact VE_end hn (by omega) hall

set_option maxHeartbeats 1000000 in
/-- impl.AreValidEdges -/
theorem impl_AreValidEdges (n : Int) (es : List (Int × Int)) (he : es.length ≤ 9223372036854775807) (hr : R64 es) (hn : -9223372036854775808 ≤ n ∧ n ≤ 9223372036854775807) : FnV prg 47 [intA n, edgesI es] (boolA (tr (VE n es))) := by
  refine fnV_of_T Try.func47 rfl rfl (Nat.le_of_ble_eq_true rfl) ?_
  simp only [entry, Nat.reduceAdd]
  refine T_seq ?_
  refine T_region ?_
  refine TO_cons rfl (TOp_pure (pur_assign rfl) rfl ?_)
  refine TO_nil ?_
  refine T_keep [0, 1] ?_
  simp only [pick, List.map, lk, put, val, constA, entry, cellsOf, cellVal, cellVals, List.drop, List.take, List.append_assoc, List.nil_append, List.cons_append, List.singleton_append, List.length_cons, List.length_nil, List.set_cons_zero, List.set_cons_succ, setRow, setSub, spl, Root.under, List.getElem?_cons_zero, List.getElem?_cons_succ, List.map_cons, List.map_nil, reduceIte, Nat.reduceEqDiff, Nat.reduceAdd, Nat.reduceSub, Int.toNat_natCast, Nat.succ_ne_zero, Nat.zero_ne_one, Nat.one_ne_zero]
  refine T_seq ?_
  refine T_seq ?_
  refine T_region ?_
  refine TO_cons rfl (TOp_pure (pur_move rfl) rfl ?_)
  refine TO_cons rfl (TOp_callV (call_static ent77 rfl) (impl_within _ _ _) rfl rfl rfl ?_)
  refine TO_cons rfl (TOp_pure (pur_not rfl rfl) rfl ?_)
  refine TO_nil ?_
  refine T_keep [0, 1, 9] ?_
  simp only [pick, List.map, lk, put, val, constA, entry, cellsOf, cellVal, cellVals, List.drop, List.take, List.append_assoc, List.nil_append, List.cons_append, List.singleton_append, List.length_cons, List.length_nil, List.set_cons_zero, List.set_cons_succ, setRow, setSub, spl, Root.under, List.getElem?_cons_zero, List.getElem?_cons_succ, List.map_cons, List.map_nil, reduceIte, Nat.reduceEqDiff, Nat.reduceAdd, Nat.reduceSub, Int.toNat_natCast, Nat.succ_ne_zero, Nat.zero_ne_one, Nat.one_ne_zero]
  refine T_cond rfl (fun c1 => ?_) (fun c1 => ?_)
  · try simp only [decide_eq_true_eq, decide_eq_false_iff_not, Bool.not_eq_true', Bool.not_eq_false', Int.not_lt, Int.not_le, Int.ofNat_lt, Int.ofNat_le, Int.ofNat_inj, ne_eq, Decidable.not_not] at c1
    refine T_seq ?_
    refine T_region ?_
    refine TO_cons rfl (TOp_pure (pur_assign rfl) rfl ?_)
    refine TO_nil ?_
    refine T_keep [4] ?_
    simp only [pick, List.map, lk, put, val, constA, entry, cellsOf, cellVal, cellVals, List.drop, List.take, List.append_assoc, List.nil_append, List.cons_append, List.singleton_append, List.length_cons, List.length_nil, List.set_cons_zero, List.set_cons_succ, setRow, setSub, spl, Root.under, List.getElem?_cons_zero, List.getElem?_cons_succ, List.map_cons, List.map_nil, reduceIte, Nat.reduceEqDiff, Nat.reduceAdd, Nat.reduceSub, Int.toNat_natCast, Nat.succ_ne_zero, Nat.zero_ne_one, Nat.one_ne_zero]
    refine T_ret ?_
    refine then_ret ?_
    refine end_ret (.tmp .nil) rfl rfl ⟨?_, rfl⟩
    simp only [resA, lk, reduceIte, Nat.reduceEqDiff]
    refine congrArg boolA ?_
    first | (rw [tr_false (fun h => c1 h.1)]; done) | (rw [tr_false]; rintro ⟨⟨h0, h14⟩, hv⟩; have hv := hv i (by omega); unfold OkE lexlt at hv; simp only [Int.toNat_natCast, toNat_pred, decide_eq_true_eq, decide_eq_false_iff_not, Bool.not_eq_true', Bool.not_eq_false'] at *; omega) | (rw [tr_true ⟨by omega, fun j hj => hall j (by omega)⟩])
  · try simp only [decide_eq_true_eq, decide_eq_false_iff_not, Bool.not_eq_true', Bool.not_eq_false', Int.not_lt, Int.not_le, Int.ofNat_lt, Int.ofNat_le, Int.ofNat_inj, ne_eq, Decidable.not_not] at c1
    refine T_skip ?_
    refine T_seq ?_
    refine T_seq ?_
    refine T_region ?_
    refine TO_cons rfl (TOp_pure (pur_move rfl) rfl ?_)
    refine TO_cons rfl (TOp_pure (by first | exact pur_len sl25 rfl (by decide) rfl | exact pur_len_m sl25 rfl rfl | exact pur_len_n sl25 rfl rfl) rfl ?_)
    refine TO_cons rfl (TOp_pure (pur_move rfl) rfl ?_)
    refine TO_nil ?_
    refine T_keep [0, 1, 10, 11, 12] ?_
    simp only [pick, List.map, lk, put, val, constA, entry, cellsOf, cellVal, cellVals, List.drop, List.take, List.append_assoc, List.nil_append, List.cons_append, List.singleton_append, List.length_cons, List.length_nil, List.set_cons_zero, List.set_cons_succ, setRow, setSub, spl, Root.under, List.getElem?_cons_zero, List.getElem?_cons_succ, List.map_cons, List.map_nil, reduceIte, Nat.reduceEqDiff, Nat.reduceAdd, Nat.reduceSub, Int.toNat_natCast, Nat.succ_ne_zero, Nat.zero_ne_one, Nat.one_ne_zero]
    refine T_block ?_
    refine T_loop (fun k E σ => ∃ (i : Nat), (i ≤ es.length) ∧ (∀ j, j < i → OkE n es j) ∧ k = es.length - i ∧ E = [(0, intA n), (1, edgesI es), (10, edgesI es), (11, natA es.length), (12, natA i)] ∧ σ = []) _ (E0 := [(0, intA n), (1, edgesI es), (10, edgesI es), (11, natA es.length), (12, natA (0))]) (σ0 := []) (Weak.to 0 (by decide) rfl rfl rfl ⟨rfl, rfl, rfl, rfl, rfl, trivial⟩) ⟨(0), ?_, ?_, rfl, rfl, rfl⟩ ?_
    · (first | omega | (simp_all; done) | (simp_all; omega))
    · (first | omega | (simp_all; done) | (simp_all; omega))
    rintro k E σ ⟨i, hi, hall, rfl, rfl, rfl⟩
    refine T_seq ?_
    refine T_region ?_
    refine TO_cons rfl (TOp_pure (pur_lss rfl rfl rfl) rfl ?_)
    refine TO_nil ?_
    refine T_keep [0, 1, 10, 11, 12, 13] ?_
    simp only [pick, List.map, lk, put, val, constA, entry, cellsOf, cellVal, cellVals, List.drop, List.take, List.append_assoc, List.nil_append, List.cons_append, List.singleton_append, List.length_cons, List.length_nil, List.set_cons_zero, List.set_cons_succ, setRow, setSub, spl, Root.under, List.getElem?_cons_zero, List.getElem?_cons_succ, List.map_cons, List.map_nil, reduceIte, Nat.reduceEqDiff, Nat.reduceAdd, Nat.reduceSub, Int.toNat_natCast, Nat.succ_ne_zero, Nat.zero_ne_one, Nat.one_ne_zero]
    refine T_seq ?_
    refine T_cond rfl (fun c2 => ?_) (fun c2 => ?_)
    · try simp only [decide_eq_true_eq, decide_eq_false_iff_not, Bool.not_eq_true', Bool.not_eq_false', Int.not_lt, Int.not_le, Int.ofNat_lt, Int.ofNat_le, Int.ofNat_inj, ne_eq, Decidable.not_not] at c2
      refine T_skip ?_
      refine T_seq ?_
      refine T_block ?_
      refine T_seq ?_
      refine T_region ?_
      refine TO_cons rfl (TOp_pure (pur_move rfl) rfl ?_)
      refine TO_cons rfl (TOp_pure (by first | exact pur_ixN sl25 rfl rfl (by omega) rfl | exact pur_ixN_m sl25 rfl rfl (by omega) rfl | exact pur_ix sl25 rfl rfl (by omega) (by omega) rfl | exact pur_ix_m sl25 rfl rfl (by omega) (by omega) rfl) rfl ?_)
      refine TO_cons rfl (TOp_pure (by first | exact pur_ldK_b agg52 rfl rfl (Nat.le_of_ble_eq_true rfl) rfl | exact pur_ldK_flat rfl _ len_edge agg52 rfl rfl (by omega)) rfl ?_)
      refine TO_cons rfl (TOp_alloc zero52 rfl rfl ?_)
      refine TO_cons rfl (TOp_pure (pur_assign rfl) rfl ?_)
      first | refine TO_cons rfl (TOp_storeB sz52 rfl rfl rfl rfl rfl rfl rfl (by decide) (Nat.le_of_ble_eq_true rfl) rfl ?_) | refine TO_cons rfl (TOp_setF len_edge (by decide) sz52 rfl rfl rfl rfl rfl (by omega) rfl rfl ?_)
      refine TO_nil ?_
      refine T_keep [0, 1, 5, 6, 10, 11, 12] ?_
      simp only [pick, List.map, lk, put, val, constA, entry, cellsOf, cellVal, cellVals, List.drop, List.take, List.append_assoc, List.nil_append, List.cons_append, List.singleton_append, List.length_cons, List.length_nil, List.set_cons_zero, List.set_cons_succ, setRow, setSub, spl, Root.under, List.getElem?_cons_zero, List.getElem?_cons_succ, List.map_cons, List.map_nil, reduceIte, Nat.reduceEqDiff, Nat.reduceAdd, Nat.reduceSub, Int.toNat_natCast, Nat.succ_ne_zero, Nat.zero_ne_one, Nat.one_ne_zero]
      refine T_seq ?_
      refine T_regionD mixed (by kernel_rfl) ?_
      refine TQ_pure rfl (by first | exact pur_fa_q fld52_0 rfl rfl | exact pur_fa_b fld52_0 rfl rfl | exact pur_fa_e fld52_0 rfl rfl) rfl ?_
      refine TQ_pure rfl (by first | exact pur_ld_b one3 rfl rfl rfl rfl | exact pur_ld_flat rfl _ 0 len_edge one3 rfl rfl (by omega) rfl | exact pur_ld_q one3 rfl rfl rfl | exact pur_ld_e one3 rfl rfl rfl rfl) rfl ?_
      refine TQ_pure rfl (pur_lss rfl rfl rfl) rfl ?_
      refine TQ_pure rfl (pur_move rfl) rfl ?_
      refine TQ_split 20 rfl (fun g3 => ?_) (fun g3 => ?_)
      · try simp only [decide_eq_true_eq, decide_eq_false_iff_not, Bool.not_eq_true', Bool.not_eq_false', Int.not_lt, Int.not_le, Int.ofNat_lt, Int.ofNat_le, Int.ofNat_inj, ne_eq, Decidable.not_not] at g3
        refine TQ_off rfl rfl (by decide) rfl rfl rfl ?_
        refine TQ_off rfl rfl (by decide) rfl rfl rfl ?_
        refine TQ_off rfl rfl (by decide) rfl rfl rfl ?_
        refine TQ_off rfl rfl (by decide) rfl rfl rfl ?_
        refine TQ_off rfl rfl (by decide) rfl rfl rfl ?_
        refine TQ_pure rfl (pur_pick rfl rfl rfl) rfl ?_
        refine TQ_pure rfl (pur_move rfl) rfl ?_
        refine TQ_off rfl rfl (by decide) rfl rfl rfl ?_
        refine TQ_off rfl rfl (by decide) rfl rfl rfl ?_
        refine TQ_off rfl rfl (by decide) rfl rfl rfl ?_
        refine TQ_off rfl rfl (by decide) rfl rfl rfl ?_
        refine TQ_pure rfl (pur_pick rfl rfl rfl) rfl ?_
        refine TQ_pure rfl (pur_move rfl) rfl ?_
        refine TQ_off rfl rfl (by decide) rfl rfl rfl ?_
        refine TQ_off rfl rfl (by decide) rfl rfl rfl ?_
        refine TQ_off rfl rfl (by decide) rfl rfl rfl ?_
        refine TQ_off rfl rfl (by decide) rfl rfl rfl ?_
        refine TQ_off rfl rfl (by decide) rfl rfl rfl ?_
        refine TQ_off rfl rfl (by decide) rfl rfl rfl ?_
        refine TQ_off rfl rfl (by decide) rfl rfl rfl ?_
        refine TQ_off rfl rfl (by decide) rfl rfl rfl ?_
        refine TQ_off rfl rfl (by decide) rfl rfl rfl ?_
        refine TQ_off rfl rfl (by decide) rfl rfl rfl ?_
        refine TQ_off rfl rfl (by decide) rfl rfl rfl ?_
        refine TQ_off rfl rfl (by decide) rfl rfl rfl ?_
        refine TQ_off rfl rfl (by decide) rfl rfl rfl ?_
        refine TQ_off rfl rfl (by decide) rfl rfl rfl ?_
        refine TQ_off rfl rfl (by decide) rfl rfl rfl ?_
        refine TQ_off rfl rfl (by decide) rfl rfl rfl ?_
        refine TQ_off rfl rfl (by decide) rfl rfl rfl ?_
        refine TQ_off rfl rfl (by decide) rfl rfl rfl ?_
        refine TQ_off rfl rfl (by decide) rfl rfl rfl ?_
        refine TQ_off rfl rfl (by decide) rfl rfl rfl ?_
        refine TQ_off rfl rfl (by decide) rfl rfl rfl ?_
        refine TQ_off rfl rfl (by decide) rfl rfl rfl ?_
        refine TQ_off rfl rfl (by decide) rfl rfl rfl ?_
        refine TQ_off rfl rfl (by decide) rfl rfl rfl ?_
        refine TQ_off rfl rfl (by decide) rfl rfl rfl ?_
        refine TQ_off rfl rfl (by decide) rfl rfl rfl ?_
        refine TQ_off rfl rfl (by decide) rfl rfl rfl ?_
        refine TQ_off rfl rfl (by decide) rfl rfl rfl ?_
        refine TQ_off rfl rfl (by decide) rfl rfl rfl ?_
        refine TQ_off rfl rfl (by decide) rfl rfl rfl ?_
        refine TQ_off rfl rfl (by decide) rfl rfl rfl ?_
        refine TQ_off rfl rfl (by decide) rfl rfl rfl ?_
        refine TQ_off rfl rfl (by decide) rfl rfl rfl ?_
        refine TQ_off rfl rfl (by decide) rfl rfl rfl ?_
        refine TQ_off rfl rfl (by decide) rfl rfl rfl ?_
        refine TQ_pure rfl (pur_pick rfl rfl rfl) rfl ?_
        refine TQ_nil ?_
        refine T_keep [0, 1, 10, 11, 12, 69] ?_
        simp only [pick, List.map, lk, put, val, constA, entry, cellsOf, cellVal, cellVals, List.drop, List.take, List.append_assoc, List.nil_append, List.cons_append, List.singleton_append, List.length_cons, List.length_nil, List.set_cons_zero, List.set_cons_succ, setRow, setSub, spl, Root.under, List.getElem?_cons_zero, List.getElem?_cons_succ, List.map_cons, List.map_nil, reduceIte, Nat.reduceEqDiff, Nat.reduceAdd, Nat.reduceSub, Int.toNat_natCast, Nat.succ_ne_zero, Nat.zero_ne_one, Nat.one_ne_zero]
        refine T_cond (t := true) rfl (fun _ => ?_) (fun h => nomatch h)
        refine T_seq ?_
        refine T_region ?_
        refine TO_cons rfl (TOp_pure (pur_assign rfl) rfl ?_)
        refine TO_nil ?_
        refine T_keep [4] ?_
        simp only [pick, List.map, lk, put, val, constA, entry, cellsOf, cellVal, cellVals, List.drop, List.take, List.append_assoc, List.nil_append, List.cons_append, List.singleton_append, List.length_cons, List.length_nil, List.set_cons_zero, List.set_cons_succ, setRow, setSub, spl, Root.under, List.getElem?_cons_zero, List.getElem?_cons_succ, List.map_cons, List.map_nil, reduceIte, Nat.reduceEqDiff, Nat.reduceAdd, Nat.reduceSub, Int.toNat_natCast, Nat.succ_ne_zero, Nat.zero_ne_one, Nat.one_ne_zero]
        refine T_ret ?_
        refine block_ret ?_
        refine then_ret ?_
        refine then_ret ?_
        refine block_ret ?_
        refine then_ret ?_
        refine end_ret (.tmp .nil) rfl rfl ⟨?_, rfl⟩
        simp only [resA, lk, reduceIte, Nat.reduceEqDiff]
        refine congrArg boolA ?_
        first | (rw [tr_false (fun h => c1 h.1)]; done) | (rw [tr_false]; rintro ⟨⟨h0, h14⟩, hv⟩; have hv := hv i (by omega); unfold OkE lexlt at hv; simp only [Int.toNat_natCast, toNat_pred, decide_eq_true_eq, decide_eq_false_iff_not, Bool.not_eq_true', Bool.not_eq_false'] at *; omega) | (rw [tr_true ⟨by omega, fun j hj => hall j (by omega)⟩])
      · try simp only [decide_eq_true_eq, decide_eq_false_iff_not, Bool.not_eq_true', Bool.not_eq_false', Int.not_lt, Int.not_le, Int.ofNat_lt, Int.ofNat_le, Int.ofNat_inj, ne_eq, Decidable.not_not] at g3
        refine TQ_on rfl rfl (by decide) rfl (by first | exact pur_fa_q fld52_0 rfl rfl | exact pur_fa_b fld52_0 rfl rfl | exact pur_fa_e fld52_0 rfl rfl) rfl ?_
        refine TQ_on rfl rfl (by decide) rfl (by first | exact pur_ld_b one3 rfl rfl rfl rfl | exact pur_ld_flat rfl _ 0 len_edge one3 rfl rfl (by omega) rfl | exact pur_ld_q one3 rfl rfl rfl | exact pur_ld_e one3 rfl rfl rfl rfl) rfl ?_
        refine TQ_on rfl rfl (by decide) rfl (by first | exact pur_fa_q fld52_1 rfl rfl | exact pur_fa_b fld52_1 rfl rfl | exact pur_fa_e fld52_1 rfl rfl) rfl ?_
        refine TQ_on rfl rfl (by decide) rfl (by first | exact pur_ld_b one3 rfl rfl rfl rfl | exact pur_ld_flat rfl _ 1 len_edge one3 rfl rfl (by omega) rfl | exact pur_ld_q one3 rfl rfl rfl | exact pur_ld_e one3 rfl rfl rfl rfl) rfl ?_
        refine TQ_on rfl rfl (by decide) rfl (pur_geq rfl rfl rfl) rfl ?_
        refine TQ_pure rfl (pur_pick rfl rfl rfl) rfl ?_
        refine TQ_pure rfl (pur_move rfl) rfl ?_
        refine TQ_split 27 rfl (fun g4 => ?_) (fun g4 => ?_)
        · try simp only [decide_eq_true_eq, decide_eq_false_iff_not, Bool.not_eq_true', Bool.not_eq_false', Int.not_lt, Int.not_le, Int.ofNat_lt, Int.ofNat_le, Int.ofNat_inj, ne_eq, Decidable.not_not] at g4
          refine TQ_off rfl rfl (by decide) rfl rfl rfl ?_
          refine TQ_off rfl rfl (by decide) rfl rfl rfl ?_
          refine TQ_off rfl rfl (by decide) rfl rfl rfl ?_
          refine TQ_off rfl rfl (by decide) rfl rfl rfl ?_
          refine TQ_pure rfl (pur_pick rfl rfl rfl) rfl ?_
          refine TQ_pure rfl (pur_move rfl) rfl ?_
          refine TQ_off rfl rfl (by decide) rfl rfl rfl ?_
          refine TQ_off rfl rfl (by decide) rfl rfl rfl ?_
          refine TQ_off rfl rfl (by decide) rfl rfl rfl ?_
          refine TQ_off rfl rfl (by decide) rfl rfl rfl ?_
          refine TQ_off rfl rfl (by decide) rfl rfl rfl ?_
          refine TQ_off rfl rfl (by decide) rfl rfl rfl ?_
          refine TQ_off rfl rfl (by decide) rfl rfl rfl ?_
          refine TQ_off rfl rfl (by decide) rfl rfl rfl ?_
          refine TQ_off rfl rfl (by decide) rfl rfl rfl ?_
          refine TQ_off rfl rfl (by decide) rfl rfl rfl ?_
          refine TQ_off rfl rfl (by decide) rfl rfl rfl ?_
          refine TQ_off rfl rfl (by decide) rfl rfl rfl ?_
          refine TQ_off rfl rfl (by decide) rfl rfl rfl ?_
          refine TQ_off rfl rfl (by decide) rfl rfl rfl ?_
          refine TQ_off rfl rfl (by decide) rfl rfl rfl ?_
          refine TQ_off rfl rfl (by decide) rfl rfl rfl ?_
          refine TQ_off rfl rfl (by decide) rfl rfl rfl ?_
          refine TQ_off rfl rfl (by decide) rfl rfl rfl ?_
          refine TQ_off rfl rfl (by decide) rfl rfl rfl ?_
          refine TQ_off rfl rfl (by decide) rfl rfl rfl ?_
          refine TQ_off rfl rfl (by decide) rfl rfl rfl ?_
          refine TQ_off rfl rfl (by decide) rfl rfl rfl ?_
          refine TQ_off rfl rfl (by decide) rfl rfl rfl ?_
          refine TQ_off rfl rfl (by decide) rfl rfl rfl ?_
          refine TQ_off rfl rfl (by decide) rfl rfl rfl ?_
          refine TQ_off rfl rfl (by decide) rfl rfl rfl ?_
          refine TQ_off rfl rfl (by decide) rfl rfl rfl ?_
          refine TQ_off rfl rfl (by decide) rfl rfl rfl ?_
          refine TQ_off rfl rfl (by decide) rfl rfl rfl ?_
          refine TQ_off rfl rfl (by decide) rfl rfl rfl ?_
          refine TQ_off rfl rfl (by decide) rfl rfl rfl ?_
          refine TQ_off rfl rfl (by decide) rfl rfl rfl ?_
          refine TQ_off rfl rfl (by decide) rfl rfl rfl ?_
          refine TQ_off rfl rfl (by decide) rfl rfl rfl ?_
          refine TQ_off rfl rfl (by decide) rfl rfl rfl ?_
          refine TQ_pure rfl (pur_pick rfl rfl rfl) rfl ?_
          refine TQ_nil ?_
          refine T_keep [0, 1, 10, 11, 12, 69] ?_
          simp only [pick, List.map, lk, put, val, constA, entry, cellsOf, cellVal, cellVals, List.drop, List.take, List.append_assoc, List.nil_append, List.cons_append, List.singleton_append, List.length_cons, List.length_nil, List.set_cons_zero, List.set_cons_succ, setRow, setSub, spl, Root.under, List.getElem?_cons_zero, List.getElem?_cons_succ, List.map_cons, List.map_nil, reduceIte, Nat.reduceEqDiff, Nat.reduceAdd, Nat.reduceSub, Int.toNat_natCast, Nat.succ_ne_zero, Nat.zero_ne_one, Nat.one_ne_zero]
          refine T_cond (t := true) rfl (fun _ => ?_) (fun h => nomatch h)
          refine T_seq ?_
          refine T_region ?_
          refine TO_cons rfl (TOp_pure (pur_assign rfl) rfl ?_)
          refine TO_nil ?_
          refine T_keep [4] ?_
          simp only [pick, List.map, lk, put, val, constA, entry, cellsOf, cellVal, cellVals, List.drop, List.take, List.append_assoc, List.nil_append, List.cons_append, List.singleton_append, List.length_cons, List.length_nil, List.set_cons_zero, List.set_cons_succ, setRow, setSub, spl, Root.under, List.getElem?_cons_zero, List.getElem?_cons_succ, List.map_cons, List.map_nil, reduceIte, Nat.reduceEqDiff, Nat.reduceAdd, Nat.reduceSub, Int.toNat_natCast, Nat.succ_ne_zero, Nat.zero_ne_one, Nat.one_ne_zero]
          refine T_ret ?_
          refine block_ret ?_
          refine then_ret ?_
          refine then_ret ?_
          refine block_ret ?_
          refine then_ret ?_
          refine end_ret (.tmp .nil) rfl rfl ⟨?_, rfl⟩
          simp only [resA, lk, reduceIte, Nat.reduceEqDiff]
          refine congrArg boolA ?_
          first | (rw [tr_false (fun h => c1 h.1)]; done) | (rw [tr_false]; rintro ⟨⟨h0, h14⟩, hv⟩; have hv := hv i (by omega); unfold OkE lexlt at hv; simp only [Int.toNat_natCast, toNat_pred, decide_eq_true_eq, decide_eq_false_iff_not, Bool.not_eq_true', Bool.not_eq_false'] at *; omega) | (rw [tr_true ⟨by omega, fun j hj => hall j (by omega)⟩])
        · try simp only [decide_eq_true_eq, decide_eq_false_iff_not, Bool.not_eq_true', Bool.not_eq_false', Int.not_lt, Int.not_le, Int.ofNat_lt, Int.ofNat_le, Int.ofNat_inj, ne_eq, Decidable.not_not] at g4
          refine TQ_on rfl rfl (by decide) rfl (by first | exact pur_fa_q fld52_1 rfl rfl | exact pur_fa_b fld52_1 rfl rfl | exact pur_fa_e fld52_1 rfl rfl) rfl ?_
          refine TQ_on rfl rfl (by decide) rfl (by first | exact pur_ld_b one3 rfl rfl rfl rfl | exact pur_ld_flat rfl _ 1 len_edge one3 rfl rfl (by omega) rfl | exact pur_ld_q one3 rfl rfl rfl | exact pur_ld_e one3 rfl rfl rfl rfl) rfl ?_
          refine TQ_on rfl rfl (by decide) rfl (pur_move rfl) rfl ?_
          refine TQ_on rfl rfl (by decide) rfl (pur_geq rfl rfl rfl) rfl ?_
          refine TQ_pure rfl (pur_pick rfl rfl rfl) rfl ?_
          refine TQ_pure rfl (pur_move rfl) rfl ?_
          refine TQ_split 33 rfl (fun g5 => ?_) (fun g5 => ?_)
          · try simp only [decide_eq_true_eq, decide_eq_false_iff_not, Bool.not_eq_true', Bool.not_eq_false', Int.not_lt, Int.not_le, Int.ofNat_lt, Int.ofNat_le, Int.ofNat_inj, ne_eq, Decidable.not_not] at g5
            refine TQ_off rfl rfl (by decide) rfl rfl rfl ?_
            refine TQ_off rfl rfl (by decide) rfl rfl rfl ?_
            refine TQ_off rfl rfl (by decide) rfl rfl rfl ?_
            refine TQ_off rfl rfl (by decide) rfl rfl rfl ?_
            refine TQ_off rfl rfl (by decide) rfl rfl rfl ?_
            refine TQ_off rfl rfl (by decide) rfl rfl rfl ?_
            refine TQ_off rfl rfl (by decide) rfl rfl rfl ?_
            refine TQ_off rfl rfl (by decide) rfl rfl rfl ?_
            refine TQ_off rfl rfl (by decide) rfl rfl rfl ?_
            refine TQ_off rfl rfl (by decide) rfl rfl rfl ?_
            refine TQ_off rfl rfl (by decide) rfl rfl rfl ?_
            refine TQ_off rfl rfl (by decide) rfl rfl rfl ?_
            refine TQ_off rfl rfl (by decide) rfl rfl rfl ?_
            refine TQ_off rfl rfl (by decide) rfl rfl rfl ?_
            refine TQ_off rfl rfl (by decide) rfl rfl rfl ?_
            refine TQ_off rfl rfl (by decide) rfl rfl rfl ?_
            refine TQ_off rfl rfl (by decide) rfl rfl rfl ?_
            refine TQ_off rfl rfl (by decide) rfl rfl rfl ?_
            refine TQ_off rfl rfl (by decide) rfl rfl rfl ?_
            refine TQ_off rfl rfl (by decide) rfl rfl rfl ?_
            refine TQ_off rfl rfl (by decide) rfl rfl rfl ?_
            refine TQ_off rfl rfl (by decide) rfl rfl rfl ?_
            refine TQ_off rfl rfl (by decide) rfl rfl rfl ?_
            refine TQ_off rfl rfl (by decide) rfl rfl rfl ?_
            refine TQ_off rfl rfl (by decide) rfl rfl rfl ?_
            refine TQ_off rfl rfl (by decide) rfl rfl rfl ?_
            refine TQ_off rfl rfl (by decide) rfl rfl rfl ?_
            refine TQ_off rfl rfl (by decide) rfl rfl rfl ?_
            refine TQ_off rfl rfl (by decide) rfl rfl rfl ?_
            refine TQ_off rfl rfl (by decide) rfl rfl rfl ?_
            refine TQ_off rfl rfl (by decide) rfl rfl rfl ?_
            refine TQ_off rfl rfl (by decide) rfl rfl rfl ?_
            refine TQ_off rfl rfl (by decide) rfl rfl rfl ?_
            refine TQ_off rfl rfl (by decide) rfl rfl rfl ?_
            refine TQ_off rfl rfl (by decide) rfl rfl rfl ?_
            refine TQ_pure rfl (pur_pick rfl rfl rfl) rfl ?_
            refine TQ_nil ?_
            refine T_keep [0, 1, 10, 11, 12, 69] ?_
            simp only [pick, List.map, lk, put, val, constA, entry, cellsOf, cellVal, cellVals, List.drop, List.take, List.append_assoc, List.nil_append, List.cons_append, List.singleton_append, List.length_cons, List.length_nil, List.set_cons_zero, List.set_cons_succ, setRow, setSub, spl, Root.under, List.getElem?_cons_zero, List.getElem?_cons_succ, List.map_cons, List.map_nil, reduceIte, Nat.reduceEqDiff, Nat.reduceAdd, Nat.reduceSub, Int.toNat_natCast, Nat.succ_ne_zero, Nat.zero_ne_one, Nat.one_ne_zero]
            refine T_cond (t := true) rfl (fun _ => ?_) (fun h => nomatch h)
            refine T_seq ?_
            refine T_region ?_
            refine TO_cons rfl (TOp_pure (pur_assign rfl) rfl ?_)
            refine TO_nil ?_
            refine T_keep [4] ?_
            simp only [pick, List.map, lk, put, val, constA, entry, cellsOf, cellVal, cellVals, List.drop, List.take, List.append_assoc, List.nil_append, List.cons_append, List.singleton_append, List.length_cons, List.length_nil, List.set_cons_zero, List.set_cons_succ, setRow, setSub, spl, Root.under, List.getElem?_cons_zero, List.getElem?_cons_succ, List.map_cons, List.map_nil, reduceIte, Nat.reduceEqDiff, Nat.reduceAdd, Nat.reduceSub, Int.toNat_natCast, Nat.succ_ne_zero, Nat.zero_ne_one, Nat.one_ne_zero]
            refine T_ret ?_
            refine block_ret ?_
            refine then_ret ?_
            refine then_ret ?_
            refine block_ret ?_
            refine then_ret ?_
            refine end_ret (.tmp .nil) rfl rfl ⟨?_, rfl⟩
            simp only [resA, lk, reduceIte, Nat.reduceEqDiff]
            refine congrArg boolA ?_
            first | (rw [tr_false (fun h => c1 h.1)]; done) | (rw [tr_false]; rintro ⟨⟨h0, h14⟩, hv⟩; have hv := hv i (by omega); unfold OkE lexlt at hv; simp only [Int.toNat_natCast, toNat_pred, decide_eq_true_eq, decide_eq_false_iff_not, Bool.not_eq_true', Bool.not_eq_false'] at *; omega) | (rw [tr_true ⟨by omega, fun j hj => hall j (by omega)⟩])
          · try simp only [decide_eq_true_eq, decide_eq_false_iff_not, Bool.not_eq_true', Bool.not_eq_false', Int.not_lt, Int.not_le, Int.ofNat_lt, Int.ofNat_le, Int.ofNat_inj, ne_eq, Decidable.not_not] at g5
            refine TQ_on rfl rfl (by decide) rfl (pur_move rfl) rfl ?_
            refine TQ_on rfl rfl (by decide) rfl (pur_gtr rfl rfl rfl) rfl ?_
            refine TQ_on rfl rfl (by decide) rfl (pur_move rfl) rfl ?_
            refine TQ_split 36 rfl (fun g6 => ?_) (fun g6 => ?_)
            · try simp only [decide_eq_true_eq, decide_eq_false_iff_not, Bool.not_eq_true', Bool.not_eq_false', Int.not_lt, Int.not_le, Int.ofNat_lt, Int.ofNat_le, Int.ofNat_inj, ne_eq, Decidable.not_not] at g6
              refine TQ_on rfl rfl (by decide) rfl (pur_move rfl) rfl ?_
              refine TQ_on rfl rfl (by decide) rfl (pur_move rfl) rfl ?_
              refine TQ_on rfl rfl (by decide) rfl (pur_sub rfl rfl rfl (fits64 (by omega) (by omega))) rfl ?_
              refine TQ_on rfl rfl (by decide) rfl (by first | exact pur_ixN sl25 rfl rfl (by omega) rfl | exact pur_ixN_m sl25 rfl rfl (by omega) rfl | exact pur_ix sl25 rfl rfl (by omega) (by omega) rfl | exact pur_ix_m sl25 rfl rfl (by omega) (by omega) rfl) rfl ?_
              refine TQ_on rfl rfl (by decide) rfl (by first | exact pur_fa_q fld52_0 rfl rfl | exact pur_fa_b fld52_0 rfl rfl | exact pur_fa_e fld52_0 rfl rfl) rfl ?_
              refine TQ_on rfl rfl (by decide) rfl (by first | exact pur_ld_b one3 rfl rfl rfl rfl | exact pur_ld_flat rfl _ 0 len_edge one3 rfl rfl (by omega) rfl | exact pur_ld_q one3 rfl rfl rfl | exact pur_ld_e one3 rfl rfl rfl rfl) rfl ?_
              refine TQ_on rfl rfl (by decide) rfl (by first | exact pur_fa_q fld52_0 rfl rfl | exact pur_fa_b fld52_0 rfl rfl | exact pur_fa_e fld52_0 rfl rfl) rfl ?_
              refine TQ_on rfl rfl (by decide) rfl (by first | exact pur_ld_b one3 rfl rfl rfl rfl | exact pur_ld_flat rfl _ 0 len_edge one3 rfl rfl (by omega) rfl | exact pur_ld_q one3 rfl rfl rfl | exact pur_ld_e one3 rfl rfl rfl rfl) rfl ?_
              refine TQ_on rfl rfl (by decide) rfl (pur_gtr rfl rfl rfl) rfl ?_
              refine TQ_on rfl rfl (by decide) rfl (pur_move rfl) rfl ?_
              refine TQ_split 46 rfl (fun g7 => ?_) (fun g7 => ?_)
              · try simp only [decide_eq_true_eq, decide_eq_false_iff_not, Bool.not_eq_true', Bool.not_eq_false', Int.not_lt, Int.not_le, Int.ofNat_lt, Int.ofNat_le, Int.ofNat_inj, ne_eq, Decidable.not_not] at g7
                refine TQ_off rfl rfl (by decide) rfl rfl rfl ?_
                refine TQ_off rfl rfl (by decide) rfl rfl rfl ?_
                refine TQ_off rfl rfl (by decide) rfl rfl rfl ?_
                refine TQ_off rfl rfl (by decide) rfl rfl rfl ?_
                refine TQ_off rfl rfl (by decide) rfl rfl rfl ?_
                refine TQ_off rfl rfl (by decide) rfl rfl rfl ?_
                refine TQ_off rfl rfl (by decide) rfl rfl rfl ?_
                refine TQ_off rfl rfl (by decide) rfl rfl rfl ?_
                refine TQ_off rfl rfl (by decide) rfl rfl rfl ?_
                refine TQ_off rfl rfl (by decide) rfl rfl rfl ?_
                refine TQ_off rfl rfl (by decide) rfl rfl rfl ?_
                refine TQ_off rfl rfl (by decide) rfl rfl rfl ?_
                refine TQ_off rfl rfl (by decide) rfl rfl rfl ?_
                refine TQ_off rfl rfl (by decide) rfl rfl rfl ?_
                refine TQ_off rfl rfl (by decide) rfl rfl rfl ?_
                refine TQ_off rfl rfl (by decide) rfl rfl rfl ?_
                refine TQ_off rfl rfl (by decide) rfl rfl rfl ?_
                refine TQ_off rfl rfl (by decide) rfl rfl rfl ?_
                refine TQ_off rfl rfl (by decide) rfl rfl rfl ?_
                refine TQ_off rfl rfl (by decide) rfl rfl rfl ?_
                refine TQ_on rfl rfl (by decide) rfl (pur_pick rfl rfl rfl) rfl ?_
                refine TQ_on rfl rfl (by decide) rfl (pur_pick rfl rfl rfl) rfl ?_
                refine TQ_pure rfl (pur_pick rfl rfl rfl) rfl ?_
                refine TQ_nil ?_
                refine T_keep [0, 1, 10, 11, 12, 69] ?_
                simp only [pick, List.map, lk, put, val, constA, entry, cellsOf, cellVal, cellVals, List.drop, List.take, List.append_assoc, List.nil_append, List.cons_append, List.singleton_append, List.length_cons, List.length_nil, List.set_cons_zero, List.set_cons_succ, setRow, setSub, spl, Root.under, List.getElem?_cons_zero, List.getElem?_cons_succ, List.map_cons, List.map_nil, reduceIte, Nat.reduceEqDiff, Nat.reduceAdd, Nat.reduceSub, Int.toNat_natCast, Nat.succ_ne_zero, Nat.zero_ne_one, Nat.one_ne_zero]
                refine T_cond (t := true) rfl (fun _ => ?_) (fun h => nomatch h)
                refine T_seq ?_
                refine T_region ?_
                refine TO_cons rfl (TOp_pure (pur_assign rfl) rfl ?_)
                refine TO_nil ?_
                refine T_keep [4] ?_
                simp only [pick, List.map, lk, put, val, constA, entry, cellsOf, cellVal, cellVals, List.drop, List.take, List.append_assoc, List.nil_append, List.cons_append, List.singleton_append, List.length_cons, List.length_nil, List.set_cons_zero, List.set_cons_succ, setRow, setSub, spl, Root.under, List.getElem?_cons_zero, List.getElem?_cons_succ, List.map_cons, List.map_nil, reduceIte, Nat.reduceEqDiff, Nat.reduceAdd, Nat.reduceSub, Int.toNat_natCast, Nat.succ_ne_zero, Nat.zero_ne_one, Nat.one_ne_zero]
                refine T_ret ?_
                refine block_ret ?_
                refine then_ret ?_
                refine then_ret ?_
                refine block_ret ?_
                refine then_ret ?_
                refine end_ret (.tmp .nil) rfl rfl ⟨?_, rfl⟩
                simp only [resA, lk, reduceIte, Nat.reduceEqDiff]
                refine congrArg boolA ?_
                first | (rw [tr_false (fun h => c1 h.1)]; done) | (rw [tr_false]; rintro ⟨⟨h0, h14⟩, hv⟩; have hv := hv i (by omega); unfold OkE lexlt at hv; simp only [Int.toNat_natCast, toNat_pred, decide_eq_true_eq, decide_eq_false_iff_not, Bool.not_eq_true', Bool.not_eq_false'] at *; omega) | (rw [tr_true ⟨by omega, fun j hj => hall j (by omega)⟩])
              · try simp only [decide_eq_true_eq, decide_eq_false_iff_not, Bool.not_eq_true', Bool.not_eq_false', Int.not_lt, Int.not_le, Int.ofNat_lt, Int.ofNat_le, Int.ofNat_inj, ne_eq, Decidable.not_not] at g7
                refine TQ_on rfl rfl (by decide) rfl (pur_move rfl) rfl ?_
                refine TQ_on rfl rfl (by decide) rfl (pur_move rfl) rfl ?_
                refine TQ_on rfl rfl (by decide) rfl (pur_sub rfl rfl rfl (fits64 (by omega) (by omega))) rfl ?_
                refine TQ_on rfl rfl (by decide) rfl (by first | exact pur_ixN sl25 rfl rfl (by omega) rfl | exact pur_ixN_m sl25 rfl rfl (by omega) rfl | exact pur_ix sl25 rfl rfl (by omega) (by omega) rfl | exact pur_ix_m sl25 rfl rfl (by omega) (by omega) rfl) rfl ?_
                refine TQ_on rfl rfl (by decide) rfl (by first | exact pur_fa_q fld52_0 rfl rfl | exact pur_fa_b fld52_0 rfl rfl | exact pur_fa_e fld52_0 rfl rfl) rfl ?_
                refine TQ_on rfl rfl (by decide) rfl (by first | exact pur_ld_b one3 rfl rfl rfl rfl | exact pur_ld_flat rfl _ 0 len_edge one3 rfl rfl (by omega) rfl | exact pur_ld_q one3 rfl rfl rfl | exact pur_ld_e one3 rfl rfl rfl rfl) rfl ?_
                refine TQ_on rfl rfl (by decide) rfl (by first | exact pur_fa_q fld52_0 rfl rfl | exact pur_fa_b fld52_0 rfl rfl | exact pur_fa_e fld52_0 rfl rfl) rfl ?_
                refine TQ_on rfl rfl (by decide) rfl (by first | exact pur_ld_b one3 rfl rfl rfl rfl | exact pur_ld_flat rfl _ 0 len_edge one3 rfl rfl (by omega) rfl | exact pur_ld_q one3 rfl rfl rfl | exact pur_ld_e one3 rfl rfl rfl rfl) rfl ?_
                refine TQ_on rfl rfl (by decide) rfl (pur_eql rfl rfl rfl) rfl ?_
                refine TQ_on rfl rfl (by decide) rfl (pur_move rfl) rfl ?_
                refine TQ_split 56 rfl (fun g8 => ?_) (fun g8 => ?_)
                · try simp only [decide_eq_true_eq, decide_eq_false_iff_not, Bool.not_eq_true', Bool.not_eq_false', Int.not_lt, Int.not_le, Int.ofNat_lt, Int.ofNat_le, Int.ofNat_inj, ne_eq, Decidable.not_not] at g8
                  refine TQ_on rfl rfl (by decide) rfl (pur_move rfl) rfl ?_
                  refine TQ_on rfl rfl (by decide) rfl (pur_move rfl) rfl ?_
                  refine TQ_on rfl rfl (by decide) rfl (pur_sub rfl rfl rfl (fits64 (by omega) (by omega))) rfl ?_
                  refine TQ_on rfl rfl (by decide) rfl (by first | exact pur_ixN sl25 rfl rfl (by omega) rfl | exact pur_ixN_m sl25 rfl rfl (by omega) rfl | exact pur_ix sl25 rfl rfl (by omega) (by omega) rfl | exact pur_ix_m sl25 rfl rfl (by omega) (by omega) rfl) rfl ?_
                  refine TQ_on rfl rfl (by decide) rfl (by first | exact pur_fa_q fld52_1 rfl rfl | exact pur_fa_b fld52_1 rfl rfl | exact pur_fa_e fld52_1 rfl rfl) rfl ?_
                  refine TQ_on rfl rfl (by decide) rfl (by first | exact pur_ld_b one3 rfl rfl rfl rfl | exact pur_ld_flat rfl _ 1 len_edge one3 rfl rfl (by omega) rfl | exact pur_ld_q one3 rfl rfl rfl | exact pur_ld_e one3 rfl rfl rfl rfl) rfl ?_
                  refine TQ_on rfl rfl (by decide) rfl (by first | exact pur_fa_q fld52_1 rfl rfl | exact pur_fa_b fld52_1 rfl rfl | exact pur_fa_e fld52_1 rfl rfl) rfl ?_
                  refine TQ_on rfl rfl (by decide) rfl (by first | exact pur_ld_b one3 rfl rfl rfl rfl | exact pur_ld_flat rfl _ 1 len_edge one3 rfl rfl (by omega) rfl | exact pur_ld_q one3 rfl rfl rfl | exact pur_ld_e one3 rfl rfl rfl rfl) rfl ?_
                  refine TQ_on rfl rfl (by decide) rfl (pur_geq rfl rfl rfl) rfl ?_
                  refine TQ_on rfl rfl (by decide) rfl (pur_pick rfl rfl rfl) rfl ?_
                  refine TQ_on rfl rfl (by decide) rfl (pur_pick rfl rfl rfl) rfl ?_
                  refine TQ_on rfl rfl (by decide) rfl (pur_pick rfl rfl rfl) rfl ?_
                  refine TQ_pure rfl (pur_pick rfl rfl rfl) rfl ?_
                  refine TQ_nil ?_
                  refine T_keep [0, 1, 10, 11, 12, 69] ?_
                  simp only [pick, List.map, lk, put, val, constA, entry, cellsOf, cellVal, cellVals, List.drop, List.take, List.append_assoc, List.nil_append, List.cons_append, List.singleton_append, List.length_cons, List.length_nil, List.set_cons_zero, List.set_cons_succ, setRow, setSub, spl, Root.under, List.getElem?_cons_zero, List.getElem?_cons_succ, List.map_cons, List.map_nil, reduceIte, Nat.reduceEqDiff, Nat.reduceAdd, Nat.reduceSub, Int.toNat_natCast, Nat.succ_ne_zero, Nat.zero_ne_one, Nat.one_ne_zero]
                  refine T_cond rfl (fun c9 => ?_) (fun c9 => ?_)
                  · try simp only [decide_eq_true_eq, decide_eq_false_iff_not, Bool.not_eq_true', Bool.not_eq_false', Int.not_lt, Int.not_le, Int.ofNat_lt, Int.ofNat_le, Int.ofNat_inj, ne_eq, Decidable.not_not] at c9
                    refine T_seq ?_
                    refine T_region ?_
                    refine TO_cons rfl (TOp_pure (pur_assign rfl) rfl ?_)
                    refine TO_nil ?_
                    refine T_keep [4] ?_
                    simp only [pick, List.map, lk, put, val, constA, entry, cellsOf, cellVal, cellVals, List.drop, List.take, List.append_assoc, List.nil_append, List.cons_append, List.singleton_append, List.length_cons, List.length_nil, List.set_cons_zero, List.set_cons_succ, setRow, setSub, spl, Root.under, List.getElem?_cons_zero, List.getElem?_cons_succ, List.map_cons, List.map_nil, reduceIte, Nat.reduceEqDiff, Nat.reduceAdd, Nat.reduceSub, Int.toNat_natCast, Nat.succ_ne_zero, Nat.zero_ne_one, Nat.one_ne_zero]
                    refine T_ret ?_
                    refine block_ret ?_
                    refine then_ret ?_
                    refine then_ret ?_
                    refine block_ret ?_
                    refine then_ret ?_
                    refine end_ret (.tmp .nil) rfl rfl ⟨?_, rfl⟩
                    simp only [resA, lk, reduceIte, Nat.reduceEqDiff]
                    refine congrArg boolA ?_
                    first | (rw [tr_false (fun h => c1 h.1)]; done) | (rw [tr_false]; rintro ⟨⟨h0, h14⟩, hv⟩; have hv := hv i (by omega); unfold OkE lexlt at hv; simp only [Int.toNat_natCast, toNat_pred, decide_eq_true_eq, decide_eq_false_iff_not, Bool.not_eq_true', Bool.not_eq_false'] at *; omega) | (rw [tr_true ⟨by omega, fun j hj => hall j (by omega)⟩])
                  · try simp only [decide_eq_true_eq, decide_eq_false_iff_not, Bool.not_eq_true', Bool.not_eq_false', Int.not_lt, Int.not_le, Int.ofNat_lt, Int.ofNat_le, Int.ofNat_inj, ne_eq, Decidable.not_not] at c9
                    refine T_skip ?_
                    refine T_region ?_
                    refine TO_cons rfl (TOp_pure (pur_add rfl rfl rfl (fits64 (by omega) (by omega))) rfl ?_)
                    refine TO_cons rfl (TOp_pure (pur_move rfl) rfl ?_)
                    refine TO_nil ?_
                    refine again0 (E' := [(0, intA n), (1, edgesI es), (10, edgesI es), (11, natA es.length), (12, natA (i + 1))]) (σ' := []) _ ?_ (Weak.to 0 (by decide) rfl rfl rfl ⟨rfl, rfl, rfl, rfl, rfl, trivial⟩) ⟨(i + 1), ?_, ?_, rfl, rfl, rfl⟩
                    · omega
                    · omega
                    · refine all_succ hall ?_
                      unfold OkE lexlt
                      simp only [Int.toNat_natCast, toNat_pred, decide_eq_true_eq, decide_eq_false_iff_not, Bool.not_eq_true', Bool.not_eq_false'] at *
                      omega
                · try simp only [decide_eq_true_eq, decide_eq_false_iff_not, Bool.not_eq_true', Bool.not_eq_false', Int.not_lt, Int.not_le, Int.ofNat_lt, Int.ofNat_le, Int.ofNat_inj, ne_eq, Decidable.not_not] at g8
                  refine TQ_off rfl rfl (by decide) rfl rfl rfl ?_
                  refine TQ_off rfl rfl (by decide) rfl rfl rfl ?_
                  refine TQ_off rfl rfl (by decide) rfl rfl rfl ?_
                  refine TQ_off rfl rfl (by decide) rfl rfl rfl ?_
                  refine TQ_off rfl rfl (by decide) rfl rfl rfl ?_
                  refine TQ_off rfl rfl (by decide) rfl rfl rfl ?_
                  refine TQ_off rfl rfl (by decide) rfl rfl rfl ?_
                  refine TQ_off rfl rfl (by decide) rfl rfl rfl ?_
                  refine TQ_off rfl rfl (by decide) rfl rfl rfl ?_
                  refine TQ_on rfl rfl (by decide) rfl (pur_pick rfl rfl rfl) rfl ?_
                  refine TQ_on rfl rfl (by decide) rfl (pur_pick rfl rfl rfl) rfl ?_
                  refine TQ_on rfl rfl (by decide) rfl (pur_pick rfl rfl rfl) rfl ?_
                  refine TQ_pure rfl (pur_pick rfl rfl rfl) rfl ?_
                  refine TQ_nil ?_
                  refine T_keep [0, 1, 10, 11, 12, 69] ?_
                  simp only [pick, List.map, lk, put, val, constA, entry, cellsOf, cellVal, cellVals, List.drop, List.take, List.append_assoc, List.nil_append, List.cons_append, List.singleton_append, List.length_cons, List.length_nil, List.set_cons_zero, List.set_cons_succ, setRow, setSub, spl, Root.under, List.getElem?_cons_zero, List.getElem?_cons_succ, List.map_cons, List.map_nil, reduceIte, Nat.reduceEqDiff, Nat.reduceAdd, Nat.reduceSub, Int.toNat_natCast, Nat.succ_ne_zero, Nat.zero_ne_one, Nat.one_ne_zero]
                  refine T_cond (t := false) rfl (fun h => nomatch h) (fun _ => ?_)
                  refine T_skip ?_
                  refine T_region ?_
                  refine TO_cons rfl (TOp_pure (pur_add rfl rfl rfl (fits64 (by omega) (by omega))) rfl ?_)
                  refine TO_cons rfl (TOp_pure (pur_move rfl) rfl ?_)
                  refine TO_nil ?_
                  refine again0 (E' := [(0, intA n), (1, edgesI es), (10, edgesI es), (11, natA es.length), (12, natA (i + 1))]) (σ' := []) _ ?_ (Weak.to 0 (by decide) rfl rfl rfl ⟨rfl, rfl, rfl, rfl, rfl, trivial⟩) ⟨(i + 1), ?_, ?_, rfl, rfl, rfl⟩
                  · omega
                  · omega
                  · refine all_succ hall ?_
                    unfold OkE lexlt
                    simp only [Int.toNat_natCast, toNat_pred, decide_eq_true_eq, decide_eq_false_iff_not, Bool.not_eq_true', Bool.not_eq_false'] at *
                    omega
            · try simp only [decide_eq_true_eq, decide_eq_false_iff_not, Bool.not_eq_true', Bool.not_eq_false', Int.not_lt, Int.not_le, Int.ofNat_lt, Int.ofNat_le, Int.ofNat_inj, ne_eq, Decidable.not_not] at g6
              refine TQ_off rfl rfl (by decide) rfl rfl rfl ?_
              refine TQ_off rfl rfl (by decide) rfl rfl rfl ?_
              refine TQ_off rfl rfl (by decide) rfl rfl rfl ?_
              refine TQ_off rfl rfl (by decide) rfl rfl rfl ?_
              refine TQ_off rfl rfl (by decide) rfl rfl rfl ?_
              refine TQ_off rfl rfl (by decide) rfl rfl rfl ?_
              refine TQ_off rfl rfl (by decide) rfl rfl rfl ?_
              refine TQ_off rfl rfl (by decide) rfl rfl rfl ?_
              refine TQ_off rfl rfl (by decide) rfl rfl rfl ?_
              refine TQ_off rfl rfl (by decide) rfl rfl rfl ?_
              refine TQ_off rfl rfl (by decide) rfl rfl rfl ?_
              refine TQ_off rfl rfl (by decide) rfl rfl rfl ?_
              refine TQ_off rfl rfl (by decide) rfl rfl rfl ?_
              refine TQ_off rfl rfl (by decide) rfl rfl rfl ?_
              refine TQ_off rfl rfl (by decide) rfl rfl rfl ?_
              refine TQ_off rfl rfl (by decide) rfl rfl rfl ?_
              refine TQ_off rfl rfl (by decide) rfl rfl rfl ?_
              refine TQ_off rfl rfl (by decide) rfl rfl rfl ?_
              refine TQ_off rfl rfl (by decide) rfl rfl rfl ?_
              refine TQ_off rfl rfl (by decide) rfl rfl rfl ?_
              refine TQ_off rfl rfl (by decide) rfl rfl rfl ?_
              refine TQ_off rfl rfl (by decide) rfl rfl rfl ?_
              refine TQ_off rfl rfl (by decide) rfl rfl rfl ?_
              refine TQ_off rfl rfl (by decide) rfl rfl rfl ?_
              refine TQ_off rfl rfl (by decide) rfl rfl rfl ?_
              refine TQ_off rfl rfl (by decide) rfl rfl rfl ?_
              refine TQ_off rfl rfl (by decide) rfl rfl rfl ?_
              refine TQ_off rfl rfl (by decide) rfl rfl rfl ?_
              refine TQ_off rfl rfl (by decide) rfl rfl rfl ?_
              refine TQ_off rfl rfl (by decide) rfl rfl rfl ?_
              refine TQ_off rfl rfl (by decide) rfl rfl rfl ?_
              refine TQ_on rfl rfl (by decide) rfl (pur_pick rfl rfl rfl) rfl ?_
              refine TQ_pure rfl (pur_pick rfl rfl rfl) rfl ?_
              refine TQ_nil ?_
              refine T_keep [0, 1, 10, 11, 12, 69] ?_
              simp only [pick, List.map, lk, put, val, constA, entry, cellsOf, cellVal, cellVals, List.drop, List.take, List.append_assoc, List.nil_append, List.cons_append, List.singleton_append, List.length_cons, List.length_nil, List.set_cons_zero, List.set_cons_succ, setRow, setSub, spl, Root.under, List.getElem?_cons_zero, List.getElem?_cons_succ, List.map_cons, List.map_nil, reduceIte, Nat.reduceEqDiff, Nat.reduceAdd, Nat.reduceSub, Int.toNat_natCast, Nat.succ_ne_zero, Nat.zero_ne_one, Nat.one_ne_zero]
              refine T_cond (t := false) rfl (fun h => nomatch h) (fun _ => ?_)
              refine T_skip ?_
              refine T_region ?_
              refine TO_cons rfl (TOp_pure (pur_add rfl rfl rfl (fits64 (by omega) (by omega))) rfl ?_)
              refine TO_cons rfl (TOp_pure (pur_move rfl) rfl ?_)
              refine TO_nil ?_
              refine again0 (E' := [(0, intA n), (1, edgesI es), (10, edgesI es), (11, natA es.length), (12, natA (i + 1))]) (σ' := []) _ ?_ (Weak.to 0 (by decide) rfl rfl rfl ⟨rfl, rfl, rfl, rfl, rfl, trivial⟩) ⟨(i + 1), ?_, ?_, rfl, rfl, rfl⟩
              · omega
              · omega
              · refine all_succ hall ?_
                unfold OkE lexlt
                simp only [Int.toNat_natCast, toNat_pred, decide_eq_true_eq, decide_eq_false_iff_not, Bool.not_eq_true', Bool.not_eq_false'] at *
                omega
    · try simp only [decide_eq_true_eq, decide_eq_false_iff_not, Bool.not_eq_true', Bool.not_eq_false', Int.not_lt, Int.not_le, Int.ofNat_lt, Int.ofNat_le, Int.ofNat_inj, ne_eq, Decidable.not_not] at c2
      refine T_exit ?_
      refine then_exit ?_
      refine then_exit ?_
      refine block_exit ?_
      refine T_seq ?_
      refine T_region ?_
      refine TO_cons rfl (TOp_pure (pur_assign rfl) rfl ?_)
      refine TO_nil ?_
      refine T_keep [4] ?_
      simp only [pick, List.map, lk, put, val, constA, entry, cellsOf, cellVal, cellVals, List.drop, List.take, List.append_assoc, List.nil_append, List.cons_append, List.singleton_append, List.length_cons, List.length_nil, List.set_cons_zero, List.set_cons_succ, setRow, setSub, spl, Root.under, List.getElem?_cons_zero, List.getElem?_cons_succ, List.map_cons, List.map_nil, reduceIte, Nat.reduceEqDiff, Nat.reduceAdd, Nat.reduceSub, Int.toNat_natCast, Nat.succ_ne_zero, Nat.zero_ne_one, Nat.one_ne_zero]
      refine T_ret ?_
      refine end_ret (.tmp .nil) rfl rfl ⟨?_, rfl⟩
      simp only [resA, lk, reduceIte, Nat.reduceEqDiff]
      refine congrArg boolA ?_
      first | (rw [tr_false (fun h => c1 h.1)]; done) | (rw [tr_false]; rintro ⟨⟨h0, h14⟩, hv⟩; have hv := hv i (by omega); unfold OkE lexlt at hv; simp only [Int.toNat_natCast, toNat_pred, decide_eq_true_eq, decide_eq_false_iff_not, Bool.not_eq_true', Bool.not_eq_false'] at *; omega) | (rw [tr_true ⟨by omega, fun j hj => hall j (by omega)⟩])

/-- spec.l28Edge -/
theorem spec_l28Edge (es : List (Int × Int)) (a b : Int) (he : es.length ≤ 9223372036854775807) : FnV prg 46 [edgesI es, intA a, intA b] (boolA (decide (((if b < a then b else a), (if a < b then b else a)) ∈ es))) := by
  refine fnV_of_T Try.func46 rfl rfl (Nat.le_of_ble_eq_true rfl) ?_
  simp only [entry, Nat.reduceAdd]
  refine T_seq ?_
  refine T_region ?_
  refine TO_cons rfl (TOp_pure (pur_assign rfl) rfl ?_)
  refine TO_nil ?_
  refine T_keep [0, 1, 2] ?_
  simp only [pick, List.map, lk, put, val, constA, entry, cellsOf, cellVal, cellVals, List.drop, List.take, List.append_assoc, List.nil_append, List.cons_append, List.singleton_append, List.length_cons, List.length_nil, List.set_cons_zero, List.set_cons_succ, setRow, setSub, spl, Root.under, List.getElem?_cons_zero, List.getElem?_cons_succ, List.map_cons, List.map_nil, reduceIte, Nat.reduceEqDiff, Nat.reduceAdd, Nat.reduceSub, Int.toNat_natCast, Nat.succ_ne_zero, Nat.zero_ne_one, Nat.one_ne_zero]
  refine T_seq ?_
  refine T_seq ?_
  refine T_region ?_
  refine TO_cons rfl (TOp_pure (pur_assign rfl) rfl ?_)
  refine TO_nil ?_
  refine T_keep [0, 1, 2, 7] ?_
  simp only [pick, List.map, lk, put, val, constA, entry, cellsOf, cellVal, cellVals, List.drop, List.take, List.append_assoc, List.nil_append, List.cons_append, List.singleton_append, List.length_cons, List.length_nil, List.set_cons_zero, List.set_cons_succ, setRow, setSub, spl, Root.under, List.getElem?_cons_zero, List.getElem?_cons_succ, List.map_cons, List.map_nil, reduceIte, Nat.reduceEqDiff, Nat.reduceAdd, Nat.reduceSub, Int.toNat_natCast, Nat.succ_ne_zero, Nat.zero_ne_one, Nat.one_ne_zero]
  refine T_block ?_
  refine T_loop (fun k E σ => ∃ (i : Nat), (i ≤ es.length) ∧ (∀ j, j < i → ¬ ((if b < a then b else a), (if a < b then b else a)) = es.getD j default) ∧ k = es.length - i ∧ E = [(0, edgesI es), (1, intA a), (2, intA b), (7, natA i)] ∧ σ = []) _ (E0 := [(0, edgesI es), (1, intA a), (2, intA b), (7, natA (0))]) (σ0 := []) (Weak.to0 rfl ⟨rfl, rfl, rfl, rfl, trivial⟩) ⟨(0), ?_, ?_, rfl, rfl, rfl⟩ ?_
  · (first | omega | (simp_all; done) | (simp_all; omega))
  · (first | omega | (simp_all; done) | (simp_all; omega))
  rintro k E σ ⟨i, hi, hall, rfl, rfl, rfl⟩
  refine T_seq ?_
  refine T_seq ?_
  refine T_region ?_
  refine TO_cons rfl (TOp_pure (pur_move rfl) rfl ?_)
  refine TO_cons rfl (TOp_pure (pur_move rfl) rfl ?_)
  refine TO_cons rfl (TOp_pure (by first | exact pur_len sl25 rfl (by decide) rfl | exact pur_len_m sl25 rfl rfl | exact pur_len_n sl25 rfl rfl) rfl ?_)
  refine TO_cons rfl (TOp_pure (pur_lss rfl rfl rfl) rfl ?_)
  refine TO_nil ?_
  refine T_keep [0, 1, 2, 7, 11] ?_
  simp only [pick, List.map, lk, put, val, constA, entry, cellsOf, cellVal, cellVals, List.drop, List.take, List.append_assoc, List.nil_append, List.cons_append, List.singleton_append, List.length_cons, List.length_nil, List.set_cons_zero, List.set_cons_succ, setRow, setSub, spl, Root.under, List.getElem?_cons_zero, List.getElem?_cons_succ, List.map_cons, List.map_nil, reduceIte, Nat.reduceEqDiff, Nat.reduceAdd, Nat.reduceSub, Int.toNat_natCast, Nat.succ_ne_zero, Nat.zero_ne_one, Nat.one_ne_zero]
  refine T_cond rfl (fun c1 => ?_) (fun c1 => ?_)
  · try simp only [decide_eq_true_eq, decide_eq_false_iff_not, Bool.not_eq_true', Bool.not_eq_false', Int.not_lt, Int.not_le, Int.ofNat_lt, Int.ofNat_le, Int.ofNat_inj, ne_eq, Decidable.not_not] at c1
    refine T_skip ?_
    refine T_seq ?_
    refine T_block ?_
    refine T_seq ?_
    refine T_region ?_
    refine TO_cons rfl (TOp_pure (pur_move rfl) rfl ?_)
    refine TO_cons rfl (TOp_pure (pur_move rfl) rfl ?_)
    refine TO_cons rfl (TOp_pure (by first | exact pur_ixN sl25 rfl rfl (by omega) rfl | exact pur_ixN_m sl25 rfl rfl (by omega) rfl | exact pur_ix sl25 rfl rfl (by omega) (by omega) rfl | exact pur_ix_m sl25 rfl rfl (by omega) (by omega) rfl) rfl ?_)
    refine TO_cons rfl (TOp_pure (by first | exact pur_fa_q fld52_0 rfl rfl | exact pur_fa_b fld52_0 rfl rfl | exact pur_fa_e fld52_0 rfl rfl) rfl ?_)
    refine TO_cons rfl (TOp_pure (by first | exact pur_ld_b one3 rfl rfl rfl rfl | exact pur_ld_flat rfl _ 0 len_edge one3 rfl rfl (by omega) rfl | exact pur_ld_q one3 rfl rfl rfl | exact pur_ld_e one3 rfl rfl rfl rfl) rfl ?_)
    refine TO_cons rfl (TOp_pure (pur_move rfl) rfl ?_)
    refine TO_cons rfl (TOp_pure (pur_move rfl) rfl ?_)
    refine TO_cons rfl (TOp_pure (pur_min rfl rfl rfl) rfl ?_)
    refine TO_cons rfl (TOp_pure (pur_eql rfl rfl rfl) rfl ?_)
    refine TO_cons rfl (TOp_pure (pur_move rfl) rfl ?_)
    refine TO_split 23 rfl (fun g2 => ?_) (fun g2 => ?_)
    · try simp only [decide_eq_true_eq, decide_eq_false_iff_not, Bool.not_eq_true', Bool.not_eq_false', Int.not_lt, Int.not_le, Int.ofNat_lt, Int.ofNat_le, Int.ofNat_inj, ne_eq, Decidable.not_not] at g2
      refine TO_on rfl rfl (by decide) rfl rfl (TOp_pure (pur_move rfl) rfl ?_)
      refine TO_on rfl rfl (by decide) rfl rfl (TOp_pure (pur_move rfl) rfl ?_)
      refine TO_on rfl rfl (by decide) rfl rfl (TOp_pure (by first | exact pur_ixN sl25 rfl rfl (by omega) rfl | exact pur_ixN_m sl25 rfl rfl (by omega) rfl | exact pur_ix sl25 rfl rfl (by omega) (by omega) rfl | exact pur_ix_m sl25 rfl rfl (by omega) (by omega) rfl) rfl ?_)
      refine TO_on rfl rfl (by decide) rfl rfl (TOp_pure (by first | exact pur_fa_q fld52_1 rfl rfl | exact pur_fa_b fld52_1 rfl rfl | exact pur_fa_e fld52_1 rfl rfl) rfl ?_)
      refine TO_on rfl rfl (by decide) rfl rfl (TOp_pure (by first | exact pur_ld_b one3 rfl rfl rfl rfl | exact pur_ld_flat rfl _ 1 len_edge one3 rfl rfl (by omega) rfl | exact pur_ld_q one3 rfl rfl rfl | exact pur_ld_e one3 rfl rfl rfl rfl) rfl ?_)
      refine TO_on rfl rfl (by decide) rfl rfl (TOp_pure (pur_move rfl) rfl ?_)
      refine TO_on rfl rfl (by decide) rfl rfl (TOp_pure (pur_move rfl) rfl ?_)
      refine TO_on rfl rfl (by decide) rfl rfl (TOp_pure (pur_max rfl rfl rfl) rfl ?_)
      refine TO_on rfl rfl (by decide) rfl rfl (TOp_pure (pur_eql rfl rfl rfl) rfl ?_)
      refine TO_cons rfl (TOp_pure (pur_pick rfl rfl rfl) rfl ?_)
      refine TO_nil ?_
      refine T_keep [0, 1, 2, 7, 33] ?_
      simp only [pick, List.map, lk, put, val, constA, entry, cellsOf, cellVal, cellVals, List.drop, List.take, List.append_assoc, List.nil_append, List.cons_append, List.singleton_append, List.length_cons, List.length_nil, List.set_cons_zero, List.set_cons_succ, setRow, setSub, spl, Root.under, List.getElem?_cons_zero, List.getElem?_cons_succ, List.map_cons, List.map_nil, reduceIte, Nat.reduceEqDiff, Nat.reduceAdd, Nat.reduceSub, Int.toNat_natCast, Nat.succ_ne_zero, Nat.zero_ne_one, Nat.one_ne_zero]
      refine T_cond rfl (fun c3 => ?_) (fun c3 => ?_)
      · try simp only [decide_eq_true_eq, decide_eq_false_iff_not, Bool.not_eq_true', Bool.not_eq_false', Int.not_lt, Int.not_le, Int.ofNat_lt, Int.ofNat_le, Int.ofNat_inj, ne_eq, Decidable.not_not] at c3
        refine T_seq ?_
        refine T_region ?_
        refine TO_cons rfl (TOp_pure (pur_assign rfl) rfl ?_)
        refine TO_nil ?_
        refine T_keep [6] ?_
        simp only [pick, List.map, lk, put, val, constA, entry, cellsOf, cellVal, cellVals, List.drop, List.take, List.append_assoc, List.nil_append, List.cons_append, List.singleton_append, List.length_cons, List.length_nil, List.set_cons_zero, List.set_cons_succ, setRow, setSub, spl, Root.under, List.getElem?_cons_zero, List.getElem?_cons_succ, List.map_cons, List.map_nil, reduceIte, Nat.reduceEqDiff, Nat.reduceAdd, Nat.reduceSub, Int.toNat_natCast, Nat.succ_ne_zero, Nat.zero_ne_one, Nat.one_ne_zero]
        refine T_ret ?_
        refine block_ret ?_
        refine then_ret ?_
        refine then_ret ?_
        refine block_ret ?_
        refine then_ret ?_
        refine end_ret (.tmp .nil) rfl rfl ⟨?_, rfl⟩
        simp only [resA, lk, reduceIte, Nat.reduceEqDiff]
        refine congrArg boolA ?_
        first | (rw [decide_eq_true (mem_hit (d := default) (i := i) (by omega) (by rw [Prod.ext_iff]; simp_all))]; done) | (rw [decide_eq_false (mem_miss (d := default) (fun j hj => hall j (by omega)))])
      · try simp only [decide_eq_true_eq, decide_eq_false_iff_not, Bool.not_eq_true', Bool.not_eq_false', Int.not_lt, Int.not_le, Int.ofNat_lt, Int.ofNat_le, Int.ofNat_inj, ne_eq, Decidable.not_not] at c3
        refine T_skip ?_
        refine T_region ?_
        refine TO_cons rfl (TOp_pure (pur_move rfl) rfl ?_)
        refine TO_cons rfl (TOp_pure (pur_add rfl rfl rfl (fits64 (by omega) (by omega))) rfl ?_)
        refine TO_cons rfl (TOp_pure (pur_assign rfl) rfl ?_)
        refine TO_nil ?_
        refine again0 (E' := [(0, edgesI es), (1, intA a), (2, intA b), (7, natA (i + 1))]) (σ' := []) _ ?_ (Weak.to0 rfl ⟨rfl, rfl, rfl, rfl, trivial⟩) ⟨(i + 1), ?_, ?_, rfl, rfl, rfl⟩
        · omega
        · omega
        · exact all_succ hall (by intro h; have h1 := congrArg Prod.fst h; have h2 := congrArg Prod.snd h; simp_all)
    · try simp only [decide_eq_true_eq, decide_eq_false_iff_not, Bool.not_eq_true', Bool.not_eq_false', Int.not_lt, Int.not_le, Int.ofNat_lt, Int.ofNat_le, Int.ofNat_inj, ne_eq, Decidable.not_not] at g2
      refine TO_off rfl rfl (by decide) rfl rfl rfl ?_
      refine TO_off rfl rfl (by decide) rfl rfl rfl ?_
      refine TO_off rfl rfl (by decide) rfl rfl rfl ?_
      refine TO_off rfl rfl (by decide) rfl rfl rfl ?_
      refine TO_off rfl rfl (by decide) rfl rfl rfl ?_
      refine TO_off rfl rfl (by decide) rfl rfl rfl ?_
      refine TO_off rfl rfl (by decide) rfl rfl rfl ?_
      refine TO_off rfl rfl (by decide) rfl rfl rfl ?_
      refine TO_off rfl rfl (by decide) rfl rfl rfl ?_
      refine TO_cons rfl (TOp_pure (pur_pick rfl rfl rfl) rfl ?_)
      refine TO_nil ?_
      refine T_keep [0, 1, 2, 7, 33] ?_
      simp only [pick, List.map, lk, put, val, constA, entry, cellsOf, cellVal, cellVals, List.drop, List.take, List.append_assoc, List.nil_append, List.cons_append, List.singleton_append, List.length_cons, List.length_nil, List.set_cons_zero, List.set_cons_succ, setRow, setSub, spl, Root.under, List.getElem?_cons_zero, List.getElem?_cons_succ, List.map_cons, List.map_nil, reduceIte, Nat.reduceEqDiff, Nat.reduceAdd, Nat.reduceSub, Int.toNat_natCast, Nat.succ_ne_zero, Nat.zero_ne_one, Nat.one_ne_zero]
      refine T_cond (t := false) rfl (fun h => nomatch h) (fun _ => ?_)
      refine T_skip ?_
      refine T_region ?_
      refine TO_cons rfl (TOp_pure (pur_move rfl) rfl ?_)
      refine TO_cons rfl (TOp_pure (pur_add rfl rfl rfl (fits64 (by omega) (by omega))) rfl ?_)
      refine TO_cons rfl (TOp_pure (pur_assign rfl) rfl ?_)
      refine TO_nil ?_
      refine again0 (E' := [(0, edgesI es), (1, intA a), (2, intA b), (7, natA (i + 1))]) (σ' := []) _ ?_ (Weak.to0 rfl ⟨rfl, rfl, rfl, rfl, trivial⟩) ⟨(i + 1), ?_, ?_, rfl, rfl, rfl⟩
      · omega
      · omega
      · exact all_succ hall (by intro h; have h1 := congrArg Prod.fst h; have h2 := congrArg Prod.snd h; simp_all)
  · try simp only [decide_eq_true_eq, decide_eq_false_iff_not, Bool.not_eq_true', Bool.not_eq_false', Int.not_lt, Int.not_le, Int.ofNat_lt, Int.ofNat_le, Int.ofNat_inj, ne_eq, Decidable.not_not] at c1
    refine T_exit ?_
    refine then_exit ?_
    refine then_exit ?_
    refine block_exit ?_
    refine T_seq ?_
    refine T_region ?_
    refine TO_cons rfl (TOp_pure (pur_assign rfl) rfl ?_)
    refine TO_nil ?_
    refine T_keep [6] ?_
    simp only [pick, List.map, lk, put, val, constA, entry, cellsOf, cellVal, cellVals, List.drop, List.take, List.append_assoc, List.nil_append, List.cons_append, List.singleton_append, List.length_cons, List.length_nil, List.set_cons_zero, List.set_cons_succ, setRow, setSub, spl, Root.under, List.getElem?_cons_zero, List.getElem?_cons_succ, List.map_cons, List.map_nil, reduceIte, Nat.reduceEqDiff, Nat.reduceAdd, Nat.reduceSub, Int.toNat_natCast, Nat.succ_ne_zero, Nat.zero_ne_one, Nat.one_ne_zero]
    refine T_ret ?_
    refine end_ret (.tmp .nil) rfl rfl ⟨?_, rfl⟩
    simp only [resA, lk, reduceIte, Nat.reduceEqDiff]
    refine congrArg boolA ?_
    first | (rw [decide_eq_true (mem_hit (d := default) (i := i) (by omega) (by rw [Prod.ext_iff]; simp_all))]; done) | (rw [decide_eq_false (mem_miss (d := default) (fun j hj => hall j (by omega)))])

/-- impl.without -/
theorem without_own (xs ys : List Int) (hx : xs.length ≤ 1048576) (hy : ys.length ≤ 1048576) : Sep.Fn prg 78 [.i 1 (ints xs), .i 1 (ints ys)] [] fun r σ => r = .m [0] 0 (xs.filter (fun n => !decide (n ∈ ys))).length 1 ∧ σ = [.row (ints (xs.filter (fun n => !decide (n ∈ ys))))] := by
  refine fn_of_T Try.func78 rfl rfl (Nat.le_of_ble_eq_true rfl) ?_
  simp only [entry, Nat.reduceAdd]
  refine T_seq ?_
  refine T_region ?_
  refine TO_cons rfl (TOp_pure (pur_assign rfl) rfl ?_)
  refine TO_nil ?_
  refine T_keep [0, 1] ?_
  simp only [pick, List.map, lk, put, val, constA, entry, cellsOf, cellVal, cellVals, List.drop, List.take, List.append_assoc, List.nil_append, List.cons_append, List.singleton_append, List.length_cons, List.length_nil, List.set_cons_zero, List.set_cons_succ, setRow, setSub, spl, Root.under, List.getElem?_cons_zero, List.getElem?_cons_succ, List.map_cons, List.map_nil, reduceIte, Nat.reduceEqDiff, Nat.reduceAdd, Nat.reduceSub, Int.toNat_natCast, Nat.succ_ne_zero, Nat.zero_ne_one, Nat.one_ne_zero, mvE, mvA, mvR, mvH, mvS, A.names, namesL, A.ren, renL, rh, List.headD_cons, beq_self_eq_true, Nat.reduceBEq, Bool.or_false, Bool.false_or, Bool.or_self, Bool.false_eq_true, Nat.reduceMul, List.reduceReplicate, List.take_succ_cons, List.take_zero, ints_app, ints_one, rows_one, flat_app, flat_one, List.nil_append, Nat.zero_add]
  refine T_seq ?_
  refine T_region ?_
  refine TO_cons rfl (TOp_lit (nn := 0) (k := 1) sl31 zero3 rfl rfl rfl rfl (by decide) ?_)
  refine TO_cons rfl (TOp_pure (pur_assign rfl) rfl ?_)
  refine TO_nil ?_
  refine T_keep [0, 1, 5] ?_
  simp only [pick, List.map, lk, put, val, constA, entry, cellsOf, cellVal, cellVals, List.drop, List.take, List.append_assoc, List.nil_append, List.cons_append, List.singleton_append, List.length_cons, List.length_nil, List.set_cons_zero, List.set_cons_succ, setRow, setSub, spl, Root.under, List.getElem?_cons_zero, List.getElem?_cons_succ, List.map_cons, List.map_nil, reduceIte, Nat.reduceEqDiff, Nat.reduceAdd, Nat.reduceSub, Int.toNat_natCast, Nat.succ_ne_zero, Nat.zero_ne_one, Nat.one_ne_zero, mvE, mvA, mvR, mvH, mvS, A.names, namesL, A.ren, renL, rh, List.headD_cons, beq_self_eq_true, Nat.reduceBEq, Bool.or_false, Bool.false_or, Bool.or_self, Bool.false_eq_true, Nat.reduceMul, List.reduceReplicate, List.take_succ_cons, List.take_zero, ints_app, ints_one, rows_one, flat_app, flat_one, List.nil_append, Nat.zero_add]
  refine T_seq ?_
  refine T_seq ?_
  refine T_region ?_
  refine TO_cons rfl (TOp_pure (pur_move rfl) rfl ?_)
  refine TO_cons rfl (TOp_pure (by first | exact pur_len sl31 rfl (by decide) rfl | exact pur_len_m sl31 rfl rfl | exact pur_len_n sl31 rfl rfl) rfl ?_)
  refine TO_cons rfl (TOp_pure (pur_move rfl) rfl ?_)
  refine TO_nil ?_
  refine T_keep [1, 5, 9, 10, 11] ?_
  simp only [pick, List.map, lk, put, val, constA, entry, cellsOf, cellVal, cellVals, List.drop, List.take, List.append_assoc, List.nil_append, List.cons_append, List.singleton_append, List.length_cons, List.length_nil, List.set_cons_zero, List.set_cons_succ, setRow, setSub, spl, Root.under, List.getElem?_cons_zero, List.getElem?_cons_succ, List.map_cons, List.map_nil, reduceIte, Nat.reduceEqDiff, Nat.reduceAdd, Nat.reduceSub, Int.toNat_natCast, Nat.succ_ne_zero, Nat.zero_ne_one, Nat.one_ne_zero, mvE, mvA, mvR, mvH, mvS, A.names, namesL, A.ren, renL, rh, List.headD_cons, beq_self_eq_true, Nat.reduceBEq, Bool.or_false, Bool.false_or, Bool.or_self, Bool.false_eq_true, Nat.reduceMul, List.reduceReplicate, List.take_succ_cons, List.take_zero, ints_app, ints_one, rows_one, flat_app, flat_one, List.nil_append, Nat.zero_add]
  refine T_block ?_
  refine T_loop (fun k E σ => ∃ (i : Nat) (n : Nat) (out : List Int), (i ≤ xs.length) ∧ (out = (xs.take i).filter (fun n => !decide (n ∈ ys))) ∧ (n = out.length) ∧ k = xs.length - i ∧ E = [(1, .i 1 (ints ys)), (5, .m [0] 0 n 1), (9, .i 1 (ints xs)), (10, natA xs.length), (11, natA i)] ∧ σ = [.row (ints out)]) _ (E0 := [(1, .i 1 (ints ys)), (5, .m [0] 0 (0) 1), (9, .i 1 (ints xs)), (10, natA xs.length), (11, natA (0))]) (σ0 := [.row (ints ([]))]) (Weak.to 1 (by decide) rfl rfl rfl ⟨rfl, rfl, rfl, rfl, rfl, trivial⟩) ⟨(0), (0), ([]), ?_, ?_, ?_, rfl, rfl, rfl⟩ ?_
  · omega
  · simp
  · rfl
  rintro k E σ ⟨i, n, out, hi, hout, hn, rfl, rfl, rfl⟩
  have hfl : n ≤ xs.length := by rw [hn, hout]; exact filter_len _ xs i
  refine T_seq ?_
  refine T_region ?_
  refine TO_cons rfl (TOp_pure (pur_lss rfl rfl rfl) rfl ?_)
  refine TO_nil ?_
  refine T_keep [1, 5, 9, 10, 11, 12] ?_
  simp only [pick, List.map, lk, put, val, constA, entry, cellsOf, cellVal, cellVals, List.drop, List.take, List.append_assoc, List.nil_append, List.cons_append, List.singleton_append, List.length_cons, List.length_nil, List.set_cons_zero, List.set_cons_succ, setRow, setSub, spl, Root.under, List.getElem?_cons_zero, List.getElem?_cons_succ, List.map_cons, List.map_nil, reduceIte, Nat.reduceEqDiff, Nat.reduceAdd, Nat.reduceSub, Int.toNat_natCast, Nat.succ_ne_zero, Nat.zero_ne_one, Nat.one_ne_zero, mvE, mvA, mvR, mvH, mvS, A.names, namesL, A.ren, renL, rh, List.headD_cons, beq_self_eq_true, Nat.reduceBEq, Bool.or_false, Bool.false_or, Bool.or_self, Bool.false_eq_true, Nat.reduceMul, List.reduceReplicate, List.take_succ_cons, List.take_zero, ints_app, ints_one, rows_one, flat_app, flat_one, List.nil_append, Nat.zero_add]
  refine T_seq ?_
  refine T_cond rfl (fun c1 => ?_) (fun c1 => ?_)
  · try simp only [decide_eq_true_eq, decide_eq_false_iff_not, Bool.not_eq_true', Bool.not_eq_false', Int.not_lt, Int.not_le, Int.ofNat_lt, Int.ofNat_le, Int.ofNat_inj, ne_eq, Decidable.not_not] at c1
    refine T_skip ?_
    refine T_seq ?_
    refine T_block ?_
    refine T_seq ?_
    refine T_region ?_
    refine TO_cons rfl (TOp_pure (by first | exact pur_ixN sl31 rfl rfl (by omega) rfl | exact pur_ixN_m sl31 rfl rfl (by omega) rfl | exact pur_ix sl31 rfl rfl (by omega) (by omega) rfl | exact pur_ix_m sl31 rfl rfl (by omega) (by omega) rfl) rfl ?_)
    refine TO_cons rfl (TOp_pure (by first | exact pur_ld_b one3 rfl rfl rfl rfl | exact pur_ld_ints rfl one3 rfl rfl (by omega) | exact pur_lde_ints rfl one3 rfl rfl rfl (by omega) | exact pur_ld_q one3 rfl rfl rfl | exact pur_ld_e one3 rfl rfl rfl rfl) rfl ?_)
    refine TO_cons rfl (TOp_pure (pur_assign rfl) rfl ?_)
    refine TO_nil ?_
    refine T_keep [1, 5, 7, 9, 10, 11] ?_
    simp only [pick, List.map, lk, put, val, constA, entry, cellsOf, cellVal, cellVals, List.drop, List.take, List.append_assoc, List.nil_append, List.cons_append, List.singleton_append, List.length_cons, List.length_nil, List.set_cons_zero, List.set_cons_succ, setRow, setSub, spl, Root.under, List.getElem?_cons_zero, List.getElem?_cons_succ, List.map_cons, List.map_nil, reduceIte, Nat.reduceEqDiff, Nat.reduceAdd, Nat.reduceSub, Int.toNat_natCast, Nat.succ_ne_zero, Nat.zero_ne_one, Nat.one_ne_zero, mvE, mvA, mvR, mvH, mvS, A.names, namesL, A.ren, renL, rh, List.headD_cons, beq_self_eq_true, Nat.reduceBEq, Bool.or_false, Bool.false_or, Bool.or_self, Bool.false_eq_true, Nat.reduceMul, List.reduceReplicate, List.take_succ_cons, List.take_zero, ints_app, ints_one, rows_one, flat_app, flat_one, List.nil_append, Nat.zero_add]
    refine T_seq ?_
    refine T_region ?_
    refine TO_cons rfl (TOp_pure (pur_move rfl) rfl ?_)
    refine TO_cons rfl (TOp_pure (pur_move rfl) rfl ?_)
    refine TO_cons rfl (TOp_callV (call_static ent54 rfl) (Contains_int _ _ (by first | assumption | omega | (simp_all; done) | (simp_all; omega))) rfl rfl rfl ?_)
    refine TO_cons rfl (TOp_pure (pur_not rfl rfl) rfl ?_)
    refine TO_nil ?_
    refine T_keep [1, 5, 7, 9, 10, 11, 18] ?_
    simp only [pick, List.map, lk, put, val, constA, entry, cellsOf, cellVal, cellVals, List.drop, List.take, List.append_assoc, List.nil_append, List.cons_append, List.singleton_append, List.length_cons, List.length_nil, List.set_cons_zero, List.set_cons_succ, setRow, setSub, spl, Root.under, List.getElem?_cons_zero, List.getElem?_cons_succ, List.map_cons, List.map_nil, reduceIte, Nat.reduceEqDiff, Nat.reduceAdd, Nat.reduceSub, Int.toNat_natCast, Nat.succ_ne_zero, Nat.zero_ne_one, Nat.one_ne_zero, mvE, mvA, mvR, mvH, mvS, A.names, namesL, A.ren, renL, rh, List.headD_cons, beq_self_eq_true, Nat.reduceBEq, Bool.or_false, Bool.false_or, Bool.or_self, Bool.false_eq_true, Nat.reduceMul, List.reduceReplicate, List.take_succ_cons, List.take_zero, ints_app, ints_one, rows_one, flat_app, flat_one, List.nil_append, Nat.zero_add]
    refine T_cond rfl (fun c2 => ?_) (fun c2 => ?_)
    · try simp only [decide_eq_true_eq, decide_eq_false_iff_not, Bool.not_eq_true', Bool.not_eq_false', Int.not_lt, Int.not_le, Int.ofNat_lt, Int.ofNat_le, Int.ofNat_inj, ne_eq, Decidable.not_not] at c2
      refine T_region ?_
      refine TO_cons rfl (TOp_pure (pur_move rfl) rfl ?_)
      refine TO_cons rfl (TOp_pure (pur_move rfl) rfl ?_)
      refine TO_cons rfl (TOp_lit (nn := 1) (k := 1) sl31 zero3 rfl rfl rfl rfl (by decide) ?_)
      refine TO_cons rfl (TOp_app sl31 zero3 rfl bytes3 rfl rfl rfl rfl (by first | rfl | (simp only [ints_len, rows_len, Nat.mul_one]; omega) | (rw [flat_len len_edge]; omega)) (by first | exact src_m rfl rfl (Nat.le_of_ble_eq_true rfl) rfl rfl rfl | exact src_i _ (by decide) rfl (by first | rfl | exact (Nat.mul_one _).symm ▸ ints_len _ | exact flat_len len_edge _ | (simp [ints_len, rows_len]; done)) | exact src_n _ rfl) (by first | rfl | exact cells_ints _ | exact cells_edges _ | exact cells_rows _) (by omega) (by omega) (Nat.zero_le _) rfl ?_)
      refine TO_cons rfl (TOp_pure (pur_assign rfl) rfl ?_)
      refine TO_keep [1, 5, 9, 10, 11] ?_
      simp only [pick, List.map, lk, put, val, constA, entry, cellsOf, cellVal, cellVals, List.drop, List.take, List.append_assoc, List.nil_append, List.cons_append, List.singleton_append, List.length_cons, List.length_nil, List.set_cons_zero, List.set_cons_succ, setRow, setSub, spl, Root.under, List.getElem?_cons_zero, List.getElem?_cons_succ, List.map_cons, List.map_nil, reduceIte, Nat.reduceEqDiff, Nat.reduceAdd, Nat.reduceSub, Int.toNat_natCast, Nat.succ_ne_zero, Nat.zero_ne_one, Nat.one_ne_zero, mvE, mvA, mvR, mvH, mvS, A.names, namesL, A.ren, renL, rh, List.headD_cons, beq_self_eq_true, Nat.reduceBEq, Bool.or_false, Bool.false_or, Bool.or_self, Bool.false_eq_true, Nat.reduceMul, List.reduceReplicate, List.take_succ_cons, List.take_zero, ints_app, ints_one, rows_one, flat_app, flat_one, List.nil_append, Nat.zero_add]
      refine TO_nil ?_
      refine T_region ?_
      refine TO_cons rfl (TOp_pure (pur_add rfl rfl rfl (fits64 (by omega) (by omega))) rfl ?_)
      refine TO_cons rfl (TOp_pure (pur_move rfl) rfl ?_)
      refine TO_nil ?_
      first
      | (refine again0 (E' := [(1, .i 1 (ints ys)), (5, .m [0] 0 (n + 1) 1), (9, .i 1 (ints xs)), (10, natA xs.length), (11, natA (i + 1))]) (σ' := [.row (ints (out ++ [xs.getD i 0]))]) _ ?_ (Weak.to 1 (by decide) rfl rfl rfl ⟨rfl, rfl, rfl, rfl, rfl, trivial⟩) ⟨(i + 1), (n + 1), (out ++ [xs.getD i 0]), ?_, ?_, ?_, rfl, rfl, rfl⟩
         · omega
         · omega
         · rw [filter_take _ _ 0 i (by omega), if_pos (by simp_all), hout]
         · simp [hn])
      | (refine again0 (E' := [(1, .i 1 (ints ys)), (5, .m [0] 0 (n) 1), (9, .i 1 (ints xs)), (10, natA xs.length), (11, natA (i + 1))]) (σ' := [.row (ints (out))]) _ ?_ (Weak.to 1 (by decide) rfl rfl rfl ⟨rfl, rfl, rfl, rfl, rfl, trivial⟩) ⟨(i + 1), (n), (out), ?_, ?_, ?_, rfl, rfl, rfl⟩
         · omega
         · omega
         · rw [filter_take _ _ 0 i (by omega), if_neg (by simp_all), hout]
         · exact hn)
    · try simp only [decide_eq_true_eq, decide_eq_false_iff_not, Bool.not_eq_true', Bool.not_eq_false', Int.not_lt, Int.not_le, Int.ofNat_lt, Int.ofNat_le, Int.ofNat_inj, ne_eq, Decidable.not_not] at c2
      refine T_skip ?_
      refine T_region ?_
      refine TO_cons rfl (TOp_pure (pur_add rfl rfl rfl (fits64 (by omega) (by omega))) rfl ?_)
      refine TO_cons rfl (TOp_pure (pur_move rfl) rfl ?_)
      refine TO_nil ?_
      first
      | (refine again0 (E' := [(1, .i 1 (ints ys)), (5, .m [0] 0 (n + 1) 1), (9, .i 1 (ints xs)), (10, natA xs.length), (11, natA (i + 1))]) (σ' := [.row (ints (out ++ [xs.getD i 0]))]) _ ?_ (Weak.to 1 (by decide) rfl rfl rfl ⟨rfl, rfl, rfl, rfl, rfl, trivial⟩) ⟨(i + 1), (n + 1), (out ++ [xs.getD i 0]), ?_, ?_, ?_, rfl, rfl, rfl⟩
         · omega
         · omega
         · rw [filter_take _ _ 0 i (by omega), if_pos (by simp_all), hout]
         · simp [hn])
      | (refine again0 (E' := [(1, .i 1 (ints ys)), (5, .m [0] 0 (n) 1), (9, .i 1 (ints xs)), (10, natA xs.length), (11, natA (i + 1))]) (σ' := [.row (ints (out))]) _ ?_ (Weak.to 1 (by decide) rfl rfl rfl ⟨rfl, rfl, rfl, rfl, rfl, trivial⟩) ⟨(i + 1), (n), (out), ?_, ?_, ?_, rfl, rfl, rfl⟩
         · omega
         · omega
         · rw [filter_take _ _ 0 i (by omega), if_neg (by simp_all), hout]
         · exact hn)
  · try simp only [decide_eq_true_eq, decide_eq_false_iff_not, Bool.not_eq_true', Bool.not_eq_false', Int.not_lt, Int.not_le, Int.ofNat_lt, Int.ofNat_le, Int.ofNat_inj, ne_eq, Decidable.not_not] at c1
    refine T_exit ?_
    refine then_exit ?_
    refine then_exit ?_
    refine block_exit ?_
    refine T_seq ?_
    refine T_region ?_
    refine TO_cons rfl (TOp_pure (pur_move rfl) rfl ?_)
    refine TO_cons rfl (TOp_pure (pur_assign rfl) rfl ?_)
    refine TO_nil ?_
    refine T_keep [4] ?_
    simp only [pick, List.map, lk, put, val, constA, entry, cellsOf, cellVal, cellVals, List.drop, List.take, List.append_assoc, List.nil_append, List.cons_append, List.singleton_append, List.length_cons, List.length_nil, List.set_cons_zero, List.set_cons_succ, setRow, setSub, spl, Root.under, List.getElem?_cons_zero, List.getElem?_cons_succ, List.map_cons, List.map_nil, reduceIte, Nat.reduceEqDiff, Nat.reduceAdd, Nat.reduceSub, Int.toNat_natCast, Nat.succ_ne_zero, Nat.zero_ne_one, Nat.one_ne_zero, mvE, mvA, mvR, mvH, mvS, A.names, namesL, A.ren, renL, rh, List.headD_cons, beq_self_eq_true, Nat.reduceBEq, Bool.or_false, Bool.false_or, Bool.or_self, Bool.false_eq_true, Nat.reduceMul, List.reduceReplicate, List.take_succ_cons, List.take_zero, ints_app, ints_one, rows_one, flat_app, flat_one, List.nil_append, Nat.zero_add]
    refine T_ret ?_
    subst hn
    have e : out = xs.filter (fun n => !decide (n ∈ ys)) := by rw [hout, List.take_of_length_le (by omega)]
    rw [← e]
    exact end_own (.tmp .nil) rfl 1 (by decide) rfl rfl rfl rfl ⟨rfl, rfl⟩

theorem without (xs ys : List Int) (hx : xs.length ≤ 1048576) (hy : ys.length ≤ 1048576) : FnV prg 78 [.i 1 (ints xs), .i 1 (ints ys)] (.i 1 (ints (xs.filter (fun n => !decide (n ∈ ys))))) :=
  Sep.Fn.frz (without_own _ _ hx hy) fun r σ h => by obtain ⟨rfl, rfl⟩ := h; exact frz_ints rfl

/-- impl.undominated$1 -/
theorem undominated_1 (p : List (Int × Int)) (a b : Int) (hp : p.length ≤ 1048576) : FnV prg 79 [intA a, .q [edgesI p] 0, .q [intA b] 0] (boolA (decide ((a, b) ∈ p))) := by
  refine fnV_of_T Try.func79 rfl rfl (Nat.le_of_ble_eq_true rfl) ?_
  simp only [entry, Nat.reduceAdd]
  refine T_seq ?_
  refine T_region ?_
  refine TO_cons rfl (TOp_pure (pur_assign rfl) rfl ?_)
  refine TO_nil ?_
  refine T_keep [0, 1, 2] ?_
  simp only [pick, List.map, lk, put, val, constA, entry, cellsOf, cellVal, cellVals, List.drop, List.take, List.append_assoc, List.nil_append, List.cons_append, List.singleton_append, List.length_cons, List.length_nil, List.set_cons_zero, List.set_cons_succ, setRow, setSub, spl, Root.under, List.getElem?_cons_zero, List.getElem?_cons_succ, List.map_cons, List.map_nil, reduceIte, Nat.reduceEqDiff, Nat.reduceAdd, Nat.reduceSub, Int.toNat_natCast, Nat.succ_ne_zero, Nat.zero_ne_one, Nat.one_ne_zero]
  refine T_seq ?_
  refine T_region ?_
  refine TO_cons rfl (TOp_pure (by first | exact pur_ld_b one25 rfl rfl rfl rfl | exact pur_ld_rows rfl one25 rfl rfl (by omega) | exact pur_ld_q one25 rfl rfl rfl | exact pur_ld_e one25 rfl rfl rfl rfl) rfl ?_)
  refine TO_cons rfl (TOp_pure (pur_move rfl) rfl ?_)
  refine TO_cons rfl (TOp_pure (by first | exact pur_ld_b one3 rfl rfl rfl rfl | exact pur_ld_ints rfl one3 rfl rfl (by omega) | exact pur_lde_ints rfl one3 rfl rfl rfl (by omega) | exact pur_ld_q one3 rfl rfl rfl | exact pur_ld_e one3 rfl rfl rfl rfl) rfl ?_)
  refine TO_cons rfl (TOp_callV (call_static ent14 rfl) (impl_IsPreferred _ _ _ (by first | assumption | omega | (simp_all; done) | (simp_all; omega))) rfl rfl rfl ?_)
  refine TO_cons rfl (TOp_pure (pur_assign rfl) rfl ?_)
  refine TO_nil ?_
  refine T_keep [4] ?_
  simp only [pick, List.map, lk, put, val, constA, entry, cellsOf, cellVal, cellVals, List.drop, List.take, List.append_assoc, List.nil_append, List.cons_append, List.singleton_append, List.length_cons, List.length_nil, List.set_cons_zero, List.set_cons_succ, setRow, setSub, spl, Root.under, List.getElem?_cons_zero, List.getElem?_cons_succ, List.map_cons, List.map_nil, reduceIte, Nat.reduceEqDiff, Nat.reduceAdd, Nat.reduceSub, Int.toNat_natCast, Nat.succ_ne_zero, Nat.zero_ne_one, Nat.one_ne_zero]
  refine T_ret ?_
  refine end_ret (.tmp .nil) rfl rfl ⟨?_, rfl⟩
  first | rfl | (simp only [resA, lk, reduceIte, Nat.reduceEqDiff]; first | rfl | (simp_all; done) | (simp_all; omega))

/-- impl.undominated -/
theorem undominated_own (p : List (Int × Int)) (xs : List Int) (hp : p.length ≤ 1048576) (hx : xs.length ≤ 1048576) : Sep.Fn prg 51 [edgesI p, .i 1 (ints xs)] [] fun r σ => r = .m [1] 0 (xs.filter (fun b => !(xs.any fun a => decide ((a, b) ∈ p)))).length 1 ∧ σ = [.box [edgesI p], .row (ints (xs.filter (fun b => !(xs.any fun a => decide ((a, b) ∈ p)))))] := by
  refine fn_of_T Try.func51 rfl rfl (Nat.le_of_ble_eq_true rfl) ?_
  simp only [entry, Nat.reduceAdd]
  refine T_seq ?_
  refine T_region ?_
  refine TO_cons rfl (TOp_box rfl (boxAll rfl) rfl rfl ?_)
  refine TO_cons rfl (TOp_pure (pur_assign rfl) rfl ?_)
  refine TO_nil ?_
  refine T_keep [1, 2] ?_
  simp only [pick, List.map, lk, put, val, constA, entry, cellsOf, cellVal, cellVals, List.drop, List.take, List.append_assoc, List.nil_append, List.cons_append, List.singleton_append, List.length_cons, List.length_nil, List.set_cons_zero, List.set_cons_succ, setRow, setSub, spl, Root.under, List.getElem?_cons_zero, List.getElem?_cons_succ, List.map_cons, List.map_nil, reduceIte, Nat.reduceEqDiff, Nat.reduceAdd, Nat.reduceSub, Int.toNat_natCast, Nat.succ_ne_zero, Nat.zero_ne_one, Nat.one_ne_zero, mvE, mvA, mvR, mvH, mvS, A.names, namesL, A.ren, renL, rh, List.headD_cons, beq_self_eq_true, Nat.reduceBEq, Bool.or_false, Bool.false_or, Bool.or_self, Bool.false_eq_true, Nat.reduceMul, List.reduceReplicate, List.take_succ_cons, List.take_zero, ints_app, ints_one, rows_one, flat_app, flat_one, List.nil_append, Nat.zero_add]
  refine T_seq ?_
  refine T_region ?_
  refine TO_cons rfl (TOp_lit (nn := 0) (k := 1) sl31 zero3 rfl rfl rfl rfl (by decide) ?_)
  refine TO_cons rfl (TOp_pure (pur_assign rfl) rfl ?_)
  refine TO_nil ?_
  refine T_keep [1, 2, 5] ?_
  simp only [pick, List.map, lk, put, val, constA, entry, cellsOf, cellVal, cellVals, List.drop, List.take, List.append_assoc, List.nil_append, List.cons_append, List.singleton_append, List.length_cons, List.length_nil, List.set_cons_zero, List.set_cons_succ, setRow, setSub, spl, Root.under, List.getElem?_cons_zero, List.getElem?_cons_succ, List.map_cons, List.map_nil, reduceIte, Nat.reduceEqDiff, Nat.reduceAdd, Nat.reduceSub, Int.toNat_natCast, Nat.succ_ne_zero, Nat.zero_ne_one, Nat.one_ne_zero, mvE, mvA, mvR, mvH, mvS, A.names, namesL, A.ren, renL, rh, List.headD_cons, beq_self_eq_true, Nat.reduceBEq, Bool.or_false, Bool.false_or, Bool.or_self, Bool.false_eq_true, Nat.reduceMul, List.reduceReplicate, List.take_succ_cons, List.take_zero, ints_app, ints_one, rows_one, flat_app, flat_one, List.nil_append, Nat.zero_add]
  refine T_seq ?_
  refine T_seq ?_
  refine T_region ?_
  refine TO_cons rfl (TOp_pure (pur_move rfl) rfl ?_)
  refine TO_cons rfl (TOp_pure (by first | exact pur_len sl31 rfl (by decide) rfl | exact pur_len_m sl31 rfl rfl | exact pur_len_n sl31 rfl rfl) rfl ?_)
  refine TO_cons rfl (TOp_pure (pur_move rfl) rfl ?_)
  refine TO_nil ?_
  refine T_keep [1, 2, 5, 9, 10, 11] ?_
  simp only [pick, List.map, lk, put, val, constA, entry, cellsOf, cellVal, cellVals, List.drop, List.take, List.append_assoc, List.nil_append, List.cons_append, List.singleton_append, List.length_cons, List.length_nil, List.set_cons_zero, List.set_cons_succ, setRow, setSub, spl, Root.under, List.getElem?_cons_zero, List.getElem?_cons_succ, List.map_cons, List.map_nil, reduceIte, Nat.reduceEqDiff, Nat.reduceAdd, Nat.reduceSub, Int.toNat_natCast, Nat.succ_ne_zero, Nat.zero_ne_one, Nat.one_ne_zero, mvE, mvA, mvR, mvH, mvS, A.names, namesL, A.ren, renL, rh, List.headD_cons, beq_self_eq_true, Nat.reduceBEq, Bool.or_false, Bool.false_or, Bool.or_self, Bool.false_eq_true, Nat.reduceMul, List.reduceReplicate, List.take_succ_cons, List.take_zero, ints_app, ints_one, rows_one, flat_app, flat_one, List.nil_append, Nat.zero_add]
  refine T_block ?_
  refine T_loop (fun k E σ => ∃ (i : Nat) (n : Nat) (out : List Int), (i ≤ xs.length) ∧ (out = (xs.take i).filter (fun b => !(xs.any fun a => decide ((a, b) ∈ p)))) ∧ (n = out.length) ∧ k = xs.length - i ∧ E = [(1, .i 1 (ints xs)), (2, .b 0 0), (5, .m [1] 0 n 1), (9, .i 1 (ints xs)), (10, natA xs.length), (11, natA i)] ∧ σ = [.box [edgesI p], .row (ints out)]) _ (E0 := [(1, .i 1 (ints xs)), (2, .b 0 0), (5, .m [1] 0 (0) 1), (9, .i 1 (ints xs)), (10, natA xs.length), (11, natA (0))]) (σ0 := [.box [edgesI p], .row (ints ([]))]) (Weak.to 2 (by decide) rfl rfl rfl ⟨rfl, rfl, rfl, rfl, rfl, rfl, trivial⟩) ⟨(0), (0), ([]), ?_, ?_, ?_, rfl, rfl, rfl⟩ ?_
  · omega
  · simp
  · rfl
  rintro k E σ ⟨i, n, out, hi, hout, hn, rfl, rfl, rfl⟩
  have hfl : n ≤ xs.length := by rw [hn, hout]; exact filter_len _ xs i
  refine T_seq ?_
  refine T_region ?_
  refine TO_cons rfl (TOp_pure (pur_lss rfl rfl rfl) rfl ?_)
  refine TO_nil ?_
  refine T_keep [1, 2, 5, 9, 10, 11, 12] ?_
  simp only [pick, List.map, lk, put, val, constA, entry, cellsOf, cellVal, cellVals, List.drop, List.take, List.append_assoc, List.nil_append, List.cons_append, List.singleton_append, List.length_cons, List.length_nil, List.set_cons_zero, List.set_cons_succ, setRow, setSub, spl, Root.under, List.getElem?_cons_zero, List.getElem?_cons_succ, List.map_cons, List.map_nil, reduceIte, Nat.reduceEqDiff, Nat.reduceAdd, Nat.reduceSub, Int.toNat_natCast, Nat.succ_ne_zero, Nat.zero_ne_one, Nat.one_ne_zero, mvE, mvA, mvR, mvH, mvS, A.names, namesL, A.ren, renL, rh, List.headD_cons, beq_self_eq_true, Nat.reduceBEq, Bool.or_false, Bool.false_or, Bool.or_self, Bool.false_eq_true, Nat.reduceMul, List.reduceReplicate, List.take_succ_cons, List.take_zero, ints_app, ints_one, rows_one, flat_app, flat_one, List.nil_append, Nat.zero_add]
  refine T_seq ?_
  refine T_cond rfl (fun c1 => ?_) (fun c1 => ?_)
  · try simp only [decide_eq_true_eq, decide_eq_false_iff_not, Bool.not_eq_true', Bool.not_eq_false', Int.not_lt, Int.not_le, Int.ofNat_lt, Int.ofNat_le, Int.ofNat_inj, ne_eq, Decidable.not_not] at c1
    refine T_skip ?_
    refine T_seq ?_
    refine T_block ?_
    refine T_seq ?_
    refine T_region ?_
    refine TO_cons rfl (TOp_pure (by first | exact pur_ixN sl31 rfl rfl (by omega) rfl | exact pur_ixN_m sl31 rfl rfl (by omega) rfl | exact pur_ix sl31 rfl rfl (by omega) (by omega) rfl | exact pur_ix_m sl31 rfl rfl (by omega) (by omega) rfl) rfl ?_)
    refine TO_cons rfl (TOp_pure (by first | exact pur_ld_b one3 rfl rfl rfl rfl | exact pur_ld_ints rfl one3 rfl rfl (by omega) | exact pur_lde_ints rfl one3 rfl rfl rfl (by omega) | exact pur_ld_q one3 rfl rfl rfl | exact pur_ld_e one3 rfl rfl rfl rfl) rfl ?_)
    refine TO_cons rfl (TOp_alloc zero3 rfl rfl ?_)
    first | refine TO_cons rfl (TOp_storeB sz3 rfl rfl rfl rfl rfl rfl rfl (by decide) (Nat.le_of_ble_eq_true rfl) rfl ?_) | refine TO_cons rfl (TOp_setI sz3 rfl rfl rfl rfl rfl (by omega) rfl ?_)
    refine TO_nil ?_
    refine T_keep [1, 2, 5, 7, 9, 10, 11] ?_
    simp only [pick, List.map, lk, put, val, constA, entry, cellsOf, cellVal, cellVals, List.drop, List.take, List.append_assoc, List.nil_append, List.cons_append, List.singleton_append, List.length_cons, List.length_nil, List.set_cons_zero, List.set_cons_succ, setRow, setSub, spl, Root.under, List.getElem?_cons_zero, List.getElem?_cons_succ, List.map_cons, List.map_nil, reduceIte, Nat.reduceEqDiff, Nat.reduceAdd, Nat.reduceSub, Int.toNat_natCast, Nat.succ_ne_zero, Nat.zero_ne_one, Nat.one_ne_zero, mvE, mvA, mvR, mvH, mvS, A.names, namesL, A.ren, renL, rh, List.headD_cons, beq_self_eq_true, Nat.reduceBEq, Bool.or_false, Bool.false_or, Bool.or_self, Bool.false_eq_true, Nat.reduceMul, List.reduceReplicate, List.take_succ_cons, List.take_zero, ints_app, ints_one, rows_one, flat_app, flat_one, List.nil_append, Nat.zero_add]
    refine T_seq ?_
    refine T_region ?_
    refine TO_cons rfl (TOp_pure (pur_move rfl) rfl ?_)
    refine TO_cons rfl (TOp_pure (pur_makeFunc rfl) rfl ?_)
    refine TO_cons rfl (TOp_callB (call_static ent55 rfl) (frzOKL_cons (by first | exact trivial | exact (frz_ints rfl).1 | exact (frz_edges rfl).1 | exact (frz_rows rfl).1 | (refine frzOKL_cons ?_ ?_ <;> exact ⟨_, rfl, rfl⟩) | exact ⟨⟨_, rfl, rfl⟩, ⟨_, rfl, rfl⟩, trivial⟩ | exact ⟨⟨_, rfl, rfl⟩, trivial⟩ | exact ⟨_, rfl, rfl⟩) (frzOKL_cons (by first | exact trivial | exact (frz_ints rfl).1 | exact (frz_edges rfl).1 | exact (frz_rows rfl).1 | (refine frzOKL_cons ?_ ?_ <;> exact ⟨_, rfl, rfl⟩) | exact ⟨⟨_, rfl, rfl⟩, ⟨_, rfl, rfl⟩, trivial⟩ | exact ⟨⟨_, rfl, rfl⟩, trivial⟩ | exact ⟨_, rfl, rfl⟩) frzOKL_nil)) (fzRL_cons (by first | rfl | exact (frz_ints rfl).2 | exact (frz_edges rfl).2 | exact (frz_rows rfl).2 ) (fzRL_cons (by first | rfl | exact (frz_ints rfl).2 | exact (frz_edges rfl).2 | exact (frz_rows rfl).2 ) rfl)) (ContainsFunc_int xs 79 [.q [edgesI p] 0, .q [intA (xs.getD i 0)] 0] (fun a => decide ((a, xs.getD i 0) ∈ p)) (by omega) ent79 rfl (fun a => undominated_1 p a _ hp)) rfl ?_)
    refine TO_cons rfl (TOp_pure (pur_not rfl rfl) rfl ?_)
    refine TO_nil ?_
    refine T_keep [1, 2, 5, 7, 9, 10, 11, 18] ?_
    simp only [pick, List.map, lk, put, val, constA, entry, cellsOf, cellVal, cellVals, List.drop, List.take, List.append_assoc, List.nil_append, List.cons_append, List.singleton_append, List.length_cons, List.length_nil, List.set_cons_zero, List.set_cons_succ, setRow, setSub, spl, Root.under, List.getElem?_cons_zero, List.getElem?_cons_succ, List.map_cons, List.map_nil, reduceIte, Nat.reduceEqDiff, Nat.reduceAdd, Nat.reduceSub, Int.toNat_natCast, Nat.succ_ne_zero, Nat.zero_ne_one, Nat.one_ne_zero, mvE, mvA, mvR, mvH, mvS, A.names, namesL, A.ren, renL, rh, List.headD_cons, beq_self_eq_true, Nat.reduceBEq, Bool.or_false, Bool.false_or, Bool.or_self, Bool.false_eq_true, Nat.reduceMul, List.reduceReplicate, List.take_succ_cons, List.take_zero, ints_app, ints_one, rows_one, flat_app, flat_one, List.nil_append, Nat.zero_add]
    refine T_cond rfl (fun c2 => ?_) (fun c2 => ?_)
    · try simp only [decide_eq_true_eq, decide_eq_false_iff_not, Bool.not_eq_true', Bool.not_eq_false', Int.not_lt, Int.not_le, Int.ofNat_lt, Int.ofNat_le, Int.ofNat_inj, ne_eq, Decidable.not_not] at c2
      refine T_region ?_
      refine TO_cons rfl (TOp_pure (pur_move rfl) rfl ?_)
      refine TO_cons rfl (TOp_pure (by first | exact pur_ld_b one3 rfl rfl rfl rfl | exact pur_ld_ints rfl one3 rfl rfl (by omega) | exact pur_lde_ints rfl one3 rfl rfl rfl (by omega) | exact pur_ld_q one3 rfl rfl rfl | exact pur_ld_e one3 rfl rfl rfl rfl) rfl ?_)
      refine TO_cons rfl (TOp_lit (nn := 1) (k := 1) sl31 zero3 rfl rfl rfl rfl (by decide) ?_)
      refine TO_cons rfl (TOp_app sl31 zero3 rfl bytes3 rfl rfl rfl rfl (by first | rfl | (simp only [ints_len, rows_len, Nat.mul_one]; omega) | (rw [flat_len len_edge]; omega)) (by first | exact src_m rfl rfl (Nat.le_of_ble_eq_true rfl) rfl rfl rfl | exact src_i _ (by decide) rfl (by first | rfl | exact (Nat.mul_one _).symm ▸ ints_len _ | exact flat_len len_edge _ | (simp [ints_len, rows_len]; done)) | exact src_n _ rfl) (by first | rfl | exact cells_ints _ | exact cells_edges _ | exact cells_rows _) (by omega) (by omega) (Nat.zero_le _) rfl ?_)
      refine TO_cons rfl (TOp_pure (pur_assign rfl) rfl ?_)
      refine TO_keep [1, 2, 5, 9, 10, 11] ?_
      simp only [pick, List.map, lk, put, val, constA, entry, cellsOf, cellVal, cellVals, List.drop, List.take, List.append_assoc, List.nil_append, List.cons_append, List.singleton_append, List.length_cons, List.length_nil, List.set_cons_zero, List.set_cons_succ, setRow, setSub, spl, Root.under, List.getElem?_cons_zero, List.getElem?_cons_succ, List.map_cons, List.map_nil, reduceIte, Nat.reduceEqDiff, Nat.reduceAdd, Nat.reduceSub, Int.toNat_natCast, Nat.succ_ne_zero, Nat.zero_ne_one, Nat.one_ne_zero, mvE, mvA, mvR, mvH, mvS, A.names, namesL, A.ren, renL, rh, List.headD_cons, beq_self_eq_true, Nat.reduceBEq, Bool.or_false, Bool.false_or, Bool.or_self, Bool.false_eq_true, Nat.reduceMul, List.reduceReplicate, List.take_succ_cons, List.take_zero, ints_app, ints_one, rows_one, flat_app, flat_one, List.nil_append, Nat.zero_add]
      refine TO_nil ?_
      refine T_region ?_
      refine TO_cons rfl (TOp_pure (pur_add rfl rfl rfl (fits64 (by omega) (by omega))) rfl ?_)
      refine TO_cons rfl (TOp_pure (pur_move rfl) rfl ?_)
      refine TO_nil ?_
      first
      | (refine again0 (E' := [(1, .i 1 (ints xs)), (2, .b 0 0), (5, .m [1] 0 (n + 1) 1), (9, .i 1 (ints xs)), (10, natA xs.length), (11, natA (i + 1))]) (σ' := [.box [edgesI p], .row (ints (out ++ [xs.getD i 0]))]) _ ?_ (Weak.to 2 (by decide) rfl rfl rfl ⟨rfl, rfl, rfl, rfl, rfl, rfl, trivial⟩) ⟨(i + 1), (n + 1), (out ++ [xs.getD i 0]), ?_, ?_, ?_, rfl, rfl, rfl⟩
         · omega
         · omega
         · rw [filter_take _ _ 0 i (by omega), if_pos (by simp_all), hout]
         · simp [hn])
      | (refine again0 (E' := [(1, .i 1 (ints xs)), (2, .b 0 0), (5, .m [1] 0 (n) 1), (9, .i 1 (ints xs)), (10, natA xs.length), (11, natA (i + 1))]) (σ' := [.box [edgesI p], .row (ints (out))]) _ ?_ (Weak.to 2 (by decide) rfl rfl rfl ⟨rfl, rfl, rfl, rfl, rfl, rfl, trivial⟩) ⟨(i + 1), (n), (out), ?_, ?_, ?_, rfl, rfl, rfl⟩
         · omega
         · omega
         · rw [filter_take _ _ 0 i (by omega), if_neg (by simp_all), hout]
         · exact hn)
    · try simp only [decide_eq_true_eq, decide_eq_false_iff_not, Bool.not_eq_true', Bool.not_eq_false', Int.not_lt, Int.not_le, Int.ofNat_lt, Int.ofNat_le, Int.ofNat_inj, ne_eq, Decidable.not_not] at c2
      refine T_skip ?_
      refine T_region ?_
      refine TO_cons rfl (TOp_pure (pur_add rfl rfl rfl (fits64 (by omega) (by omega))) rfl ?_)
      refine TO_cons rfl (TOp_pure (pur_move rfl) rfl ?_)
      refine TO_nil ?_
      first
      | (refine again0 (E' := [(1, .i 1 (ints xs)), (2, .b 0 0), (5, .m [1] 0 (n + 1) 1), (9, .i 1 (ints xs)), (10, natA xs.length), (11, natA (i + 1))]) (σ' := [.box [edgesI p], .row (ints (out ++ [xs.getD i 0]))]) _ ?_ (Weak.to 2 (by decide) rfl rfl rfl ⟨rfl, rfl, rfl, rfl, rfl, rfl, trivial⟩) ⟨(i + 1), (n + 1), (out ++ [xs.getD i 0]), ?_, ?_, ?_, rfl, rfl, rfl⟩
         · omega
         · omega
         · rw [filter_take _ _ 0 i (by omega), if_pos (by simp_all), hout]
         · simp [hn])
      | (refine again0 (E' := [(1, .i 1 (ints xs)), (2, .b 0 0), (5, .m [1] 0 (n) 1), (9, .i 1 (ints xs)), (10, natA xs.length), (11, natA (i + 1))]) (σ' := [.box [edgesI p], .row (ints (out))]) _ ?_ (Weak.to 2 (by decide) rfl rfl rfl ⟨rfl, rfl, rfl, rfl, rfl, rfl, trivial⟩) ⟨(i + 1), (n), (out), ?_, ?_, ?_, rfl, rfl, rfl⟩
         · omega
         · omega
         · rw [filter_take _ _ 0 i (by omega), if_neg (by simp_all), hout]
         · exact hn)
  · try simp only [decide_eq_true_eq, decide_eq_false_iff_not, Bool.not_eq_true', Bool.not_eq_false', Int.not_lt, Int.not_le, Int.ofNat_lt, Int.ofNat_le, Int.ofNat_inj, ne_eq, Decidable.not_not] at c1
    refine T_exit ?_
    refine then_exit ?_
    refine then_exit ?_
    refine block_exit ?_
    refine T_seq ?_
    refine T_region ?_
    refine TO_cons rfl (TOp_pure (pur_move rfl) rfl ?_)
    refine TO_cons rfl (TOp_pure (pur_assign rfl) rfl ?_)
    refine TO_nil ?_
    refine T_keep [4] ?_
    simp only [pick, List.map, lk, put, val, constA, entry, cellsOf, cellVal, cellVals, List.drop, List.take, List.append_assoc, List.nil_append, List.cons_append, List.singleton_append, List.length_cons, List.length_nil, List.set_cons_zero, List.set_cons_succ, setRow, setSub, spl, Root.under, List.getElem?_cons_zero, List.getElem?_cons_succ, List.map_cons, List.map_nil, reduceIte, Nat.reduceEqDiff, Nat.reduceAdd, Nat.reduceSub, Int.toNat_natCast, Nat.succ_ne_zero, Nat.zero_ne_one, Nat.one_ne_zero, mvE, mvA, mvR, mvH, mvS, A.names, namesL, A.ren, renL, rh, List.headD_cons, beq_self_eq_true, Nat.reduceBEq, Bool.or_false, Bool.false_or, Bool.or_self, Bool.false_eq_true, Nat.reduceMul, List.reduceReplicate, List.take_succ_cons, List.take_zero, ints_app, ints_one, rows_one, flat_app, flat_one, List.nil_append, Nat.zero_add]
    refine T_ret ?_
    subst hn
    have e : out = xs.filter (fun b => !(xs.any fun a => decide ((a, b) ∈ p))) := by rw [hout, List.take_of_length_le (by omega)]
    rw [← e]
    exact end_own (.tmp .nil) rfl 2 (by decide) rfl rfl rfl rfl ⟨rfl, rfl⟩

theorem undominated (p : List (Int × Int)) (xs : List Int) (hp : p.length ≤ 1048576) (hx : xs.length ≤ 1048576) : FnV prg 51 [edgesI p, .i 1 (ints xs)] (.i 1 (ints (xs.filter (fun b => !(xs.any fun a => decide ((a, b) ∈ p)))))) :=
  Sep.Fn.frz (undominated_own _ _ hp hx) fun r σ h => by obtain ⟨rfl, rfl⟩ := h; exact frz_ints rfl
end Go.Proofs.Ytglgcncmjnjfgaa

/- Contracts of functions of the program (pareto), each walked once. -/
import Derived.Test.YtglgcncmjnjfgaaProg
import Derived.Test.YtglgcncmjnjfgaaK5
import Derived.Test.YtglgcncmjnjfgaaCO
set_option linter.unusedVariables false
set_option linter.unusedSimpArgs false
set_option maxRecDepth 4000
namespace Go.Proofs.Ytglgcncmjnjfgaa
open Go Go.Proofs Go.Sep
theorem ent49 : EnT prg 49 := fun args w => by
  have h := Try.func49
  simp [callFunc, h, Try.f49]
theorem ent50 : EnT prg 50 := fun args w => by
  have h := Try.func50
  simp [callFunc, h, Try.f50]
theorem ent53 : EnT prg 53 := fun args w => by
  have h := Try.func53
  simp [callFunc, h, Try.f53]
theorem ent57 : EnT prg 57 := fun args w => by
  have h := Try.func57
  simp [callFunc, h, Try.f57]
theorem ent66 : EnT prg 66 := fun args w => by
  have h := Try.func66
  simp [callFunc, h, Try.f66]
theorem ent67 : EnT prg 67 := fun args w => by
  have h := Try.func67
  simp [callFunc, h, Try.f67]
theorem ent68 : EnT prg 68 := fun args w => by
  have h := Try.func68
  simp [callFunc, h, Try.f68]
theorem ent80 : EnT prg 80 := fun args w => by
  have h := Try.func80
  simp [callFunc, h, Try.f80]
theorem ent81 : EnT prg 81 := fun args w => by
  have h := Try.func81
  simp [callFunc, h, Try.f81]
theorem ent88 : EnT prg 88 := fun args w => by
  have h := Try.func88
  simp [callFunc, h, Try.f88]
theorem ent89 : EnT prg 89 := fun args w => by
  have h := Try.func89
  simp [callFunc, h, Try.f89]
theorem ent97 : EnT prg 97 := fun args w => by
  have h := Try.func97
  simp [callFunc, h, Try.f97]
theorem one31 : OneT prg 31 := .of (by kernel_rfl)

def OkI (n : Int) (s : List Int) (j : Nat) : Prop := (0 ≤ s.getD j 0 ∧ s.getD j 0 < n) ∧ (0 < j → s.getD (j - 1) 0 < s.getD j 0)
def SetOK (n : Int) (s : List Int) : Prop := ∀ j, j < s.length → OkI n s j
def indB (es : List (Int × Int)) (s : List Int) : Bool := !(es.any fun e => decide (e.1 ∈ s) && decide (e.2 ∈ s))
def fits (es : List (Int × Int)) (s : List Int) (x : Int) : Bool := !decide (x ∈ s) && indB es (s ++ [x])
def MI (n : Int) (es : List (Int × Int)) (s : List Int) : Prop := VE n es ∧ SetOK n s ∧ indB es s = true ∧ ∀ x : Nat, (x : Int) < n → fits es s x = false
theorem tr_and3 {A B : Prop} {b : Bool} (h1 : A) (h2 : B) : b = tr (A ∧ B ∧ b = true) := by
  cases b
  · rw [tr_false (fun h => by simp at h)]
  · rw [tr_true ⟨h1, h2, rfl⟩]
def PO (n : Int) (es p : List (Int × Int)) (s : List Int) : Prop := VP n es p ∧ MI n es s ∧ ∀ x : Nat, (x : Int) < n → (x : Int) ∈ s ∨ ∃ y ∈ s, ((((x : Int), y) ∈ es ∨ (y, (x : Int)) ∈ es) ∧ ¬ ((x : Int), y) ∈ p)
def adjB (es : List (Int × Int)) (a b : Int) : Bool := decide (((if b < a then b else a), (if a < b then b else a)) ∈ es)
def allA (es p : List (Int × Int)) (s : List Int) (x : Int) (i : Nat) : Bool := (s.take i).all fun y => !adjB es x y || decide ((x, y) ∈ p)
theorem allA_succ (es p : List (Int × Int)) (s : List Int) (x : Int) (i : Nat) (h : i < s.length) : allA es p s x (i + 1) = (allA es p s x i && (!adjB es x (s.getD i 0) || decide ((x, s.getD i 0) ∈ p))) := by
  unfold allA; rw [take_succ_getD s 0 i h, List.all_append]; simp
theorem adjB_iff {n es} (h : VE n es) {a b : Int} (hne : a ≠ b) : adjB es a b = true ↔ ((a, b) ∈ es ∨ (b, a) ∈ es) := by
  unfold adjB
  rw [decide_eq_true_eq, ← pref_iff h]
  exact ⟨fun h => ⟨hne, h⟩, fun h => h.2⟩
def POx (es p : List (Int × Int)) (s : List Int) (x : Int) : Prop := x ∈ s ∨ ∃ y ∈ s, ((x, y) ∈ es ∨ (y, x) ∈ es) ∧ ¬ (x, y) ∈ p
theorem POx_false {n es p s} {x : Int} (h : VE n es) (hx : ¬ x ∈ s) : POx es p s x ↔ allA es p s x s.length = false := by
  unfold allA
  rw [List.take_length, List.all_eq_false]
  constructor
  · rintro (h1 | ⟨y, hy, h1, h2⟩)
    · exact absurd h1 hx
    · have hne : x ≠ y := fun e => hx (e ▸ hy)
      exact ⟨y, hy, by rw [(adjB_iff h hne).2 h1]; simp [h2]⟩
  · rintro ⟨y, hy, h1⟩
    have hne : x ≠ y := fun e => hx (e ▸ hy)
    simp only [Bool.or_eq_true, Bool.not_eq_true', decide_eq_true_eq, not_or, Bool.not_eq_false] at h1
    exact .inr ⟨y, hy, (adjB_iff h hne).1 h1.1, h1.2⟩
theorem POx_any {es p s} {x : Int} (hx : ¬ x ∈ s) : POx es p s x ↔ (s.any fun y => (decide ((x, y) ∈ es) || decide ((y, x) ∈ es)) && !decide ((x, y) ∈ p)) = true := by
  rw [List.any_eq_true]
  constructor
  · rintro (h1 | ⟨y, hy, h1, h2⟩)
    · exact absurd h1 hx
    · exact ⟨y, hy, by simp [h1, h2]⟩
  · rintro ⟨y, hy, h1⟩
    exact .inr ⟨y, hy, by simpa using h1⟩

/-- spec.l8Set -/
theorem spec_l8Set (n : Int) (s : List Int) (h0 : 0 ≤ n) (h14 : n ≤ 14) (hs : s.length ≤ 1048576) : FnV prg 49 [intA n, .i 1 (ints s)] (boolA (tr (SetOK n s))) := by
  refine fnV_of_T Try.func49 rfl rfl (Nat.le_of_ble_eq_true rfl) ?_
  simp only [entry, Nat.reduceAdd]
  refine T_seq ?_
  refine T_region ?_
  refine TO_cons rfl (TOp_pure (pur_assign rfl) rfl ?_)
  refine TO_nil ?_
  refine T_keep [0, 1] ?_
  simp only [pick, List.map, lk, put, val, constA, entry, cellsOf, cellVal, cellVals, List.drop, List.take, List.append_assoc, List.nil_append, List.cons_append, List.singleton_append, List.length_cons, List.length_nil, List.set_cons_zero, List.set_cons_succ, setRow, setSub, spl, Root.under, List.getElem?_cons_zero, List.getElem?_cons_succ, List.map_cons, List.map_nil, reduceIte, Nat.reduceEqDiff, Nat.reduceAdd, Nat.reduceSub, Int.toNat_natCast, Nat.succ_ne_zero, Nat.zero_ne_one, Nat.one_ne_zero]
  refine T_seq ?_
  refine T_seq ?_
  refine T_region ?_
  refine TO_cons rfl (TOp_pure (pur_assign rfl) rfl ?_)
  refine TO_nil ?_
  refine T_keep [0, 1, 5] ?_
  simp only [pick, List.map, lk, put, val, constA, entry, cellsOf, cellVal, cellVals, List.drop, List.take, List.append_assoc, List.nil_append, List.cons_append, List.singleton_append, List.length_cons, List.length_nil, List.set_cons_zero, List.set_cons_succ, setRow, setSub, spl, Root.under, List.getElem?_cons_zero, List.getElem?_cons_succ, List.map_cons, List.map_nil, reduceIte, Nat.reduceEqDiff, Nat.reduceAdd, Nat.reduceSub, Int.toNat_natCast, Nat.succ_ne_zero, Nat.zero_ne_one, Nat.one_ne_zero]
  refine T_block ?_
  refine T_loop (fun k E σ => ∃ (i : Nat), (i ≤ s.length) ∧ (∀ j, j < i → OkI n s j) ∧ k = s.length - i ∧ E = [(0, intA n), (1, .i 1 (ints s)), (5, natA i)] ∧ σ = []) _ (E0 := [(0, intA n), (1, .i 1 (ints s)), (5, natA (0))]) (σ0 := []) (Weak.to0 rfl ⟨rfl, rfl, rfl, trivial⟩) ⟨(0), ?_, ?_, rfl, rfl, rfl⟩ ?_
  · (first | omega | (simp_all; done) | (simp_all; omega))
  · (first | omega | (simp_all; done) | (simp_all; omega))
  rintro k E σ ⟨i, hi, hall, rfl, rfl, rfl⟩
  refine T_seq ?_
  refine T_seq ?_
  refine T_region ?_
  refine TO_cons rfl (TOp_pure (pur_move rfl) rfl ?_)
  refine TO_cons rfl (TOp_pure (pur_move rfl) rfl ?_)
  refine TO_cons rfl (TOp_pure (by first | exact pur_len sl31 rfl (by decide) rfl | exact pur_len_m sl31 rfl rfl | exact pur_len_n sl31 rfl rfl) rfl ?_)
  refine TO_cons rfl (TOp_pure (pur_lss rfl rfl rfl) rfl ?_)
  refine TO_nil ?_
  refine T_keep [0, 1, 5, 9] ?_
  simp only [pick, List.map, lk, put, val, constA, entry, cellsOf, cellVal, cellVals, List.drop, List.take, List.append_assoc, List.nil_append, List.cons_append, List.singleton_append, List.length_cons, List.length_nil, List.set_cons_zero, List.set_cons_succ, setRow, setSub, spl, Root.under, List.getElem?_cons_zero, List.getElem?_cons_succ, List.map_cons, List.map_nil, reduceIte, Nat.reduceEqDiff, Nat.reduceAdd, Nat.reduceSub, Int.toNat_natCast, Nat.succ_ne_zero, Nat.zero_ne_one, Nat.one_ne_zero]
  refine T_cond rfl (fun c1 => ?_) (fun c1 => ?_)
  · try simp only [decide_eq_true_eq, decide_eq_false_iff_not, Bool.not_eq_true', Bool.not_eq_false', Int.not_lt, Int.not_le, Int.ofNat_lt, Int.ofNat_le, Int.ofNat_inj, ne_eq, Decidable.not_not] at c1
    refine T_skip ?_
    refine T_seq ?_
    refine T_block ?_
    refine T_seq ?_
    refine T_regionD mixed (by kernel_rfl) ?_
    refine TQ_pure rfl (pur_move rfl) rfl ?_
    refine TQ_pure rfl (pur_move rfl) rfl ?_
    refine TQ_pure rfl (by first | exact pur_ixN sl31 rfl rfl (by omega) rfl | exact pur_ixN_m sl31 rfl rfl (by omega) rfl | exact pur_ix sl31 rfl rfl (by omega) (by omega) rfl | exact pur_ix_m sl31 rfl rfl (by omega) (by omega) rfl) rfl ?_
    refine TQ_pure rfl (by first | exact pur_ld_b one3 rfl rfl rfl rfl | exact pur_ld_ints rfl one3 rfl rfl (by omega) | exact pur_lde_ints rfl one3 rfl rfl rfl (by omega) | exact pur_ld_q one3 rfl rfl rfl | exact pur_ld_e one3 rfl rfl rfl rfl) rfl ?_
    refine TQ_pure rfl (pur_move rfl) rfl ?_
    refine TQ_pure rfl (pur_sub rfl rfl rfl (fits64 (by omega) (by omega))) rfl ?_
    refine TQ_callV rfl (call_static ent76 rfl) (spec_l1In _ _ _) rfl rfl ?_
    refine TQ_pure rfl (pur_not rfl rfl) rfl ?_
    refine TQ_pure rfl (pur_move rfl) rfl ?_
    refine TQ_split 20 rfl (fun g2 => ?_) (fun g2 => ?_)
    · try simp only [decide_eq_true_eq, decide_eq_false_iff_not, Bool.not_eq_true', Bool.not_eq_false', Int.not_lt, Int.not_le, Int.ofNat_lt, Int.ofNat_le, Int.ofNat_inj, ne_eq, Decidable.not_not] at g2
      refine TQ_off rfl rfl (by decide) rfl rfl rfl ?_
      refine TQ_off rfl rfl (by decide) rfl rfl rfl ?_
      refine TQ_off rfl rfl (by decide) rfl rfl rfl ?_
      refine TQ_off rfl rfl (by decide) rfl rfl rfl ?_
      refine TQ_off rfl rfl (by decide) rfl rfl rfl ?_
      refine TQ_off rfl rfl (by decide) rfl rfl rfl ?_
      refine TQ_off rfl rfl (by decide) rfl rfl rfl ?_
      refine TQ_off rfl rfl (by decide) rfl rfl rfl ?_
      refine TQ_off rfl rfl (by decide) rfl rfl rfl ?_
      refine TQ_off rfl rfl (by decide) rfl rfl rfl ?_
      refine TQ_off rfl rfl (by decide) rfl rfl rfl ?_
      refine TQ_off rfl rfl (by decide) rfl rfl rfl ?_
      refine TQ_off rfl rfl (by decide) rfl rfl rfl ?_
      refine TQ_off rfl rfl (by decide) rfl rfl rfl ?_
      refine TQ_pure rfl (pur_pick rfl rfl rfl) rfl ?_
      refine TQ_nil ?_
      refine T_keep [0, 1, 5, 35] ?_
      simp only [pick, List.map, lk, put, val, constA, entry, cellsOf, cellVal, cellVals, List.drop, List.take, List.append_assoc, List.nil_append, List.cons_append, List.singleton_append, List.length_cons, List.length_nil, List.set_cons_zero, List.set_cons_succ, setRow, setSub, spl, Root.under, List.getElem?_cons_zero, List.getElem?_cons_succ, List.map_cons, List.map_nil, reduceIte, Nat.reduceEqDiff, Nat.reduceAdd, Nat.reduceSub, Int.toNat_natCast, Nat.succ_ne_zero, Nat.zero_ne_one, Nat.one_ne_zero]
      refine T_cond (t := true) rfl (fun _ => ?_) (fun h => nomatch h)
      refine T_seq ?_
      refine T_region ?_
      refine TO_cons rfl (TOp_pure (pur_assign rfl) rfl ?_)
      refine TO_nil ?_
      refine T_keep [4] ?_
      simp only [pick, List.map, lk, put, val, constA, entry, cellsOf, cellVal, cellVals, List.drop, List.take, List.append_assoc, List.nil_append, List.cons_append, List.singleton_append, List.length_cons, List.length_nil, List.set_cons_zero, List.set_cons_succ, setRow, setSub, spl, Root.under, List.getElem?_cons_zero, List.getElem?_cons_succ, List.map_cons, List.map_nil, reduceIte, Nat.reduceEqDiff, Nat.reduceAdd, Nat.reduceSub, Int.toNat_natCast, Nat.succ_ne_zero, Nat.zero_ne_one, Nat.one_ne_zero]
      refine T_ret ?_
      refine block_ret ?_
      refine then_ret ?_
      refine then_ret ?_
      refine block_ret ?_
      refine then_ret ?_
      refine end_ret (.tmp .nil) rfl rfl ⟨?_, rfl⟩
      simp only [resA, lk, reduceIte, Nat.reduceEqDiff]
      refine congrArg boolA ?_
      first | (rw [tr_false]; intro hv; have hv := hv i (by omega); unfold OkI at hv; simp only [Int.toNat_natCast, toNat_pred, decide_eq_true_eq, decide_eq_false_iff_not, Bool.not_eq_true', Bool.not_eq_false'] at *; omega) | (rw [tr_true (p := SetOK n s) fun j hj => hall j (by omega)])
    · try simp only [decide_eq_true_eq, decide_eq_false_iff_not, Bool.not_eq_true', Bool.not_eq_false', Int.not_lt, Int.not_le, Int.ofNat_lt, Int.ofNat_le, Int.ofNat_inj, ne_eq, Decidable.not_not] at g2
      refine TQ_on rfl rfl (by decide) rfl (pur_move rfl) rfl ?_
      refine TQ_on rfl rfl (by decide) rfl (pur_gtr rfl rfl rfl) rfl ?_
      refine TQ_on rfl rfl (by decide) rfl (pur_move rfl) rfl ?_
      refine TQ_split 23 rfl (fun g3 => ?_) (fun g3 => ?_)
      · try simp only [decide_eq_true_eq, decide_eq_false_iff_not, Bool.not_eq_true', Bool.not_eq_false', Int.not_lt, Int.not_le, Int.ofNat_lt, Int.ofNat_le, Int.ofNat_inj, ne_eq, Decidable.not_not] at g3
        refine TQ_on rfl rfl (by decide) rfl (pur_move rfl) rfl ?_
        refine TQ_on rfl rfl (by decide) rfl (pur_move rfl) rfl ?_
        refine TQ_on rfl rfl (by decide) rfl (by first | exact pur_ixN sl31 rfl rfl (by omega) rfl | exact pur_ixN_m sl31 rfl rfl (by omega) rfl | exact pur_ix sl31 rfl rfl (by omega) (by omega) rfl | exact pur_ix_m sl31 rfl rfl (by omega) (by omega) rfl) rfl ?_
        refine TQ_on rfl rfl (by decide) rfl (by first | exact pur_ld_b one3 rfl rfl rfl rfl | exact pur_ld_ints rfl one3 rfl rfl (by omega) | exact pur_lde_ints rfl one3 rfl rfl rfl (by omega) | exact pur_ld_q one3 rfl rfl rfl | exact pur_ld_e one3 rfl rfl rfl rfl) rfl ?_
        refine TQ_on rfl rfl (by decide) rfl (pur_move rfl) rfl ?_
        refine TQ_on rfl rfl (by decide) rfl (pur_move rfl) rfl ?_
        refine TQ_on rfl rfl (by decide) rfl (pur_sub rfl rfl rfl (fits64 (by omega) (by omega))) rfl ?_
        refine TQ_on rfl rfl (by decide) rfl (by first | exact pur_ixN sl31 rfl rfl (by omega) rfl | exact pur_ixN_m sl31 rfl rfl (by omega) rfl | exact pur_ix sl31 rfl rfl (by omega) (by omega) rfl | exact pur_ix_m sl31 rfl rfl (by omega) (by omega) rfl) rfl ?_
        refine TQ_on rfl rfl (by decide) rfl (by first | exact pur_ld_b one3 rfl rfl rfl rfl | exact pur_ld_ints rfl one3 rfl rfl (by omega) | exact pur_lde_ints rfl one3 rfl rfl rfl (by omega) | exact pur_ld_q one3 rfl rfl rfl | exact pur_ld_e one3 rfl rfl rfl rfl) rfl ?_
        refine TQ_on rfl rfl (by decide) rfl (pur_leq rfl rfl rfl) rfl ?_
        refine TQ_on rfl rfl (by decide) rfl (pur_pick rfl rfl rfl) rfl ?_
        refine TQ_pure rfl (pur_pick rfl rfl rfl) rfl ?_
        refine TQ_nil ?_
        refine T_keep [0, 1, 5, 35] ?_
        simp only [pick, List.map, lk, put, val, constA, entry, cellsOf, cellVal, cellVals, List.drop, List.take, List.append_assoc, List.nil_append, List.cons_append, List.singleton_append, List.length_cons, List.length_nil, List.set_cons_zero, List.set_cons_succ, setRow, setSub, spl, Root.under, List.getElem?_cons_zero, List.getElem?_cons_succ, List.map_cons, List.map_nil, reduceIte, Nat.reduceEqDiff, Nat.reduceAdd, Nat.reduceSub, Int.toNat_natCast, Nat.succ_ne_zero, Nat.zero_ne_one, Nat.one_ne_zero]
        refine T_cond rfl (fun c4 => ?_) (fun c4 => ?_)
        · try simp only [decide_eq_true_eq, decide_eq_false_iff_not, Bool.not_eq_true', Bool.not_eq_false', Int.not_lt, Int.not_le, Int.ofNat_lt, Int.ofNat_le, Int.ofNat_inj, ne_eq, Decidable.not_not] at c4
          refine T_seq ?_
          refine T_region ?_
          refine TO_cons rfl (TOp_pure (pur_assign rfl) rfl ?_)
          refine TO_nil ?_
          refine T_keep [4] ?_
          simp only [pick, List.map, lk, put, val, constA, entry, cellsOf, cellVal, cellVals, List.drop, List.take, List.append_assoc, List.nil_append, List.cons_append, List.singleton_append, List.length_cons, List.length_nil, List.set_cons_zero, List.set_cons_succ, setRow, setSub, spl, Root.under, List.getElem?_cons_zero, List.getElem?_cons_succ, List.map_cons, List.map_nil, reduceIte, Nat.reduceEqDiff, Nat.reduceAdd, Nat.reduceSub, Int.toNat_natCast, Nat.succ_ne_zero, Nat.zero_ne_one, Nat.one_ne_zero]
          refine T_ret ?_
          refine block_ret ?_
          refine then_ret ?_
          refine then_ret ?_
          refine block_ret ?_
          refine then_ret ?_
          refine end_ret (.tmp .nil) rfl rfl ⟨?_, rfl⟩
          simp only [resA, lk, reduceIte, Nat.reduceEqDiff]
          refine congrArg boolA ?_
          first | (rw [tr_false]; intro hv; have hv := hv i (by omega); unfold OkI at hv; simp only [Int.toNat_natCast, toNat_pred, decide_eq_true_eq, decide_eq_false_iff_not, Bool.not_eq_true', Bool.not_eq_false'] at *; omega) | (rw [tr_true (p := SetOK n s) fun j hj => hall j (by omega)])
        · try simp only [decide_eq_true_eq, decide_eq_false_iff_not, Bool.not_eq_true', Bool.not_eq_false', Int.not_lt, Int.not_le, Int.ofNat_lt, Int.ofNat_le, Int.ofNat_inj, ne_eq, Decidable.not_not] at c4
          refine T_skip ?_
          refine T_region ?_
          refine TO_cons rfl (TOp_pure (pur_move rfl) rfl ?_)
          refine TO_cons rfl (TOp_pure (pur_add rfl rfl rfl (fits64 (by omega) (by omega))) rfl ?_)
          refine TO_cons rfl (TOp_pure (pur_assign rfl) rfl ?_)
          refine TO_nil ?_
          refine again0 (E' := [(0, intA n), (1, .i 1 (ints s)), (5, natA (i + 1))]) (σ' := []) _ ?_ (Weak.to0 rfl ⟨rfl, rfl, rfl, trivial⟩) ⟨(i + 1), ?_, ?_, rfl, rfl, rfl⟩
          · omega
          · omega
          · refine all_succ hall ?_
            unfold OkI
            simp only [Int.toNat_natCast, toNat_pred, decide_eq_true_eq, decide_eq_false_iff_not, Bool.not_eq_true', Bool.not_eq_false'] at *
            omega
      · try simp only [decide_eq_true_eq, decide_eq_false_iff_not, Bool.not_eq_true', Bool.not_eq_false', Int.not_lt, Int.not_le, Int.ofNat_lt, Int.ofNat_le, Int.ofNat_inj, ne_eq, Decidable.not_not] at g3
        refine TQ_off rfl rfl (by decide) rfl rfl rfl ?_
        refine TQ_off rfl rfl (by decide) rfl rfl rfl ?_
        refine TQ_off rfl rfl (by decide) rfl rfl rfl ?_
        refine TQ_off rfl rfl (by decide) rfl rfl rfl ?_
        refine TQ_off rfl rfl (by decide) rfl rfl rfl ?_
        refine TQ_off rfl rfl (by decide) rfl rfl rfl ?_
        refine TQ_off rfl rfl (by decide) rfl rfl rfl ?_
        refine TQ_off rfl rfl (by decide) rfl rfl rfl ?_
        refine TQ_off rfl rfl (by decide) rfl rfl rfl ?_
        refine TQ_off rfl rfl (by decide) rfl rfl rfl ?_
        refine TQ_on rfl rfl (by decide) rfl (pur_pick rfl rfl rfl) rfl ?_
        refine TQ_pure rfl (pur_pick rfl rfl rfl) rfl ?_
        refine TQ_nil ?_
        refine T_keep [0, 1, 5, 35] ?_
        simp only [pick, List.map, lk, put, val, constA, entry, cellsOf, cellVal, cellVals, List.drop, List.take, List.append_assoc, List.nil_append, List.cons_append, List.singleton_append, List.length_cons, List.length_nil, List.set_cons_zero, List.set_cons_succ, setRow, setSub, spl, Root.under, List.getElem?_cons_zero, List.getElem?_cons_succ, List.map_cons, List.map_nil, reduceIte, Nat.reduceEqDiff, Nat.reduceAdd, Nat.reduceSub, Int.toNat_natCast, Nat.succ_ne_zero, Nat.zero_ne_one, Nat.one_ne_zero]
        refine T_cond (t := false) rfl (fun h => nomatch h) (fun _ => ?_)
        refine T_skip ?_
        refine T_region ?_
        refine TO_cons rfl (TOp_pure (pur_move rfl) rfl ?_)
        refine TO_cons rfl (TOp_pure (pur_add rfl rfl rfl (fits64 (by omega) (by omega))) rfl ?_)
        refine TO_cons rfl (TOp_pure (pur_assign rfl) rfl ?_)
        refine TO_nil ?_
        refine again0 (E' := [(0, intA n), (1, .i 1 (ints s)), (5, natA (i + 1))]) (σ' := []) _ ?_ (Weak.to0 rfl ⟨rfl, rfl, rfl, trivial⟩) ⟨(i + 1), ?_, ?_, rfl, rfl, rfl⟩
        · omega
        · omega
        · refine all_succ hall ?_
          unfold OkI
          simp only [Int.toNat_natCast, toNat_pred, decide_eq_true_eq, decide_eq_false_iff_not, Bool.not_eq_true', Bool.not_eq_false'] at *
          omega
  · try simp only [decide_eq_true_eq, decide_eq_false_iff_not, Bool.not_eq_true', Bool.not_eq_false', Int.not_lt, Int.not_le, Int.ofNat_lt, Int.ofNat_le, Int.ofNat_inj, ne_eq, Decidable.not_not] at c1
    refine T_exit ?_
    refine then_exit ?_
    refine then_exit ?_
    refine block_exit ?_
    refine T_seq ?_
    refine T_region ?_
    refine TO_cons rfl (TOp_pure (pur_assign rfl) rfl ?_)
    refine TO_nil ?_
    refine T_keep [4] ?_
    simp only [pick, List.map, lk, put, val, constA, entry, cellsOf, cellVal, cellVals, List.drop, List.take, List.append_assoc, List.nil_append, List.cons_append, List.singleton_append, List.length_cons, List.length_nil, List.set_cons_zero, List.set_cons_succ, setRow, setSub, spl, Root.under, List.getElem?_cons_zero, List.getElem?_cons_succ, List.map_cons, List.map_nil, reduceIte, Nat.reduceEqDiff, Nat.reduceAdd, Nat.reduceSub, Int.toNat_natCast, Nat.succ_ne_zero, Nat.zero_ne_one, Nat.one_ne_zero]
    refine T_ret ?_
    refine end_ret (.tmp .nil) rfl rfl ⟨?_, rfl⟩
    simp only [resA, lk, reduceIte, Nat.reduceEqDiff]
    refine congrArg boolA ?_
    first | (rw [tr_false]; intro hv; have hv := hv i (by omega); unfold OkI at hv; simp only [Int.toNat_natCast, toNat_pred, decide_eq_true_eq, decide_eq_false_iff_not, Bool.not_eq_true', Bool.not_eq_false'] at *; omega) | (rw [tr_true (p := SetOK n s) fun j hj => hall j (by omega)])

/-- impl.areIndices -/
theorem impl_areIndices (n : Int) (s : List Int) (h0 : 0 ≤ n) (h14 : n ≤ 14) (hs : s.length ≤ 1048576) : FnV prg 50 [.i 1 (ints s), intA n] (boolA (tr (SetOK n s))) := by
  refine fnV_of_T Try.func50 rfl rfl (Nat.le_of_ble_eq_true rfl) ?_
  simp only [entry, Nat.reduceAdd]
  refine T_seq ?_
  refine T_region ?_
  refine TO_cons rfl (TOp_pure (pur_assign rfl) rfl ?_)
  refine TO_nil ?_
  refine T_keep [0, 1] ?_
  simp only [pick, List.map, lk, put, val, constA, entry, cellsOf, cellVal, cellVals, List.drop, List.take, List.append_assoc, List.nil_append, List.cons_append, List.singleton_append, List.length_cons, List.length_nil, List.set_cons_zero, List.set_cons_succ, setRow, setSub, spl, Root.under, List.getElem?_cons_zero, List.getElem?_cons_succ, List.map_cons, List.map_nil, reduceIte, Nat.reduceEqDiff, Nat.reduceAdd, Nat.reduceSub, Int.toNat_natCast, Nat.succ_ne_zero, Nat.zero_ne_one, Nat.one_ne_zero]
  refine T_seq ?_
  refine T_seq ?_
  refine T_region ?_
  refine TO_cons rfl (TOp_pure (pur_move rfl) rfl ?_)
  refine TO_cons rfl (TOp_pure (by first | exact pur_len sl31 rfl (by decide) rfl | exact pur_len_m sl31 rfl rfl | exact pur_len_n sl31 rfl rfl) rfl ?_)
  refine TO_cons rfl (TOp_pure (pur_move rfl) rfl ?_)
  refine TO_nil ?_
  refine T_keep [0, 1, 7, 8, 9] ?_
  simp only [pick, List.map, lk, put, val, constA, entry, cellsOf, cellVal, cellVals, List.drop, List.take, List.append_assoc, List.nil_append, List.cons_append, List.singleton_append, List.length_cons, List.length_nil, List.set_cons_zero, List.set_cons_succ, setRow, setSub, spl, Root.under, List.getElem?_cons_zero, List.getElem?_cons_succ, List.map_cons, List.map_nil, reduceIte, Nat.reduceEqDiff, Nat.reduceAdd, Nat.reduceSub, Int.toNat_natCast, Nat.succ_ne_zero, Nat.zero_ne_one, Nat.one_ne_zero]
  refine T_block ?_
  refine T_loop (fun k E σ => ∃ (i : Nat), (i ≤ s.length) ∧ (∀ j, j < i → OkI n s j) ∧ k = s.length - i ∧ E = [(0, .i 1 (ints s)), (1, intA n), (7, .i 1 (ints s)), (8, natA s.length), (9, natA i)] ∧ σ = []) _ (E0 := [(0, .i 1 (ints s)), (1, intA n), (7, .i 1 (ints s)), (8, natA s.length), (9, natA (0))]) (σ0 := []) (Weak.to0 rfl ⟨rfl, rfl, rfl, rfl, rfl, trivial⟩) ⟨(0), ?_, ?_, rfl, rfl, rfl⟩ ?_
  · (first | omega | (simp_all; done) | (simp_all; omega))
  · (first | omega | (simp_all; done) | (simp_all; omega))
  rintro k E σ ⟨i, hi, hall, rfl, rfl, rfl⟩
  refine T_seq ?_
  refine T_region ?_
  refine TO_cons rfl (TOp_pure (pur_lss rfl rfl rfl) rfl ?_)
  refine TO_nil ?_
  refine T_keep [0, 1, 7, 8, 9, 10] ?_
  simp only [pick, List.map, lk, put, val, constA, entry, cellsOf, cellVal, cellVals, List.drop, List.take, List.append_assoc, List.nil_append, List.cons_append, List.singleton_append, List.length_cons, List.length_nil, List.set_cons_zero, List.set_cons_succ, setRow, setSub, spl, Root.under, List.getElem?_cons_zero, List.getElem?_cons_succ, List.map_cons, List.map_nil, reduceIte, Nat.reduceEqDiff, Nat.reduceAdd, Nat.reduceSub, Int.toNat_natCast, Nat.succ_ne_zero, Nat.zero_ne_one, Nat.one_ne_zero]
  refine T_seq ?_
  refine T_cond rfl (fun c1 => ?_) (fun c1 => ?_)
  · try simp only [decide_eq_true_eq, decide_eq_false_iff_not, Bool.not_eq_true', Bool.not_eq_false', Int.not_lt, Int.not_le, Int.ofNat_lt, Int.ofNat_le, Int.ofNat_inj, ne_eq, Decidable.not_not] at c1
    refine T_skip ?_
    refine T_seq ?_
    refine T_block ?_
    refine T_seq ?_
    refine T_region ?_
    refine TO_cons rfl (TOp_pure (pur_move rfl) rfl ?_)
    refine TO_cons rfl (TOp_pure (by first | exact pur_ixN sl31 rfl rfl (by omega) rfl | exact pur_ixN_m sl31 rfl rfl (by omega) rfl | exact pur_ix sl31 rfl rfl (by omega) (by omega) rfl | exact pur_ix_m sl31 rfl rfl (by omega) (by omega) rfl) rfl ?_)
    refine TO_cons rfl (TOp_pure (by first | exact pur_ld_b one3 rfl rfl rfl rfl | exact pur_ld_ints rfl one3 rfl rfl (by omega) | exact pur_lde_ints rfl one3 rfl rfl rfl (by omega) | exact pur_ld_q one3 rfl rfl rfl | exact pur_ld_e one3 rfl rfl rfl rfl) rfl ?_)
    refine TO_cons rfl (TOp_pure (pur_assign rfl) rfl ?_)
    refine TO_cons rfl (TOp_pure (pur_assign rfl) rfl ?_)
    refine TO_nil ?_
    refine T_keep [0, 1, 5, 6, 7, 8, 9] ?_
    simp only [pick, List.map, lk, put, val, constA, entry, cellsOf, cellVal, cellVals, List.drop, List.take, List.append_assoc, List.nil_append, List.cons_append, List.singleton_append, List.length_cons, List.length_nil, List.set_cons_zero, List.set_cons_succ, setRow, setSub, spl, Root.under, List.getElem?_cons_zero, List.getElem?_cons_succ, List.map_cons, List.map_nil, reduceIte, Nat.reduceEqDiff, Nat.reduceAdd, Nat.reduceSub, Int.toNat_natCast, Nat.succ_ne_zero, Nat.zero_ne_one, Nat.one_ne_zero]
    refine T_seq ?_
    refine T_region ?_
    refine TO_cons rfl (TOp_pure (pur_move rfl) rfl ?_)
    refine TO_cons rfl (TOp_pure (pur_move rfl) rfl ?_)
    refine TO_cons rfl (TOp_pure (pur_sub rfl rfl rfl (fits64 (by omega) (by omega))) rfl ?_)
    refine TO_cons rfl (TOp_callV (call_static ent77 rfl) (impl_within _ _ _) rfl rfl rfl ?_)
    refine TO_cons rfl (TOp_pure (pur_not rfl rfl) rfl ?_)
    refine TO_cons rfl (TOp_pure (pur_move rfl) rfl ?_)
    refine TO_split 19 rfl (fun g2 => ?_) (fun g2 => ?_)
    · try simp only [decide_eq_true_eq, decide_eq_false_iff_not, Bool.not_eq_true', Bool.not_eq_false', Int.not_lt, Int.not_le, Int.ofNat_lt, Int.ofNat_le, Int.ofNat_inj, ne_eq, Decidable.not_not] at g2
      refine TO_off rfl rfl (by decide) rfl rfl rfl ?_
      refine TO_off rfl rfl (by decide) rfl rfl rfl ?_
      refine TO_off rfl rfl (by decide) rfl rfl rfl ?_
      refine TO_off rfl rfl (by decide) rfl rfl rfl ?_
      refine TO_off rfl rfl (by decide) rfl rfl rfl ?_
      refine TO_off rfl rfl (by decide) rfl rfl rfl ?_
      refine TO_off rfl rfl (by decide) rfl rfl rfl ?_
      refine TO_off rfl rfl (by decide) rfl rfl rfl ?_
      refine TO_off rfl rfl (by decide) rfl rfl rfl ?_
      refine TO_off rfl rfl (by decide) rfl rfl rfl ?_
      refine TO_off rfl rfl (by decide) rfl rfl rfl ?_
      refine TO_cons rfl (TOp_pure (pur_pick rfl rfl rfl) rfl ?_)
      refine TO_nil ?_
      refine T_keep [0, 1, 7, 8, 9, 31] ?_
      simp only [pick, List.map, lk, put, val, constA, entry, cellsOf, cellVal, cellVals, List.drop, List.take, List.append_assoc, List.nil_append, List.cons_append, List.singleton_append, List.length_cons, List.length_nil, List.set_cons_zero, List.set_cons_succ, setRow, setSub, spl, Root.under, List.getElem?_cons_zero, List.getElem?_cons_succ, List.map_cons, List.map_nil, reduceIte, Nat.reduceEqDiff, Nat.reduceAdd, Nat.reduceSub, Int.toNat_natCast, Nat.succ_ne_zero, Nat.zero_ne_one, Nat.one_ne_zero]
      refine T_cond (t := true) rfl (fun _ => ?_) (fun h => nomatch h)
      refine T_seq ?_
      refine T_region ?_
      refine TO_cons rfl (TOp_pure (pur_assign rfl) rfl ?_)
      refine TO_nil ?_
      refine T_keep [4] ?_
      simp only [pick, List.map, lk, put, val, constA, entry, cellsOf, cellVal, cellVals, List.drop, List.take, List.append_assoc, List.nil_append, List.cons_append, List.singleton_append, List.length_cons, List.length_nil, List.set_cons_zero, List.set_cons_succ, setRow, setSub, spl, Root.under, List.getElem?_cons_zero, List.getElem?_cons_succ, List.map_cons, List.map_nil, reduceIte, Nat.reduceEqDiff, Nat.reduceAdd, Nat.reduceSub, Int.toNat_natCast, Nat.succ_ne_zero, Nat.zero_ne_one, Nat.one_ne_zero]
      refine T_ret ?_
      refine block_ret ?_
      refine then_ret ?_
      refine then_ret ?_
      refine block_ret ?_
      refine then_ret ?_
      refine end_ret (.tmp .nil) rfl rfl ⟨?_, rfl⟩
      simp only [resA, lk, reduceIte, Nat.reduceEqDiff]
      refine congrArg boolA ?_
      first | (rw [tr_false]; intro hv; have hv := hv i (by omega); unfold OkI at hv; simp only [Int.toNat_natCast, toNat_pred, decide_eq_true_eq, decide_eq_false_iff_not, Bool.not_eq_true', Bool.not_eq_false'] at *; omega) | (rw [tr_true (p := SetOK n s) fun j hj => hall j (by omega)])
    · try simp only [decide_eq_true_eq, decide_eq_false_iff_not, Bool.not_eq_true', Bool.not_eq_false', Int.not_lt, Int.not_le, Int.ofNat_lt, Int.ofNat_le, Int.ofNat_inj, ne_eq, Decidable.not_not] at g2
      refine TO_on rfl rfl (by decide) rfl rfl (TOp_pure (pur_move rfl) rfl ?_)
      refine TO_on rfl rfl (by decide) rfl rfl (TOp_pure (pur_gtr rfl rfl rfl) rfl ?_)
      refine TO_on rfl rfl (by decide) rfl rfl (TOp_pure (pur_move rfl) rfl ?_)
      refine TO_split 22 rfl (fun g3 => ?_) (fun g3 => ?_)
      · try simp only [decide_eq_true_eq, decide_eq_false_iff_not, Bool.not_eq_true', Bool.not_eq_false', Int.not_lt, Int.not_le, Int.ofNat_lt, Int.ofNat_le, Int.ofNat_inj, ne_eq, Decidable.not_not] at g3
        refine TO_on rfl rfl (by decide) rfl rfl (TOp_pure (pur_move rfl) rfl ?_)
        refine TO_on rfl rfl (by decide) rfl rfl (TOp_pure (pur_move rfl) rfl ?_)
        refine TO_on rfl rfl (by decide) rfl rfl (TOp_pure (pur_sub rfl rfl rfl (fits64 (by omega) (by omega))) rfl ?_)
        refine TO_on rfl rfl (by decide) rfl rfl (TOp_pure (by first | exact pur_ixN sl31 rfl rfl (by omega) rfl | exact pur_ixN_m sl31 rfl rfl (by omega) rfl | exact pur_ix sl31 rfl rfl (by omega) (by omega) rfl | exact pur_ix_m sl31 rfl rfl (by omega) (by omega) rfl) rfl ?_)
        refine TO_on rfl rfl (by decide) rfl rfl (TOp_pure (by first | exact pur_ld_b one3 rfl rfl rfl rfl | exact pur_ld_ints rfl one3 rfl rfl (by omega) | exact pur_lde_ints rfl one3 rfl rfl rfl (by omega) | exact pur_ld_q one3 rfl rfl rfl | exact pur_ld_e one3 rfl rfl rfl rfl) rfl ?_)
        refine TO_on rfl rfl (by decide) rfl rfl (TOp_pure (pur_move rfl) rfl ?_)
        refine TO_on rfl rfl (by decide) rfl rfl (TOp_pure (pur_geq rfl rfl rfl) rfl ?_)
        refine TO_on rfl rfl (by decide) rfl rfl (TOp_pure (pur_pick rfl rfl rfl) rfl ?_)
        refine TO_cons rfl (TOp_pure (pur_pick rfl rfl rfl) rfl ?_)
        refine TO_nil ?_
        refine T_keep [0, 1, 7, 8, 9, 31] ?_
        simp only [pick, List.map, lk, put, val, constA, entry, cellsOf, cellVal, cellVals, List.drop, List.take, List.append_assoc, List.nil_append, List.cons_append, List.singleton_append, List.length_cons, List.length_nil, List.set_cons_zero, List.set_cons_succ, setRow, setSub, spl, Root.under, List.getElem?_cons_zero, List.getElem?_cons_succ, List.map_cons, List.map_nil, reduceIte, Nat.reduceEqDiff, Nat.reduceAdd, Nat.reduceSub, Int.toNat_natCast, Nat.succ_ne_zero, Nat.zero_ne_one, Nat.one_ne_zero]
        refine T_cond rfl (fun c4 => ?_) (fun c4 => ?_)
        · try simp only [decide_eq_true_eq, decide_eq_false_iff_not, Bool.not_eq_true', Bool.not_eq_false', Int.not_lt, Int.not_le, Int.ofNat_lt, Int.ofNat_le, Int.ofNat_inj, ne_eq, Decidable.not_not] at c4
          refine T_seq ?_
          refine T_region ?_
          refine TO_cons rfl (TOp_pure (pur_assign rfl) rfl ?_)
          refine TO_nil ?_
          refine T_keep [4] ?_
          simp only [pick, List.map, lk, put, val, constA, entry, cellsOf, cellVal, cellVals, List.drop, List.take, List.append_assoc, List.nil_append, List.cons_append, List.singleton_append, List.length_cons, List.length_nil, List.set_cons_zero, List.set_cons_succ, setRow, setSub, spl, Root.under, List.getElem?_cons_zero, List.getElem?_cons_succ, List.map_cons, List.map_nil, reduceIte, Nat.reduceEqDiff, Nat.reduceAdd, Nat.reduceSub, Int.toNat_natCast, Nat.succ_ne_zero, Nat.zero_ne_one, Nat.one_ne_zero]
          refine T_ret ?_
          refine block_ret ?_
          refine then_ret ?_
          refine then_ret ?_
          refine block_ret ?_
          refine then_ret ?_
          refine end_ret (.tmp .nil) rfl rfl ⟨?_, rfl⟩
          simp only [resA, lk, reduceIte, Nat.reduceEqDiff]
          refine congrArg boolA ?_
          first | (rw [tr_false]; intro hv; have hv := hv i (by omega); unfold OkI at hv; simp only [Int.toNat_natCast, toNat_pred, decide_eq_true_eq, decide_eq_false_iff_not, Bool.not_eq_true', Bool.not_eq_false'] at *; omega) | (rw [tr_true (p := SetOK n s) fun j hj => hall j (by omega)])
        · try simp only [decide_eq_true_eq, decide_eq_false_iff_not, Bool.not_eq_true', Bool.not_eq_false', Int.not_lt, Int.not_le, Int.ofNat_lt, Int.ofNat_le, Int.ofNat_inj, ne_eq, Decidable.not_not] at c4
          refine T_skip ?_
          refine T_region ?_
          refine TO_cons rfl (TOp_pure (pur_add rfl rfl rfl (fits64 (by omega) (by omega))) rfl ?_)
          refine TO_cons rfl (TOp_pure (pur_move rfl) rfl ?_)
          refine TO_nil ?_
          refine again0 (E' := [(0, .i 1 (ints s)), (1, intA n), (7, .i 1 (ints s)), (8, natA s.length), (9, natA (i + 1))]) (σ' := []) _ ?_ (Weak.to0 rfl ⟨rfl, rfl, rfl, rfl, rfl, trivial⟩) ⟨(i + 1), ?_, ?_, rfl, rfl, rfl⟩
          · omega
          · omega
          · refine all_succ hall ?_
            unfold OkI
            simp only [Int.toNat_natCast, toNat_pred, decide_eq_true_eq, decide_eq_false_iff_not, Bool.not_eq_true', Bool.not_eq_false'] at *
            omega
      · try simp only [decide_eq_true_eq, decide_eq_false_iff_not, Bool.not_eq_true', Bool.not_eq_false', Int.not_lt, Int.not_le, Int.ofNat_lt, Int.ofNat_le, Int.ofNat_inj, ne_eq, Decidable.not_not] at g3
        refine TO_off rfl rfl (by decide) rfl rfl rfl ?_
        refine TO_off rfl rfl (by decide) rfl rfl rfl ?_
        refine TO_off rfl rfl (by decide) rfl rfl rfl ?_
        refine TO_off rfl rfl (by decide) rfl rfl rfl ?_
        refine TO_off rfl rfl (by decide) rfl rfl rfl ?_
        refine TO_off rfl rfl (by decide) rfl rfl rfl ?_
        refine TO_off rfl rfl (by decide) rfl rfl rfl ?_
        refine TO_on rfl rfl (by decide) rfl rfl (TOp_pure (pur_pick rfl rfl rfl) rfl ?_)
        refine TO_cons rfl (TOp_pure (pur_pick rfl rfl rfl) rfl ?_)
        refine TO_nil ?_
        refine T_keep [0, 1, 7, 8, 9, 31] ?_
        simp only [pick, List.map, lk, put, val, constA, entry, cellsOf, cellVal, cellVals, List.drop, List.take, List.append_assoc, List.nil_append, List.cons_append, List.singleton_append, List.length_cons, List.length_nil, List.set_cons_zero, List.set_cons_succ, setRow, setSub, spl, Root.under, List.getElem?_cons_zero, List.getElem?_cons_succ, List.map_cons, List.map_nil, reduceIte, Nat.reduceEqDiff, Nat.reduceAdd, Nat.reduceSub, Int.toNat_natCast, Nat.succ_ne_zero, Nat.zero_ne_one, Nat.one_ne_zero]
        refine T_cond (t := false) rfl (fun h => nomatch h) (fun _ => ?_)
        refine T_skip ?_
        refine T_region ?_
        refine TO_cons rfl (TOp_pure (pur_add rfl rfl rfl (fits64 (by omega) (by omega))) rfl ?_)
        refine TO_cons rfl (TOp_pure (pur_move rfl) rfl ?_)
        refine TO_nil ?_
        refine again0 (E' := [(0, .i 1 (ints s)), (1, intA n), (7, .i 1 (ints s)), (8, natA s.length), (9, natA (i + 1))]) (σ' := []) _ ?_ (Weak.to0 rfl ⟨rfl, rfl, rfl, rfl, rfl, trivial⟩) ⟨(i + 1), ?_, ?_, rfl, rfl, rfl⟩
        · omega
        · omega
        · refine all_succ hall ?_
          unfold OkI
          simp only [Int.toNat_natCast, toNat_pred, decide_eq_true_eq, decide_eq_false_iff_not, Bool.not_eq_true', Bool.not_eq_false'] at *
          omega
  · try simp only [decide_eq_true_eq, decide_eq_false_iff_not, Bool.not_eq_true', Bool.not_eq_false', Int.not_lt, Int.not_le, Int.ofNat_lt, Int.ofNat_le, Int.ofNat_inj, ne_eq, Decidable.not_not] at c1
    refine T_exit ?_
    refine then_exit ?_
    refine then_exit ?_
    refine block_exit ?_
    refine T_seq ?_
    refine T_region ?_
    refine TO_cons rfl (TOp_pure (pur_assign rfl) rfl ?_)
    refine TO_nil ?_
    refine T_keep [4] ?_
    simp only [pick, List.map, lk, put, val, constA, entry, cellsOf, cellVal, cellVals, List.drop, List.take, List.append_assoc, List.nil_append, List.cons_append, List.singleton_append, List.length_cons, List.length_nil, List.set_cons_zero, List.set_cons_succ, setRow, setSub, spl, Root.under, List.getElem?_cons_zero, List.getElem?_cons_succ, List.map_cons, List.map_nil, reduceIte, Nat.reduceEqDiff, Nat.reduceAdd, Nat.reduceSub, Int.toNat_natCast, Nat.succ_ne_zero, Nat.zero_ne_one, Nat.one_ne_zero]
    refine T_ret ?_
    refine end_ret (.tmp .nil) rfl rfl ⟨?_, rfl⟩
    simp only [resA, lk, reduceIte, Nat.reduceEqDiff]
    refine congrArg boolA ?_
    first | (rw [tr_false]; intro hv; have hv := hv i (by omega); unfold OkI at hv; simp only [Int.toNat_natCast, toNat_pred, decide_eq_true_eq, decide_eq_false_iff_not, Bool.not_eq_true', Bool.not_eq_false'] at *; omega) | (rw [tr_true (p := SetOK n s) fun j hj => hall j (by omega)])

/-- spec.IsIndependent -/
theorem spec_IsIndependent (es : List (Int × Int)) (s : List Int) (he : es.length ≤ 1048576) (hs : s.length ≤ 2097152) : FnV prg 80 [edgesI es, .i 1 (ints s)] (boolA (indB es s)) := by
  refine fnV_of_T Try.func80 rfl rfl (Nat.le_of_ble_eq_true rfl) ?_
  simp only [entry, Nat.reduceAdd]
  refine T_seq ?_
  refine T_region ?_
  refine TO_cons rfl (TOp_pure (pur_assign rfl) rfl ?_)
  refine TO_nil ?_
  refine T_keep [0, 1] ?_
  simp only [pick, List.map, lk, put, val, constA, entry, cellsOf, cellVal, cellVals, List.drop, List.take, List.append_assoc, List.nil_append, List.cons_append, List.singleton_append, List.length_cons, List.length_nil, List.set_cons_zero, List.set_cons_succ, setRow, setSub, spl, Root.under, List.getElem?_cons_zero, List.getElem?_cons_succ, List.map_cons, List.map_nil, reduceIte, Nat.reduceEqDiff, Nat.reduceAdd, Nat.reduceSub, Int.toNat_natCast, Nat.succ_ne_zero, Nat.zero_ne_one, Nat.one_ne_zero]
  refine T_seq ?_
  refine T_seq ?_
  refine T_region ?_
  refine TO_cons rfl (TOp_pure (pur_assign rfl) rfl ?_)
  refine TO_nil ?_
  refine T_keep [0, 1, 5] ?_
  simp only [pick, List.map, lk, put, val, constA, entry, cellsOf, cellVal, cellVals, List.drop, List.take, List.append_assoc, List.nil_append, List.cons_append, List.singleton_append, List.length_cons, List.length_nil, List.set_cons_zero, List.set_cons_succ, setRow, setSub, spl, Root.under, List.getElem?_cons_zero, List.getElem?_cons_succ, List.map_cons, List.map_nil, reduceIte, Nat.reduceEqDiff, Nat.reduceAdd, Nat.reduceSub, Int.toNat_natCast, Nat.succ_ne_zero, Nat.zero_ne_one, Nat.one_ne_zero]
  refine T_block ?_
  refine T_loop (fun k E σ => ∃ (i : Nat), (i ≤ es.length) ∧ (∀ j, j < i → (decide ((es.getD j default).1 ∈ s) && decide ((es.getD j default).2 ∈ s)) = false) ∧ k = es.length - i ∧ E = [(0, edgesI es), (1, .i 1 (ints s)), (5, natA i)] ∧ σ = []) _ (E0 := [(0, edgesI es), (1, .i 1 (ints s)), (5, natA (0))]) (σ0 := []) (Weak.to0 rfl ⟨rfl, rfl, rfl, trivial⟩) ⟨(0), ?_, ?_, rfl, rfl, rfl⟩ ?_
  · (first | omega | (simp_all; done) | (simp_all; omega))
  · (first | omega | (simp_all; done) | (simp_all; omega))
  rintro k E σ ⟨i, hi, hall, rfl, rfl, rfl⟩
  refine T_seq ?_
  refine T_seq ?_
  refine T_region ?_
  refine TO_cons rfl (TOp_pure (pur_move rfl) rfl ?_)
  refine TO_cons rfl (TOp_pure (pur_move rfl) rfl ?_)
  refine TO_cons rfl (TOp_pure (by first | exact pur_len sl25 rfl (by decide) rfl | exact pur_len_m sl25 rfl rfl | exact pur_len_n sl25 rfl rfl) rfl ?_)
  refine TO_cons rfl (TOp_pure (pur_lss rfl rfl rfl) rfl ?_)
  refine TO_nil ?_
  refine T_keep [0, 1, 5, 9] ?_
  simp only [pick, List.map, lk, put, val, constA, entry, cellsOf, cellVal, cellVals, List.drop, List.take, List.append_assoc, List.nil_append, List.cons_append, List.singleton_append, List.length_cons, List.length_nil, List.set_cons_zero, List.set_cons_succ, setRow, setSub, spl, Root.under, List.getElem?_cons_zero, List.getElem?_cons_succ, List.map_cons, List.map_nil, reduceIte, Nat.reduceEqDiff, Nat.reduceAdd, Nat.reduceSub, Int.toNat_natCast, Nat.succ_ne_zero, Nat.zero_ne_one, Nat.one_ne_zero]
  refine T_cond rfl (fun c1 => ?_) (fun c1 => ?_)
  · try simp only [decide_eq_true_eq, decide_eq_false_iff_not, Bool.not_eq_true', Bool.not_eq_false', Int.not_lt, Int.not_le, Int.ofNat_lt, Int.ofNat_le, Int.ofNat_inj, ne_eq, Decidable.not_not] at c1
    refine T_skip ?_
    refine T_seq ?_
    refine T_block ?_
    refine T_seq ?_
    refine T_region ?_
    refine TO_cons rfl (TOp_pure (pur_move rfl) rfl ?_)
    refine TO_cons rfl (TOp_pure (pur_move rfl) rfl ?_)
    refine TO_cons rfl (TOp_pure (pur_move rfl) rfl ?_)
    refine TO_cons rfl (TOp_pure (by first | exact pur_ixN sl25 rfl rfl (by omega) rfl | exact pur_ixN_m sl25 rfl rfl (by omega) rfl | exact pur_ix sl25 rfl rfl (by omega) (by omega) rfl | exact pur_ix_m sl25 rfl rfl (by omega) (by omega) rfl) rfl ?_)
    refine TO_cons rfl (TOp_pure (by first | exact pur_fa_q fld52_0 rfl rfl | exact pur_fa_b fld52_0 rfl rfl | exact pur_fa_e fld52_0 rfl rfl) rfl ?_)
    refine TO_cons rfl (TOp_pure (by first | exact pur_ld_b one3 rfl rfl rfl rfl | exact pur_ld_flat rfl _ 0 len_edge one3 rfl rfl (by omega) rfl | exact pur_ld_q one3 rfl rfl rfl | exact pur_ld_e one3 rfl rfl rfl rfl) rfl ?_)
    refine TO_cons rfl (TOp_callV (call_static ent53 rfl) (spec_l7Has _ _ (by first | assumption | omega | (simp_all; done) | (simp_all; omega))) rfl rfl rfl ?_)
    refine TO_cons rfl (TOp_pure (pur_move rfl) rfl ?_)
    refine TO_split 19 rfl (fun g2 => ?_) (fun g2 => ?_)
    · try simp only [decide_eq_true_eq, decide_eq_false_iff_not, Bool.not_eq_true', Bool.not_eq_false', Int.not_lt, Int.not_le, Int.ofNat_lt, Int.ofNat_le, Int.ofNat_inj, ne_eq, Decidable.not_not] at g2
      refine TO_on rfl rfl (by decide) rfl rfl (TOp_pure (pur_move rfl) rfl ?_)
      refine TO_on rfl rfl (by decide) rfl rfl (TOp_pure (pur_move rfl) rfl ?_)
      refine TO_on rfl rfl (by decide) rfl rfl (TOp_pure (pur_move rfl) rfl ?_)
      refine TO_on rfl rfl (by decide) rfl rfl (TOp_pure (by first | exact pur_ixN sl25 rfl rfl (by omega) rfl | exact pur_ixN_m sl25 rfl rfl (by omega) rfl | exact pur_ix sl25 rfl rfl (by omega) (by omega) rfl | exact pur_ix_m sl25 rfl rfl (by omega) (by omega) rfl) rfl ?_)
      refine TO_on rfl rfl (by decide) rfl rfl (TOp_pure (by first | exact pur_fa_q fld52_1 rfl rfl | exact pur_fa_b fld52_1 rfl rfl | exact pur_fa_e fld52_1 rfl rfl) rfl ?_)
      refine TO_on rfl rfl (by decide) rfl rfl (TOp_pure (by first | exact pur_ld_b one3 rfl rfl rfl rfl | exact pur_ld_flat rfl _ 1 len_edge one3 rfl rfl (by omega) rfl | exact pur_ld_q one3 rfl rfl rfl | exact pur_ld_e one3 rfl rfl rfl rfl) rfl ?_)
      refine TO_on rfl rfl (by decide) rfl rfl (TOp_callV (call_static ent53 rfl) (spec_l7Has _ _ (by first | assumption | omega | (simp_all; done) | (simp_all; omega))) rfl rfl rfl ?_)
      refine TO_cons rfl (TOp_pure (pur_pick rfl rfl rfl) rfl ?_)
      refine TO_nil ?_
      refine T_keep [0, 1, 5, 27] ?_
      simp only [pick, List.map, lk, put, val, constA, entry, cellsOf, cellVal, cellVals, List.drop, List.take, List.append_assoc, List.nil_append, List.cons_append, List.singleton_append, List.length_cons, List.length_nil, List.set_cons_zero, List.set_cons_succ, setRow, setSub, spl, Root.under, List.getElem?_cons_zero, List.getElem?_cons_succ, List.map_cons, List.map_nil, reduceIte, Nat.reduceEqDiff, Nat.reduceAdd, Nat.reduceSub, Int.toNat_natCast, Nat.succ_ne_zero, Nat.zero_ne_one, Nat.one_ne_zero]
      refine T_cond rfl (fun c3 => ?_) (fun c3 => ?_)
      · try simp only [decide_eq_true_eq, decide_eq_false_iff_not, Bool.not_eq_true', Bool.not_eq_false', Int.not_lt, Int.not_le, Int.ofNat_lt, Int.ofNat_le, Int.ofNat_inj, ne_eq, Decidable.not_not] at c3
        refine T_seq ?_
        refine T_region ?_
        refine TO_cons rfl (TOp_pure (pur_assign rfl) rfl ?_)
        refine TO_nil ?_
        refine T_keep [4] ?_
        simp only [pick, List.map, lk, put, val, constA, entry, cellsOf, cellVal, cellVals, List.drop, List.take, List.append_assoc, List.nil_append, List.cons_append, List.singleton_append, List.length_cons, List.length_nil, List.set_cons_zero, List.set_cons_succ, setRow, setSub, spl, Root.under, List.getElem?_cons_zero, List.getElem?_cons_succ, List.map_cons, List.map_nil, reduceIte, Nat.reduceEqDiff, Nat.reduceAdd, Nat.reduceSub, Int.toNat_natCast, Nat.succ_ne_zero, Nat.zero_ne_one, Nat.one_ne_zero]
        refine T_ret ?_
        refine block_ret ?_
        refine then_ret ?_
        refine then_ret ?_
        refine block_ret ?_
        refine then_ret ?_
        refine end_ret (.tmp .nil) rfl rfl ⟨?_, rfl⟩
        simp only [resA, lk, reduceIte, Nat.reduceEqDiff]
        refine congrArg boolA ?_
        unfold indB
        first | exact (congrArg not (any_hit (i := i) (by omega) (by simp_all))).symm | exact (congrArg not (any_miss (fun j hj => hall j (by omega)))).symm
      · try simp only [decide_eq_true_eq, decide_eq_false_iff_not, Bool.not_eq_true', Bool.not_eq_false', Int.not_lt, Int.not_le, Int.ofNat_lt, Int.ofNat_le, Int.ofNat_inj, ne_eq, Decidable.not_not] at c3
        refine T_skip ?_
        refine T_region ?_
        refine TO_cons rfl (TOp_pure (pur_move rfl) rfl ?_)
        refine TO_cons rfl (TOp_pure (pur_add rfl rfl rfl (fits64 (by omega) (by omega))) rfl ?_)
        refine TO_cons rfl (TOp_pure (pur_assign rfl) rfl ?_)
        refine TO_nil ?_
        refine again0 (E' := [(0, edgesI es), (1, .i 1 (ints s)), (5, natA (i + 1))]) (σ' := []) _ ?_ (Weak.to0 rfl ⟨rfl, rfl, rfl, trivial⟩) ⟨(i + 1), ?_, ?_, rfl, rfl, rfl⟩
        · omega
        · omega
        · exact all_succ hall (by simp_all)
    · try simp only [decide_eq_true_eq, decide_eq_false_iff_not, Bool.not_eq_true', Bool.not_eq_false', Int.not_lt, Int.not_le, Int.ofNat_lt, Int.ofNat_le, Int.ofNat_inj, ne_eq, Decidable.not_not] at g2
      refine TO_off rfl rfl (by decide) rfl rfl rfl ?_
      refine TO_off rfl rfl (by decide) rfl rfl rfl ?_
      refine TO_off rfl rfl (by decide) rfl rfl rfl ?_
      refine TO_off rfl rfl (by decide) rfl rfl rfl ?_
      refine TO_off rfl rfl (by decide) rfl rfl rfl ?_
      refine TO_off rfl rfl (by decide) rfl rfl rfl ?_
      refine TO_off rfl rfl (by decide) rfl rfl rfl ?_
      refine TO_cons rfl (TOp_pure (pur_pick rfl rfl rfl) rfl ?_)
      refine TO_nil ?_
      refine T_keep [0, 1, 5, 27] ?_
      simp only [pick, List.map, lk, put, val, constA, entry, cellsOf, cellVal, cellVals, List.drop, List.take, List.append_assoc, List.nil_append, List.cons_append, List.singleton_append, List.length_cons, List.length_nil, List.set_cons_zero, List.set_cons_succ, setRow, setSub, spl, Root.under, List.getElem?_cons_zero, List.getElem?_cons_succ, List.map_cons, List.map_nil, reduceIte, Nat.reduceEqDiff, Nat.reduceAdd, Nat.reduceSub, Int.toNat_natCast, Nat.succ_ne_zero, Nat.zero_ne_one, Nat.one_ne_zero]
      refine T_cond (t := false) rfl (fun h => nomatch h) (fun _ => ?_)
      refine T_skip ?_
      refine T_region ?_
      refine TO_cons rfl (TOp_pure (pur_move rfl) rfl ?_)
      refine TO_cons rfl (TOp_pure (pur_add rfl rfl rfl (fits64 (by omega) (by omega))) rfl ?_)
      refine TO_cons rfl (TOp_pure (pur_assign rfl) rfl ?_)
      refine TO_nil ?_
      refine again0 (E' := [(0, edgesI es), (1, .i 1 (ints s)), (5, natA (i + 1))]) (σ' := []) _ ?_ (Weak.to0 rfl ⟨rfl, rfl, rfl, trivial⟩) ⟨(i + 1), ?_, ?_, rfl, rfl, rfl⟩
      · omega
      · omega
      · exact all_succ hall (by simp_all)
  · try simp only [decide_eq_true_eq, decide_eq_false_iff_not, Bool.not_eq_true', Bool.not_eq_false', Int.not_lt, Int.not_le, Int.ofNat_lt, Int.ofNat_le, Int.ofNat_inj, ne_eq, Decidable.not_not] at c1
    refine T_exit ?_
    refine then_exit ?_
    refine then_exit ?_
    refine block_exit ?_
    refine T_seq ?_
    refine T_region ?_
    refine TO_cons rfl (TOp_pure (pur_assign rfl) rfl ?_)
    refine TO_nil ?_
    refine T_keep [4] ?_
    simp only [pick, List.map, lk, put, val, constA, entry, cellsOf, cellVal, cellVals, List.drop, List.take, List.append_assoc, List.nil_append, List.cons_append, List.singleton_append, List.length_cons, List.length_nil, List.set_cons_zero, List.set_cons_succ, setRow, setSub, spl, Root.under, List.getElem?_cons_zero, List.getElem?_cons_succ, List.map_cons, List.map_nil, reduceIte, Nat.reduceEqDiff, Nat.reduceAdd, Nat.reduceSub, Int.toNat_natCast, Nat.succ_ne_zero, Nat.zero_ne_one, Nat.one_ne_zero]
    refine T_ret ?_
    refine end_ret (.tmp .nil) rfl rfl ⟨?_, rfl⟩
    simp only [resA, lk, reduceIte, Nat.reduceEqDiff]
    refine congrArg boolA ?_
    unfold indB
    first | exact (congrArg not (any_hit (i := i) (by omega) (by simp_all))).symm | exact (congrArg not (any_miss (fun j hj => hall j (by omega)))).symm

/-- impl.ConflictEdge] -/
theorem IndexFunc_edge (xs : List (Int × Int)) (g : Nat) (caps : List A) (q : Int × Int → Bool) (hx : xs.length ≤ 9223372036854775807) (he : EnT prg g) (hc : looseL caps = true) (hq : ∀ x, FnV prg g (.g (edge x) :: caps) (boolA (q x))) : FnV prg 97 [edgesI xs, .f g caps] (intA (idxP xs q)) := by
  refine fnV_of_T Try.func97 rfl rfl (Nat.le_of_ble_eq_true rfl) ?_
  simp only [entry, Nat.reduceAdd]
  refine T_seq ?_
  refine T_region ?_
  refine TO_cons rfl (TOp_pure (pur_assign rfl) rfl ?_)
  refine TO_nil ?_
  refine T_keep [0, 1] ?_
  simp only [pick, List.map, lk, put, val, constA, entry, cellsOf, cellVal, cellVals, List.drop, List.take, List.append_assoc, List.nil_append, List.cons_append, List.singleton_append, List.length_cons, List.length_nil, List.set_cons_zero, List.set_cons_succ, setRow, setSub, spl, Root.under, List.getElem?_cons_zero, List.getElem?_cons_succ, List.map_cons, List.map_nil, reduceIte, Nat.reduceEqDiff, Nat.reduceAdd, Nat.reduceSub, Int.toNat_natCast, Nat.succ_ne_zero, Nat.zero_ne_one, Nat.one_ne_zero]
  refine T_seq ?_
  refine T_seq ?_
  refine T_region ?_
  refine TO_cons rfl (TOp_pure (pur_move rfl) rfl ?_)
  refine TO_cons rfl (TOp_pure (by first | exact pur_len sl25 rfl (by decide) rfl | exact pur_len_m sl25 rfl rfl | exact pur_len_n sl25 rfl rfl) rfl ?_)
  refine TO_cons rfl (TOp_pure (pur_move rfl) rfl ?_)
  refine TO_nil ?_
  refine T_keep [0, 1, 7, 8] ?_
  simp only [pick, List.map, lk, put, val, constA, entry, cellsOf, cellVal, cellVals, List.drop, List.take, List.append_assoc, List.nil_append, List.cons_append, List.singleton_append, List.length_cons, List.length_nil, List.set_cons_zero, List.set_cons_succ, setRow, setSub, spl, Root.under, List.getElem?_cons_zero, List.getElem?_cons_succ, List.map_cons, List.map_nil, reduceIte, Nat.reduceEqDiff, Nat.reduceAdd, Nat.reduceSub, Int.toNat_natCast, Nat.succ_ne_zero, Nat.zero_ne_one, Nat.one_ne_zero]
  refine T_block ?_
  refine T_loop (fun k E σ => ∃ (i : Nat), (i ≤ xs.length) ∧ (∀ j, j < i → q (xs.getD j default) = false) ∧ k = xs.length - i ∧ E = [(0, edgesI xs), (1, .f g caps), (7, natA xs.length), (8, natA i)] ∧ σ = []) _ (E0 := [(0, edgesI xs), (1, .f g caps), (7, natA xs.length), (8, natA (0))]) (σ0 := []) (Weak.to 0 (by decide) rfl (by simp only [namesE, A.names, Bool.false_or, Bool.or_false, looseL_names hc]) rfl ⟨rfl, rfl, rfl, rfl, trivial⟩) ⟨(0), ?_, ?_, rfl, rfl, rfl⟩ ?_
  · (first | omega | (simp_all; done) | (simp_all; omega))
  · (first | omega | (simp_all; done) | (simp_all; omega))
  rintro k E σ ⟨i, hi, hall, rfl, rfl, rfl⟩
  refine T_seq ?_
  refine T_region ?_
  refine TO_cons rfl (TOp_pure (pur_lss rfl rfl rfl) rfl ?_)
  refine TO_nil ?_
  refine T_keep [0, 1, 7, 8, 9] ?_
  simp only [pick, List.map, lk, put, val, constA, entry, cellsOf, cellVal, cellVals, List.drop, List.take, List.append_assoc, List.nil_append, List.cons_append, List.singleton_append, List.length_cons, List.length_nil, List.set_cons_zero, List.set_cons_succ, setRow, setSub, spl, Root.under, List.getElem?_cons_zero, List.getElem?_cons_succ, List.map_cons, List.map_nil, reduceIte, Nat.reduceEqDiff, Nat.reduceAdd, Nat.reduceSub, Int.toNat_natCast, Nat.succ_ne_zero, Nat.zero_ne_one, Nat.one_ne_zero]
  refine T_seq ?_
  refine T_cond rfl (fun c1 => ?_) (fun c1 => ?_)
  · try simp only [decide_eq_true_eq, decide_eq_false_iff_not, Bool.not_eq_true', Bool.not_eq_false', Int.not_lt, Int.not_le, Int.ofNat_lt, Int.ofNat_le, Int.ofNat_inj, ne_eq, Decidable.not_not] at c1
    refine T_skip ?_
    refine T_seq ?_
    refine T_block ?_
    refine T_seq ?_
    refine T_region ?_
    refine TO_cons rfl (TOp_pure (pur_move rfl) rfl ?_)
    refine TO_cons rfl (TOp_pure (pur_assign rfl) rfl ?_)
    refine TO_nil ?_
    refine T_keep [0, 1, 5, 7, 8] ?_
    simp only [pick, List.map, lk, put, val, constA, entry, cellsOf, cellVal, cellVals, List.drop, List.take, List.append_assoc, List.nil_append, List.cons_append, List.singleton_append, List.length_cons, List.length_nil, List.set_cons_zero, List.set_cons_succ, setRow, setSub, spl, Root.under, List.getElem?_cons_zero, List.getElem?_cons_succ, List.map_cons, List.map_nil, reduceIte, Nat.reduceEqDiff, Nat.reduceAdd, Nat.reduceSub, Int.toNat_natCast, Nat.succ_ne_zero, Nat.zero_ne_one, Nat.one_ne_zero]
    refine T_seq ?_
    refine T_region ?_
    refine TO_cons rfl (TOp_pure (pur_move rfl) rfl ?_)
    refine TO_cons rfl (TOp_pure (pur_move rfl) rfl ?_)
    refine TO_cons rfl (TOp_pure (pur_move rfl) rfl ?_)
    refine TO_cons rfl (TOp_pure (by first | exact pur_ixN sl25 rfl rfl (by omega) rfl | exact pur_ixN_m sl25 rfl rfl (by omega) rfl | exact pur_ix sl25 rfl rfl (by omega) (by omega) rfl | exact pur_ix_m sl25 rfl rfl (by omega) (by omega) rfl) rfl ?_)
    refine TO_cons rfl (TOp_pure (by first | exact pur_ldK_b agg52 rfl rfl (Nat.le_of_ble_eq_true rfl) rfl | exact pur_ldK_flat rfl _ len_edge agg52 rfl rfl (by omega)) rfl ?_)
    refine TO_cons rfl (TOp_callV (call_closure he rfl rfl) (hq _) (by first | rfl | exact looseL_app rfl hc) rfl rfl ?_)
    refine TO_nil ?_
    refine T_keep [0, 1, 5, 7, 8, 16] ?_
    simp only [pick, List.map, lk, put, val, constA, entry, cellsOf, cellVal, cellVals, List.drop, List.take, List.append_assoc, List.nil_append, List.cons_append, List.singleton_append, List.length_cons, List.length_nil, List.set_cons_zero, List.set_cons_succ, setRow, setSub, spl, Root.under, List.getElem?_cons_zero, List.getElem?_cons_succ, List.map_cons, List.map_nil, reduceIte, Nat.reduceEqDiff, Nat.reduceAdd, Nat.reduceSub, Int.toNat_natCast, Nat.succ_ne_zero, Nat.zero_ne_one, Nat.one_ne_zero]
    refine T_cond rfl (fun c2 => ?_) (fun c2 => ?_)
    · try simp only [decide_eq_true_eq, decide_eq_false_iff_not, Bool.not_eq_true', Bool.not_eq_false', Int.not_lt, Int.not_le, Int.ofNat_lt, Int.ofNat_le, Int.ofNat_inj, ne_eq, Decidable.not_not] at c2
      refine T_seq ?_
      refine T_region ?_
      refine TO_cons rfl (TOp_pure (pur_move rfl) rfl ?_)
      refine TO_cons rfl (TOp_pure (pur_assign rfl) rfl ?_)
      refine TO_nil ?_
      refine T_keep [4] ?_
      simp only [pick, List.map, lk, put, val, constA, entry, cellsOf, cellVal, cellVals, List.drop, List.take, List.append_assoc, List.nil_append, List.cons_append, List.singleton_append, List.length_cons, List.length_nil, List.set_cons_zero, List.set_cons_succ, setRow, setSub, spl, Root.under, List.getElem?_cons_zero, List.getElem?_cons_succ, List.map_cons, List.map_nil, reduceIte, Nat.reduceEqDiff, Nat.reduceAdd, Nat.reduceSub, Int.toNat_natCast, Nat.succ_ne_zero, Nat.zero_ne_one, Nat.one_ne_zero]
      refine T_ret ?_
      refine block_ret ?_
      refine then_ret ?_
      refine then_ret ?_
      refine block_ret ?_
      refine then_ret ?_
      refine end_ret (.tmp .nil) rfl rfl ⟨?_, rfl⟩
      simp only [resA, lk, reduceIte, Nat.reduceEqDiff]
      first | (rw [idxP_hit xs q default i (by omega) (by assumption) hall]) | (rw [idxP_miss xs q default (fun j hj => hall j (by omega))])
    · try simp only [decide_eq_true_eq, decide_eq_false_iff_not, Bool.not_eq_true', Bool.not_eq_false', Int.not_lt, Int.not_le, Int.ofNat_lt, Int.ofNat_le, Int.ofNat_inj, ne_eq, Decidable.not_not] at c2
      refine T_skip ?_
      refine T_region ?_
      refine TO_cons rfl (TOp_pure (pur_add rfl rfl rfl (fits64 (by omega) (by omega))) rfl ?_)
      refine TO_cons rfl (TOp_pure (pur_move rfl) rfl ?_)
      refine TO_nil ?_
      refine again0 (E' := [(0, edgesI xs), (1, .f g caps), (7, natA xs.length), (8, natA (i + 1))]) (σ' := []) _ ?_ (Weak.to 0 (by decide) rfl (by simp only [namesE, A.names, Bool.false_or, Bool.or_false, looseL_names hc]) rfl ⟨rfl, rfl, rfl, rfl, trivial⟩) ⟨(i + 1), ?_, ?_, rfl, rfl, rfl⟩
      · omega
      · omega
      · exact all_succ hall (by assumption)
  · try simp only [decide_eq_true_eq, decide_eq_false_iff_not, Bool.not_eq_true', Bool.not_eq_false', Int.not_lt, Int.not_le, Int.ofNat_lt, Int.ofNat_le, Int.ofNat_inj, ne_eq, Decidable.not_not] at c1
    refine T_exit ?_
    refine then_exit ?_
    refine then_exit ?_
    refine block_exit ?_
    refine T_seq ?_
    refine T_region ?_
    refine TO_cons rfl (TOp_pure (pur_assign rfl) rfl ?_)
    refine TO_nil ?_
    refine T_keep [4] ?_
    simp only [pick, List.map, lk, put, val, constA, entry, cellsOf, cellVal, cellVals, List.drop, List.take, List.append_assoc, List.nil_append, List.cons_append, List.singleton_append, List.length_cons, List.length_nil, List.set_cons_zero, List.set_cons_succ, setRow, setSub, spl, Root.under, List.getElem?_cons_zero, List.getElem?_cons_succ, List.map_cons, List.map_nil, reduceIte, Nat.reduceEqDiff, Nat.reduceAdd, Nat.reduceSub, Int.toNat_natCast, Nat.succ_ne_zero, Nat.zero_ne_one, Nat.one_ne_zero]
    refine T_ret ?_
    refine end_ret (.tmp .nil) rfl rfl ⟨?_, rfl⟩
    simp only [resA, lk, reduceIte, Nat.reduceEqDiff]
    first | (rw [idxP_hit xs q default i (by omega) (by assumption) hall]) | (rw [idxP_miss xs q default (fun j hj => hall j (by omega))])

/-- impl.ConflictEdge] -/
theorem ContainsFunc_edge (xs : List (Int × Int)) (g : Nat) (caps : List A) (q : Int × Int → Bool) (hx : xs.length ≤ 9223372036854775807) (he : EnT prg g) (hc : looseL caps = true) (hq : ∀ x, FnV prg g (.g (edge x) :: caps) (boolA (q x))) : FnV prg 88 [edgesI xs, .f g caps] (boolA (xs.any q)) := by
  refine fnV_of_T Try.func88 rfl rfl (Nat.le_of_ble_eq_true rfl) ?_
  simp only [entry, Nat.reduceAdd]
  refine T_seq ?_
  refine T_region ?_
  refine TO_cons rfl (TOp_pure (pur_assign rfl) rfl ?_)
  refine TO_nil ?_
  refine T_keep [0, 1] ?_
  simp only [pick, List.map, lk, put, val, constA, entry, cellsOf, cellVal, cellVals, List.drop, List.take, List.append_assoc, List.nil_append, List.cons_append, List.singleton_append, List.length_cons, List.length_nil, List.set_cons_zero, List.set_cons_succ, setRow, setSub, spl, Root.under, List.getElem?_cons_zero, List.getElem?_cons_succ, List.map_cons, List.map_nil, reduceIte, Nat.reduceEqDiff, Nat.reduceAdd, Nat.reduceSub, Int.toNat_natCast, Nat.succ_ne_zero, Nat.zero_ne_one, Nat.one_ne_zero]
  refine T_seq ?_
  refine T_region ?_
  refine TO_cons rfl (TOp_pure (pur_move rfl) rfl ?_)
  refine TO_cons rfl (TOp_pure (pur_move rfl) rfl ?_)
  refine TO_cons rfl (TOp_callV (call_static ent97 rfl) (IndexFunc_edge _ _ _ q (by omega) he hc hq) (by simp only [List.map, val, put, lk, looseL, A.loose, reduceIte, Nat.reduceEqDiff, Bool.true_and, Bool.and_true]; exact hc) rfl rfl ?_)
  refine TO_cons rfl (TOp_pure (pur_geq rfl rfl rfl) rfl ?_)
  refine TO_cons rfl (TOp_pure (pur_assign rfl) rfl ?_)
  refine TO_nil ?_
  refine T_keep [4] ?_
  simp only [pick, List.map, lk, put, val, constA, entry, cellsOf, cellVal, cellVals, List.drop, List.take, List.append_assoc, List.nil_append, List.cons_append, List.singleton_append, List.length_cons, List.length_nil, List.set_cons_zero, List.set_cons_succ, setRow, setSub, spl, Root.under, List.getElem?_cons_zero, List.getElem?_cons_succ, List.map_cons, List.map_nil, reduceIte, Nat.reduceEqDiff, Nat.reduceAdd, Nat.reduceSub, Int.toNat_natCast, Nat.succ_ne_zero, Nat.zero_ne_one, Nat.one_ne_zero]
  refine T_ret ?_
  refine end_ret (.tmp .nil) rfl rfl ⟨?_, rfl⟩
  simp only [resA, lk, reduceIte, Nat.reduceEqDiff]
  exact congrArg boolA (idxP_nonneg xs q)

/-- impl.IsIndependent$1 -/
theorem impl_IsIndependent_1 (e : Int × Int) (s : List Int) (hs : s.length ≤ 2097152) : FnV prg 89 [.g (edge e), .q [.i 1 (ints s)] 0] (boolA (decide (e.1 ∈ s) && decide (e.2 ∈ s))) := by
  refine fnV_of_T Try.func89 rfl rfl (Nat.le_of_ble_eq_true rfl) ?_
  simp only [entry, Nat.reduceAdd]
  refine T_seq ?_
  refine T_region ?_
  refine TO_cons rfl (TOp_box rfl (boxAll rfl) rfl rfl ?_)
  refine TO_cons rfl (TOp_pure (pur_assign rfl) rfl ?_)
  refine TO_nil ?_
  refine T_keep [1, 2] ?_
  simp only [pick, List.map, lk, put, val, constA, entry, cellsOf, cellVal, cellVals, List.drop, List.take, List.append_assoc, List.nil_append, List.cons_append, List.singleton_append, List.length_cons, List.length_nil, List.set_cons_zero, List.set_cons_succ, setRow, setSub, spl, Root.under, List.getElem?_cons_zero, List.getElem?_cons_succ, List.map_cons, List.map_nil, reduceIte, Nat.reduceEqDiff, Nat.reduceAdd, Nat.reduceSub, Int.toNat_natCast, Nat.succ_ne_zero, Nat.zero_ne_one, Nat.one_ne_zero]
  refine T_seq ?_
  refine T_region ?_
  refine TO_cons rfl (TOp_pure (by first | exact pur_ld_b one31 rfl rfl rfl rfl | exact pur_ld_rows rfl one31 rfl rfl (by omega) | exact pur_ld_q one31 rfl rfl rfl | exact pur_ld_e one31 rfl rfl rfl rfl) rfl ?_)
  refine TO_cons rfl (TOp_pure (by first | exact pur_fa_q fld52_0 rfl rfl | exact pur_fa_b fld52_0 rfl rfl | exact pur_fa_e fld52_0 rfl rfl) rfl ?_)
  refine TO_cons rfl (TOp_pure (by first | exact pur_ld_b one3 rfl rfl rfl rfl | exact pur_ld_flat rfl _ 0 len_edge one3 rfl rfl (by omega) rfl | exact pur_ld_q one3 rfl rfl rfl | exact pur_ld_e one3 rfl rfl rfl rfl) rfl ?_)
  refine TO_cons rfl (TOp_callV (call_static ent54 rfl) (Contains_int _ _ (by first | assumption | omega | (simp_all; done) | (simp_all; omega))) rfl rfl rfl ?_)
  refine TO_cons rfl (TOp_pure (pur_move rfl) rfl ?_)
  refine TO_split 8 rfl (fun g1 => ?_) (fun g1 => ?_)
  · try simp only [decide_eq_true_eq, decide_eq_false_iff_not, Bool.not_eq_true', Bool.not_eq_false', Int.not_lt, Int.not_le, Int.ofNat_lt, Int.ofNat_le, Int.ofNat_inj, ne_eq, Decidable.not_not] at g1
    refine TO_on rfl rfl (by decide) rfl rfl (TOp_pure (by first | exact pur_ld_b one31 rfl rfl rfl rfl | exact pur_ld_rows rfl one31 rfl rfl (by omega) | exact pur_ld_q one31 rfl rfl rfl | exact pur_ld_e one31 rfl rfl rfl rfl) rfl ?_)
    refine TO_on rfl rfl (by decide) rfl rfl (TOp_pure (by first | exact pur_fa_q fld52_1 rfl rfl | exact pur_fa_b fld52_1 rfl rfl | exact pur_fa_e fld52_1 rfl rfl) rfl ?_)
    refine TO_on rfl rfl (by decide) rfl rfl (TOp_pure (by first | exact pur_ld_b one3 rfl rfl rfl rfl | exact pur_ld_flat rfl _ 1 len_edge one3 rfl rfl (by omega) rfl | exact pur_ld_q one3 rfl rfl rfl | exact pur_ld_e one3 rfl rfl rfl rfl) rfl ?_)
    refine TO_on rfl rfl (by decide) rfl rfl (TOp_callV (call_static ent54 rfl) (Contains_int _ _ (by first | assumption | omega | (simp_all; done) | (simp_all; omega))) rfl rfl rfl ?_)
    refine TO_cons rfl (TOp_pure (pur_pick rfl rfl rfl) rfl ?_)
    refine TO_cons rfl (TOp_pure (pur_assign rfl) rfl ?_)
    refine TO_nil ?_
    refine T_keep [3] ?_
    simp only [pick, List.map, lk, put, val, constA, entry, cellsOf, cellVal, cellVals, List.drop, List.take, List.append_assoc, List.nil_append, List.cons_append, List.singleton_append, List.length_cons, List.length_nil, List.set_cons_zero, List.set_cons_succ, setRow, setSub, spl, Root.under, List.getElem?_cons_zero, List.getElem?_cons_succ, List.map_cons, List.map_nil, reduceIte, Nat.reduceEqDiff, Nat.reduceAdd, Nat.reduceSub, Int.toNat_natCast, Nat.succ_ne_zero, Nat.zero_ne_one, Nat.one_ne_zero]
    refine T_ret ?_
    refine end_ret (.tmp .nil) rfl rfl ⟨?_, rfl⟩
    simp only [resA, lk, reduceIte, Nat.reduceEqDiff]
    first | rfl | (refine congrArg boolA ?_; simp_all; done)
  · try simp only [decide_eq_true_eq, decide_eq_false_iff_not, Bool.not_eq_true', Bool.not_eq_false', Int.not_lt, Int.not_le, Int.ofNat_lt, Int.ofNat_le, Int.ofNat_inj, ne_eq, Decidable.not_not] at g1
    refine TO_off rfl rfl (by decide) rfl rfl rfl ?_
    refine TO_off rfl rfl (by decide) rfl rfl rfl ?_
    refine TO_off rfl rfl (by decide) rfl rfl rfl ?_
    refine TO_off rfl rfl (by decide) rfl rfl rfl ?_
    refine TO_cons rfl (TOp_pure (pur_pick rfl rfl rfl) rfl ?_)
    refine TO_cons rfl (TOp_pure (pur_assign rfl) rfl ?_)
    refine TO_nil ?_
    refine T_keep [3] ?_
    simp only [pick, List.map, lk, put, val, constA, entry, cellsOf, cellVal, cellVals, List.drop, List.take, List.append_assoc, List.nil_append, List.cons_append, List.singleton_append, List.length_cons, List.length_nil, List.set_cons_zero, List.set_cons_succ, setRow, setSub, spl, Root.under, List.getElem?_cons_zero, List.getElem?_cons_succ, List.map_cons, List.map_nil, reduceIte, Nat.reduceEqDiff, Nat.reduceAdd, Nat.reduceSub, Int.toNat_natCast, Nat.succ_ne_zero, Nat.zero_ne_one, Nat.one_ne_zero]
    refine T_ret ?_
    refine end_ret (.tmp .nil) rfl rfl ⟨?_, rfl⟩
    simp only [resA, lk, reduceIte, Nat.reduceEqDiff]
    first | rfl | (refine congrArg boolA ?_; simp_all; done)

/-- impl.IsIndependent -/
theorem impl_IsIndependent (es : List (Int × Int)) (s : List Int) (he : es.length ≤ 1048576) (hs : s.length ≤ 2097152) : FnV prg 67 [edgesI es, .i 1 (ints s)] (boolA (indB es s)) := by
  refine fnV_of_T Try.func67 rfl rfl (Nat.le_of_ble_eq_true rfl) ?_
  simp only [entry, Nat.reduceAdd]
  refine T_seq ?_
  refine T_region ?_
  refine TO_cons rfl (TOp_box rfl (boxAll rfl) rfl rfl ?_)
  refine TO_cons rfl (TOp_pure (pur_assign rfl) rfl ?_)
  refine TO_nil ?_
  refine T_keep [0, 3] ?_
  simp only [pick, List.map, lk, put, val, constA, entry, cellsOf, cellVal, cellVals, List.drop, List.take, List.append_assoc, List.nil_append, List.cons_append, List.singleton_append, List.length_cons, List.length_nil, List.set_cons_zero, List.set_cons_succ, setRow, setSub, spl, Root.under, List.getElem?_cons_zero, List.getElem?_cons_succ, List.map_cons, List.map_nil, reduceIte, Nat.reduceEqDiff, Nat.reduceAdd, Nat.reduceSub, Int.toNat_natCast, Nat.succ_ne_zero, Nat.zero_ne_one, Nat.one_ne_zero]
  refine T_seq ?_
  refine T_region ?_
  refine TO_cons rfl (TOp_pure (pur_move rfl) rfl ?_)
  refine TO_cons rfl (TOp_pure (pur_makeFunc rfl) rfl ?_)
  refine TO_cons rfl (TOp_callB (call_static ent88 rfl) (frzOKL_cons (by first | exact trivial | exact (frz_ints rfl).1 | exact (frz_edges rfl).1 | exact (frz_rows rfl).1 | exact (frz_intsN rfl (by simp <;> omega)).1 | (refine frzOKL_cons ?_ ?_ <;> exact ⟨_, rfl, rfl⟩) | exact ⟨⟨_, rfl, rfl⟩, ⟨_, rfl, rfl⟩, trivial⟩ | exact ⟨⟨_, rfl, rfl⟩, trivial⟩ | exact ⟨_, rfl, rfl⟩) (frzOKL_cons (by first | exact trivial | exact (frz_ints rfl).1 | exact (frz_edges rfl).1 | exact (frz_rows rfl).1 | exact (frz_intsN rfl (by simp <;> omega)).1 | (refine frzOKL_cons ?_ ?_ <;> exact ⟨_, rfl, rfl⟩) | exact ⟨⟨_, rfl, rfl⟩, ⟨_, rfl, rfl⟩, trivial⟩ | exact ⟨⟨_, rfl, rfl⟩, trivial⟩ | exact ⟨_, rfl, rfl⟩) frzOKL_nil)) (fzRL_cons (by first | rfl | exact (frz_ints rfl).2 | exact (frz_edges rfl).2 | exact (frz_rows rfl).2 | exact (frz_intsN rfl (by simp <;> omega)).2 ) (fzRL_cons (by first | rfl | exact (frz_ints rfl).2 | exact (frz_edges rfl).2 | exact (frz_rows rfl).2 | exact (frz_intsN rfl (by simp <;> omega)).2 ) rfl)) (ContainsFunc_edge es 89 [.q [.i 1 (ints s)] 0] (fun e => decide (e.1 ∈ s) && decide (e.2 ∈ s)) (by omega) ent89 rfl (fun e => impl_IsIndependent_1 e s hs)) rfl ?_)
  refine TO_cons rfl (TOp_pure (pur_not rfl rfl) rfl ?_)
  refine TO_cons rfl (TOp_pure (pur_assign rfl) rfl ?_)
  refine TO_nil ?_
  refine T_keep [4] ?_
  simp only [pick, List.map, lk, put, val, constA, entry, cellsOf, cellVal, cellVals, List.drop, List.take, List.append_assoc, List.nil_append, List.cons_append, List.singleton_append, List.length_cons, List.length_nil, List.set_cons_zero, List.set_cons_succ, setRow, setSub, spl, Root.under, List.getElem?_cons_zero, List.getElem?_cons_succ, List.map_cons, List.map_nil, reduceIte, Nat.reduceEqDiff, Nat.reduceAdd, Nat.reduceSub, Int.toNat_natCast, Nat.succ_ne_zero, Nat.zero_ne_one, Nat.one_ne_zero]
  refine T_ret ?_
  refine end_ret (.tmp .nil) rfl rfl ⟨?_, rfl⟩
  first | rfl | (simp only [resA, lk, reduceIte, Nat.reduceEqDiff]; first | rfl | (simp_all; done) | (simp_all; omega))

/-- spec.l8Fits -/
theorem spec_l8Fits (es : List (Int × Int)) (s : List Int) (x : Int) (he : es.length ≤ 1048576) (hs : s.length ≤ 1048576) : FnV prg 81 [edgesI es, .i 1 (ints s), intA x] (boolA (fits es s x)) := by
  refine fnV_of_T Try.func81 rfl rfl (Nat.le_of_ble_eq_true rfl) ?_
  simp only [entry, Nat.reduceAdd]
  refine T_seq ?_
  refine T_region ?_
  refine TO_cons rfl (TOp_pure (pur_assign rfl) rfl ?_)
  refine TO_nil ?_
  refine T_keep [0, 1, 2] ?_
  simp only [pick, List.map, lk, put, val, constA, entry, cellsOf, cellVal, cellVals, List.drop, List.take, List.append_assoc, List.nil_append, List.cons_append, List.singleton_append, List.length_cons, List.length_nil, List.set_cons_zero, List.set_cons_succ, setRow, setSub, spl, Root.under, List.getElem?_cons_zero, List.getElem?_cons_succ, List.map_cons, List.map_nil, reduceIte, Nat.reduceEqDiff, Nat.reduceAdd, Nat.reduceSub, Int.toNat_natCast, Nat.succ_ne_zero, Nat.zero_ne_one, Nat.one_ne_zero, mvE, mvA, mvR, mvH, mvS, A.names, namesL, A.ren, renL, rh, List.headD_cons, beq_self_eq_true, Nat.reduceBEq, Bool.or_false, Bool.false_or, Bool.or_self, Bool.false_eq_true, Nat.reduceMul, List.reduceReplicate, List.take_succ_cons, List.take_zero, ints_app, ints_one, rows_one, flat_app, flat_one, List.nil_append, Nat.zero_add]
  refine T_seq ?_
  refine T_region ?_
  refine TO_cons rfl (TOp_pure (pur_move rfl) rfl ?_)
  refine TO_cons rfl (TOp_pure (pur_move rfl) rfl ?_)
  refine TO_cons rfl (TOp_callV (call_static ent53 rfl) (spec_l7Has _ _ (by first | assumption | omega | (simp_all; done) | (simp_all; omega))) rfl rfl rfl ?_)
  refine TO_cons rfl (TOp_pure (pur_not rfl rfl) rfl ?_)
  refine TO_cons rfl (TOp_pure (pur_move rfl) rfl ?_)
  refine TO_split 11 rfl (fun g1 => ?_) (fun g1 => ?_)
  · try simp only [decide_eq_true_eq, decide_eq_false_iff_not, Bool.not_eq_true', Bool.not_eq_false', Int.not_lt, Int.not_le, Int.ofNat_lt, Int.ofNat_le, Int.ofNat_inj, ne_eq, Decidable.not_not] at g1
    refine TO_on rfl rfl (by decide) rfl rfl (TOp_pure (pur_move rfl) rfl ?_)
    refine TO_on rfl rfl (by decide) rfl rfl (TOp_lit (nn := 0) (k := 1) sl31 zero3 rfl rfl rfl rfl (by decide) ?_)
    refine TO_on rfl rfl (by decide) rfl rfl (TOp_pure (pur_move rfl) rfl ?_)
    refine TO_on rfl rfl (by decide) rfl rfl (TOp_app sl31 zero3 rfl bytes3 rfl rfl rfl rfl (by first | rfl | (simp only [ints_len, rows_len, Nat.mul_one] <;> omega) | (rw [flat_len len_edge]; omega)) (by first | exact src_m rfl rfl (Nat.le_of_ble_eq_true rfl) rfl rfl rfl | exact src_ints rfl | exact src_edges rfl | exact src_rows rfl | exact src_n _ rfl) (by first | rfl | exact cells_ints _ | exact cells_edges _ | exact cells_rows _) (by omega) (by omega) (Nat.zero_le _) (by first | exact ints_one _ _ | exact ints_app _ _ | exact rows_one _ _ | exact flat_one _ _ _ | exact nil_one _ | exact List.nil_append _ | rfl) ?_)
    refine TO_on rfl rfl (by decide) rfl rfl (TOp_pure (pur_move rfl) rfl ?_)
    refine TO_on rfl rfl (by decide) rfl rfl (TOp_lit (nn := 1) (k := 1) sl31 zero3 rfl rfl rfl rfl (by decide) ?_)
    refine TO_on rfl rfl (by decide) rfl rfl (TOp_app sl31 zero3 rfl bytes3 rfl rfl rfl rfl (by first | rfl | (simp only [ints_len, rows_len, Nat.mul_one] <;> omega) | (rw [flat_len len_edge]; omega)) (by first | exact src_m rfl rfl (Nat.le_of_ble_eq_true rfl) rfl rfl rfl | exact src_ints rfl | exact src_edges rfl | exact src_rows rfl | exact src_n _ rfl) (by first | rfl | exact cells_ints _ | exact cells_edges _ | exact cells_rows _) (by omega) (by omega) (Nat.zero_le _) (by first | exact ints_one _ _ | exact ints_app _ _ | exact rows_one _ _ | exact flat_one _ _ _ | exact nil_one _ | exact List.nil_append _ | rfl) ?_)
    refine TO_on rfl rfl (by decide) rfl rfl (TOp_callB (call_static ent80 rfl) (frzOKL_cons (by first | exact trivial | exact (frz_ints rfl).1 | exact (frz_edges rfl).1 | exact (frz_rows rfl).1 | exact (frz_intsN rfl (by simp <;> omega)).1 | (refine frzOKL_cons ?_ ?_ <;> exact ⟨_, rfl, rfl⟩) | exact ⟨⟨_, rfl, rfl⟩, ⟨_, rfl, rfl⟩, trivial⟩ | exact ⟨⟨_, rfl, rfl⟩, trivial⟩ | exact ⟨_, rfl, rfl⟩) (frzOKL_cons (by first | exact trivial | exact (frz_ints rfl).1 | exact (frz_edges rfl).1 | exact (frz_rows rfl).1 | exact (frz_intsN rfl (by simp <;> omega)).1 | (refine frzOKL_cons ?_ ?_ <;> exact ⟨_, rfl, rfl⟩) | exact ⟨⟨_, rfl, rfl⟩, ⟨_, rfl, rfl⟩, trivial⟩ | exact ⟨⟨_, rfl, rfl⟩, trivial⟩ | exact ⟨_, rfl, rfl⟩) frzOKL_nil)) (fzRL_cons (by first | rfl | exact (frz_ints rfl).2 | exact (frz_edges rfl).2 | exact (frz_rows rfl).2 | exact (frz_intsN rfl (by simp <;> omega)).2 ) (fzRL_cons (by first | rfl | exact (frz_ints rfl).2 | exact (frz_edges rfl).2 | exact (frz_rows rfl).2 | exact (frz_intsN rfl (by simp <;> omega)).2 ) rfl)) (spec_IsIndependent es (s ++ [x]) he (by simp; omega)) rfl ?_)
    refine TO_cons rfl (TOp_pure (pur_pick rfl rfl rfl) rfl ?_)
    refine TO_cons rfl (TOp_pure (pur_assign rfl) rfl ?_)
    refine TO_nil ?_
    refine T_keep [6] ?_
    simp only [pick, List.map, lk, put, val, constA, entry, cellsOf, cellVal, cellVals, List.drop, List.take, List.append_assoc, List.nil_append, List.cons_append, List.singleton_append, List.length_cons, List.length_nil, List.set_cons_zero, List.set_cons_succ, setRow, setSub, spl, Root.under, List.getElem?_cons_zero, List.getElem?_cons_succ, List.map_cons, List.map_nil, reduceIte, Nat.reduceEqDiff, Nat.reduceAdd, Nat.reduceSub, Int.toNat_natCast, Nat.succ_ne_zero, Nat.zero_ne_one, Nat.one_ne_zero, mvE, mvA, mvR, mvH, mvS, A.names, namesL, A.ren, renL, rh, List.headD_cons, beq_self_eq_true, Nat.reduceBEq, Bool.or_false, Bool.false_or, Bool.or_self, Bool.false_eq_true, Nat.reduceMul, List.reduceReplicate, List.take_succ_cons, List.take_zero, ints_app, ints_one, rows_one, flat_app, flat_one, List.nil_append, Nat.zero_add]
    refine T_ret ?_
    refine end_ret (.tmp .nil) rfl rfl ⟨?_, rfl⟩
    simp only [resA, lk, reduceIte, Nat.reduceEqDiff]
    refine congrArg boolA ?_
    unfold fits
    first | rfl | (simp_all; done)
  · try simp only [decide_eq_true_eq, decide_eq_false_iff_not, Bool.not_eq_true', Bool.not_eq_false', Int.not_lt, Int.not_le, Int.ofNat_lt, Int.ofNat_le, Int.ofNat_inj, ne_eq, Decidable.not_not] at g1
    refine TO_off rfl rfl (by decide) rfl rfl rfl ?_
    refine TO_off rfl rfl (by decide) rfl rfl rfl ?_
    refine TO_off rfl rfl (by decide) rfl rfl rfl ?_
    refine TO_off rfl rfl (by decide) rfl rfl rfl ?_
    refine TO_off rfl rfl (by decide) rfl rfl rfl ?_
    refine TO_off rfl rfl (by decide) rfl rfl rfl ?_
    refine TO_off rfl rfl (by decide) rfl rfl rfl ?_
    refine TO_off rfl rfl (by decide) rfl rfl rfl ?_
    refine TO_cons rfl (TOp_pure (pur_pick rfl rfl rfl) rfl ?_)
    refine TO_cons rfl (TOp_pure (pur_assign rfl) rfl ?_)
    refine TO_nil ?_
    refine T_keep [6] ?_
    simp only [pick, List.map, lk, put, val, constA, entry, cellsOf, cellVal, cellVals, List.drop, List.take, List.append_assoc, List.nil_append, List.cons_append, List.singleton_append, List.length_cons, List.length_nil, List.set_cons_zero, List.set_cons_succ, setRow, setSub, spl, Root.under, List.getElem?_cons_zero, List.getElem?_cons_succ, List.map_cons, List.map_nil, reduceIte, Nat.reduceEqDiff, Nat.reduceAdd, Nat.reduceSub, Int.toNat_natCast, Nat.succ_ne_zero, Nat.zero_ne_one, Nat.one_ne_zero, mvE, mvA, mvR, mvH, mvS, A.names, namesL, A.ren, renL, rh, List.headD_cons, beq_self_eq_true, Nat.reduceBEq, Bool.or_false, Bool.false_or, Bool.or_self, Bool.false_eq_true, Nat.reduceMul, List.reduceReplicate, List.take_succ_cons, List.take_zero, ints_app, ints_one, rows_one, flat_app, flat_one, List.nil_append, Nat.zero_add]
    refine T_ret ?_
    refine end_ret (.tmp .nil) rfl rfl ⟨?_, rfl⟩
    simp only [resA, lk, reduceIte, Nat.reduceEqDiff]
    refine congrArg boolA ?_
    unfold fits
    first | rfl | (simp_all; done)

/-- slices.Clone[[]int,int] -/
theorem Clone_int_own (s : List Int) (hs : s.length ≤ 1048576) : Sep.Fn prg 68 [.i 1 (ints s)] [] fun r σ => r = .m [0] 0 s.length 1 ∧ σ = [.row (ints s)] := by
  refine fn_of_T Try.func68 rfl rfl (Nat.le_of_ble_eq_true rfl) ?_
  simp only [entry, Nat.reduceAdd]
  refine T_seq ?_
  refine T_region ?_
  refine TO_cons rfl (TOp_pure (pur_assign rfl) rfl ?_)
  refine TO_nil ?_
  refine T_keep [0] ?_
  simp only [pick, List.map, lk, put, val, constA, entry, cellsOf, cellVal, cellVals, List.drop, List.take, List.append_assoc, List.nil_append, List.cons_append, List.singleton_append, List.length_cons, List.length_nil, List.set_cons_zero, List.set_cons_succ, setRow, setSub, spl, Root.under, List.getElem?_cons_zero, List.getElem?_cons_succ, List.map_cons, List.map_nil, reduceIte, Nat.reduceEqDiff, Nat.reduceAdd, Nat.reduceSub, Int.toNat_natCast, Nat.succ_ne_zero, Nat.zero_ne_one, Nat.one_ne_zero, mvE, mvA, mvR, mvH, mvS, A.names, namesL, A.ren, renL, rh, List.headD_cons, beq_self_eq_true, Nat.reduceBEq, Bool.or_false, Bool.false_or, Bool.or_self, Bool.false_eq_true, Nat.reduceMul, List.reduceReplicate, List.take_succ_cons, List.take_zero, ints_app, ints_one, rows_one, flat_app, flat_one, List.nil_append, Nat.zero_add]
  refine T_seq ?_
  refine T_seq ?_
  refine T_region ?_
  refine TO_cons rfl (TOp_pure (pur_move rfl) rfl ?_)
  first | refine TO_cons rfl (TOp_isnil_i Try.underlying31 rfl rfl rfl (fun b1 n1 => ?_))|refine TO_cons rfl (TOp_isnil_m Try.underlying31 rfl rfl rfl (fun b1 n1 => ?_))
  refine TO_nil ?_
  refine T_keep [0, 4] ?_
  simp only [pick, List.map, lk, put, val, constA, entry, cellsOf, cellVal, cellVals, List.drop, List.take, List.append_assoc, List.nil_append, List.cons_append, List.singleton_append, List.length_cons, List.length_nil, List.set_cons_zero, List.set_cons_succ, setRow, setSub, spl, Root.under, List.getElem?_cons_zero, List.getElem?_cons_succ, List.map_cons, List.map_nil, reduceIte, Nat.reduceEqDiff, Nat.reduceAdd, Nat.reduceSub, Int.toNat_natCast, Nat.succ_ne_zero, Nat.zero_ne_one, Nat.one_ne_zero, mvE, mvA, mvR, mvH, mvS, A.names, namesL, A.ren, renL, rh, List.headD_cons, beq_self_eq_true, Nat.reduceBEq, Bool.or_false, Bool.false_or, Bool.or_self, Bool.false_eq_true, Nat.reduceMul, List.reduceReplicate, List.take_succ_cons, List.take_zero, ints_app, ints_one, rows_one, flat_app, flat_one, List.nil_append, Nat.zero_add]
  refine T_cond rfl (fun c2 => ?_) (fun c2 => ?_)
  · try simp only [decide_eq_true_eq, decide_eq_false_iff_not, Bool.not_eq_true', Bool.not_eq_false', Int.not_lt, Int.not_le, Int.ofNat_lt, Int.ofNat_le, Int.ofNat_inj, ne_eq, Decidable.not_not] at c2
    refine T_seq ?_
    refine T_region ?_
    refine TO_cons rfl (TOp_pure (pur_assign rfl) rfl ?_)
    first | refine TO_ghost 2 1 rfl ?_ | skip
    refine TO_nil ?_
    refine T_keep [2] ?_
    simp only [pick, List.map, lk, put, val, constA, entry, cellsOf, cellVal, cellVals, List.drop, List.take, List.append_assoc, List.nil_append, List.cons_append, List.singleton_append, List.length_cons, List.length_nil, List.set_cons_zero, List.set_cons_succ, setRow, setSub, spl, Root.under, List.getElem?_cons_zero, List.getElem?_cons_succ, List.map_cons, List.map_nil, reduceIte, Nat.reduceEqDiff, Nat.reduceAdd, Nat.reduceSub, Int.toNat_natCast, Nat.succ_ne_zero, Nat.zero_ne_one, Nat.one_ne_zero, mvE, mvA, mvR, mvH, mvS, A.names, namesL, A.ren, renL, rh, List.headD_cons, beq_self_eq_true, Nat.reduceBEq, Bool.or_false, Bool.false_or, Bool.or_self, Bool.false_eq_true, Nat.reduceMul, List.reduceReplicate, List.take_succ_cons, List.take_zero, ints_app, ints_one, rows_one, flat_app, flat_one, List.nil_append, Nat.zero_add]
    refine T_ret ?_
    refine then_ret ?_
    first | exact end_own (.tmp .nil) rfl 1 (by decide) rfl rfl rfl rfl ⟨by simp only [resA, lk, reduceIte, Nat.reduceEqDiff, Nat.zero_add], rfl⟩ | (have hz : s = [] := (by cases s <;> simp_all [ints]); subst hz; exact end_own (.tmp .nil) rfl 1 (by decide) rfl rfl rfl rfl ⟨rfl, rfl⟩)
  · try simp only [decide_eq_true_eq, decide_eq_false_iff_not, Bool.not_eq_true', Bool.not_eq_false', Int.not_lt, Int.not_le, Int.ofNat_lt, Int.ofNat_le, Int.ofNat_inj, ne_eq, Decidable.not_not] at c2
    refine T_skip ?_
    refine T_seq ?_
    refine T_region ?_
    refine TO_cons rfl (TOp_lit (nn := 0) (k := 1) sl31 zero3 rfl rfl rfl rfl (by decide) ?_)
    refine TO_cons rfl (TOp_pure (pur_move rfl) rfl ?_)
    refine TO_cons rfl (TOp_app sl31 zero3 rfl bytes3 rfl rfl rfl rfl (by first | rfl | (simp only [ints_len, rows_len, Nat.mul_one] <;> omega) | (rw [flat_len len_edge]; omega)) (by first | exact src_m rfl rfl (Nat.le_of_ble_eq_true rfl) rfl rfl rfl | exact src_ints rfl | exact src_edges rfl | exact src_rows rfl | exact src_n _ rfl) (by first | rfl | exact cells_ints _ | exact cells_edges _ | exact cells_rows _) (by omega) (by omega) (Nat.zero_le _) (by first | exact ints_one _ _ | exact ints_app _ _ | exact rows_one _ _ | exact flat_one _ _ _ | exact nil_one _ | exact List.nil_append _ | rfl) ?_)
    refine TO_cons rfl (TOp_pure (pur_assign rfl) rfl ?_)
    first | refine TO_ghost 2 1 rfl ?_ | skip
    refine TO_nil ?_
    refine T_keep [2] ?_
    simp only [pick, List.map, lk, put, val, constA, entry, cellsOf, cellVal, cellVals, List.drop, List.take, List.append_assoc, List.nil_append, List.cons_append, List.singleton_append, List.length_cons, List.length_nil, List.set_cons_zero, List.set_cons_succ, setRow, setSub, spl, Root.under, List.getElem?_cons_zero, List.getElem?_cons_succ, List.map_cons, List.map_nil, reduceIte, Nat.reduceEqDiff, Nat.reduceAdd, Nat.reduceSub, Int.toNat_natCast, Nat.succ_ne_zero, Nat.zero_ne_one, Nat.one_ne_zero, mvE, mvA, mvR, mvH, mvS, A.names, namesL, A.ren, renL, rh, List.headD_cons, beq_self_eq_true, Nat.reduceBEq, Bool.or_false, Bool.false_or, Bool.or_self, Bool.false_eq_true, Nat.reduceMul, List.reduceReplicate, List.take_succ_cons, List.take_zero, ints_app, ints_one, rows_one, flat_app, flat_one, List.nil_append, Nat.zero_add]
    refine T_ret ?_
    first | exact end_own (.tmp .nil) rfl 1 (by decide) rfl rfl rfl rfl ⟨by simp only [resA, lk, reduceIte, Nat.reduceEqDiff, Nat.zero_add], rfl⟩ | (have hz : s = [] := (by cases s <;> simp_all [ints]); subst hz; exact end_own (.tmp .nil) rfl 1 (by decide) rfl rfl rfl rfl ⟨rfl, rfl⟩)

/-- impl.isIndependentSet -/
theorem impl_isIndependentSet (n : Int) (es : List (Int × Int)) (s : List Int) (he : es.length ≤ 1048576) (hr : R64 es) (hn : -9223372036854775808 ≤ n ∧ n ≤ 9223372036854775807) (hs : s.length ≤ 1048576) : FnV prg 66 [intA n, edgesI es, .i 1 (ints s)] (boolA (tr (VE n es ∧ SetOK n s ∧ indB es s = true))) := by
  refine fnV_of_T Try.func66 rfl rfl (Nat.le_of_ble_eq_true rfl) ?_
  simp only [entry, Nat.reduceAdd]
  refine T_seq ?_
  refine T_region ?_
  refine TO_cons rfl (TOp_pure (pur_assign rfl) rfl ?_)
  refine TO_nil ?_
  refine T_keep [0, 1, 2] ?_
  simp only [pick, List.map, lk, put, val, constA, entry, cellsOf, cellVal, cellVals, List.drop, List.take, List.append_assoc, List.nil_append, List.cons_append, List.singleton_append, List.length_cons, List.length_nil, List.set_cons_zero, List.set_cons_succ, setRow, setSub, spl, Root.under, List.getElem?_cons_zero, List.getElem?_cons_succ, List.map_cons, List.map_nil, reduceIte, Nat.reduceEqDiff, Nat.reduceAdd, Nat.reduceSub, Int.toNat_natCast, Nat.succ_ne_zero, Nat.zero_ne_one, Nat.one_ne_zero]
  refine T_seq ?_
  refine T_region ?_
  refine TO_cons rfl (TOp_pure (pur_move rfl) rfl ?_)
  refine TO_cons rfl (TOp_pure (pur_move rfl) rfl ?_)
  refine TO_cons rfl (TOp_callV (call_static ent47 rfl) (impl_AreValidEdges _ _ (by first | assumption | omega | (simp_all; done) | (simp_all; omega)) (by first | assumption | omega | (simp_all; done) | (simp_all; omega)) (by first | assumption | omega | (simp_all; done) | (simp_all; omega))) rfl rfl rfl ?_)
  refine TO_cons rfl (TOp_pure (pur_move rfl) rfl ?_)
  refine TO_split 10 rfl (fun g1 => ?_) (fun g1 => ?_)
  · try simp only [decide_eq_true_eq, decide_eq_false_iff_not, Bool.not_eq_true', Bool.not_eq_false', Int.not_lt, Int.not_le, Int.ofNat_lt, Int.ofNat_le, Int.ofNat_inj, ne_eq, Decidable.not_not] at g1
    refine TO_on rfl rfl (by decide) rfl rfl (TOp_pure (pur_move rfl) rfl ?_)
    refine TO_on rfl rfl (by decide) rfl rfl (TOp_pure (pur_move rfl) rfl ?_)
    refine TO_on rfl rfl (by decide) rfl rfl (TOp_callV (call_static ent50 rfl) (impl_areIndices n s (tr_iff.1 g1).1.1 (tr_iff.1 g1).1.2 hs) rfl rfl rfl ?_)
    refine TO_cons rfl (TOp_pure (pur_pick rfl rfl rfl) rfl ?_)
    refine TO_cons rfl (TOp_pure (pur_move rfl) rfl ?_)
    refine TO_split 15 rfl (fun g2 => ?_) (fun g2 => ?_)
    · try simp only [decide_eq_true_eq, decide_eq_false_iff_not, Bool.not_eq_true', Bool.not_eq_false', Int.not_lt, Int.not_le, Int.ofNat_lt, Int.ofNat_le, Int.ofNat_inj, ne_eq, Decidable.not_not] at g2
      refine TO_on rfl rfl (by decide) rfl rfl (TOp_pure (pur_move rfl) rfl ?_)
      refine TO_on rfl rfl (by decide) rfl rfl (TOp_pure (pur_move rfl) rfl ?_)
      refine TO_on rfl rfl (by decide) rfl rfl (TOp_callV (call_static ent67 rfl) (impl_IsIndependent _ _ (by first | assumption | omega | (simp_all; done) | (simp_all; omega)) (by first | assumption | omega | (simp_all; done) | (simp_all; omega))) rfl rfl rfl ?_)
      refine TO_cons rfl (TOp_pure (pur_pick rfl rfl rfl) rfl ?_)
      refine TO_cons rfl (TOp_pure (pur_assign rfl) rfl ?_)
      refine TO_nil ?_
      refine T_keep [6] ?_
      simp only [pick, List.map, lk, put, val, constA, entry, cellsOf, cellVal, cellVals, List.drop, List.take, List.append_assoc, List.nil_append, List.cons_append, List.singleton_append, List.length_cons, List.length_nil, List.set_cons_zero, List.set_cons_succ, setRow, setSub, spl, Root.under, List.getElem?_cons_zero, List.getElem?_cons_succ, List.map_cons, List.map_nil, reduceIte, Nat.reduceEqDiff, Nat.reduceAdd, Nat.reduceSub, Int.toNat_natCast, Nat.succ_ne_zero, Nat.zero_ne_one, Nat.one_ne_zero]
      refine T_ret ?_
      refine end_ret (.tmp .nil) rfl rfl ⟨?_, rfl⟩
      simp only [resA, lk, reduceIte, Nat.reduceEqDiff]
      refine congrArg boolA ?_
      first | (rw [tr_false]; intro h; exact tr_not.1 (by assumption) h.1) | (rw [tr_false]; intro h; exact tr_not.1 (by assumption) h.2.1) | exact tr_and3 (tr_iff.1 (by assumption)) (tr_iff.1 (by assumption))
    · try simp only [decide_eq_true_eq, decide_eq_false_iff_not, Bool.not_eq_true', Bool.not_eq_false', Int.not_lt, Int.not_le, Int.ofNat_lt, Int.ofNat_le, Int.ofNat_inj, ne_eq, Decidable.not_not] at g2
      refine TO_off rfl rfl (by decide) rfl rfl rfl ?_
      refine TO_off rfl rfl (by decide) rfl rfl rfl ?_
      refine TO_off rfl rfl (by decide) rfl rfl rfl ?_
      refine TO_cons rfl (TOp_pure (pur_pick rfl rfl rfl) rfl ?_)
      refine TO_cons rfl (TOp_pure (pur_assign rfl) rfl ?_)
      refine TO_nil ?_
      refine T_keep [6] ?_
      simp only [pick, List.map, lk, put, val, constA, entry, cellsOf, cellVal, cellVals, List.drop, List.take, List.append_assoc, List.nil_append, List.cons_append, List.singleton_append, List.length_cons, List.length_nil, List.set_cons_zero, List.set_cons_succ, setRow, setSub, spl, Root.under, List.getElem?_cons_zero, List.getElem?_cons_succ, List.map_cons, List.map_nil, reduceIte, Nat.reduceEqDiff, Nat.reduceAdd, Nat.reduceSub, Int.toNat_natCast, Nat.succ_ne_zero, Nat.zero_ne_one, Nat.one_ne_zero]
      refine T_ret ?_
      refine end_ret (.tmp .nil) rfl rfl ⟨?_, rfl⟩
      simp only [resA, lk, reduceIte, Nat.reduceEqDiff]
      refine congrArg boolA ?_
      first | (rw [tr_false]; intro h; exact tr_not.1 (by assumption) h.1) | (rw [tr_false]; intro h; exact tr_not.1 (by assumption) h.2.1) | exact tr_and3 (tr_iff.1 (by assumption)) (tr_iff.1 (by assumption))
  · try simp only [decide_eq_true_eq, decide_eq_false_iff_not, Bool.not_eq_true', Bool.not_eq_false', Int.not_lt, Int.not_le, Int.ofNat_lt, Int.ofNat_le, Int.ofNat_inj, ne_eq, Decidable.not_not] at g1
    refine TO_off rfl rfl (by decide) rfl rfl rfl ?_
    refine TO_off rfl rfl (by decide) rfl rfl rfl ?_
    refine TO_off rfl rfl (by decide) rfl rfl rfl ?_
    refine TO_cons rfl (TOp_pure (pur_pick rfl rfl rfl) rfl ?_)
    refine TO_cons rfl (TOp_pure (pur_move rfl) rfl ?_)
    refine TO_off rfl rfl (by decide) rfl rfl rfl ?_
    refine TO_off rfl rfl (by decide) rfl rfl rfl ?_
    refine TO_off rfl rfl (by decide) rfl rfl rfl ?_
    refine TO_cons rfl (TOp_pure (pur_pick rfl rfl rfl) rfl ?_)
    refine TO_cons rfl (TOp_pure (pur_assign rfl) rfl ?_)
    refine TO_nil ?_
    refine T_keep [6] ?_
    simp only [pick, List.map, lk, put, val, constA, entry, cellsOf, cellVal, cellVals, List.drop, List.take, List.append_assoc, List.nil_append, List.cons_append, List.singleton_append, List.length_cons, List.length_nil, List.set_cons_zero, List.set_cons_succ, setRow, setSub, spl, Root.under, List.getElem?_cons_zero, List.getElem?_cons_succ, List.map_cons, List.map_nil, reduceIte, Nat.reduceEqDiff, Nat.reduceAdd, Nat.reduceSub, Int.toNat_natCast, Nat.succ_ne_zero, Nat.zero_ne_one, Nat.one_ne_zero]
    refine T_ret ?_
    refine end_ret (.tmp .nil) rfl rfl ⟨?_, rfl⟩
    simp only [resA, lk, reduceIte, Nat.reduceEqDiff]
    refine congrArg boolA ?_
    first | (rw [tr_false]; intro h; exact tr_not.1 (by assumption) h.1) | (rw [tr_false]; intro h; exact tr_not.1 (by assumption) h.2.1) | exact tr_and3 (tr_iff.1 (by assumption)) (tr_iff.1 (by assumption))

/-- spec.IsMaximalIndependent -/
theorem spec_IsMaximalIndependent (n : Int) (es : List (Int × Int)) (s : List Int) (he : es.length ≤ 1048576) (hr : R64 es) (hn : -9223372036854775808 ≤ n ∧ n ≤ 9223372036854775807) (hs : s.length ≤ 1048576) : FnV prg 52 [intA n, edgesI es, .i 1 (ints s)] (boolA (tr (MI n es s))) := by
  refine fnV_of_T Try.func52 rfl rfl (Nat.le_of_ble_eq_true rfl) ?_
  simp only [entry, Nat.reduceAdd]
  refine T_seq ?_
  refine T_region ?_
  refine TO_cons rfl (TOp_pure (pur_assign rfl) rfl ?_)
  refine TO_nil ?_
  refine T_keep [0, 1, 2] ?_
  simp only [pick, List.map, lk, put, val, constA, entry, cellsOf, cellVal, cellVals, List.drop, List.take, List.append_assoc, List.nil_append, List.cons_append, List.singleton_append, List.length_cons, List.length_nil, List.set_cons_zero, List.set_cons_succ, setRow, setSub, spl, Root.under, List.getElem?_cons_zero, List.getElem?_cons_succ, List.map_cons, List.map_nil, reduceIte, Nat.reduceEqDiff, Nat.reduceAdd, Nat.reduceSub, Int.toNat_natCast, Nat.succ_ne_zero, Nat.zero_ne_one, Nat.one_ne_zero]
  refine T_seq ?_
  refine T_seq ?_
  refine T_region ?_
  refine TO_cons rfl (TOp_pure (pur_move rfl) rfl ?_)
  refine TO_cons rfl (TOp_pure (pur_move rfl) rfl ?_)
  refine TO_cons rfl (TOp_callV (call_static ent45 rfl) (spec_AreValidEdges _ _ (by first | assumption | omega | (simp_all; done) | (simp_all; omega)) (by first | assumption | omega | (simp_all; done) | (simp_all; omega)) (by first | assumption | omega | (simp_all; done) | (simp_all; omega))) rfl rfl rfl ?_)
  refine TO_cons rfl (TOp_pure (pur_not rfl rfl) rfl ?_)
  refine TO_cons rfl (TOp_pure (pur_move rfl) rfl ?_)
  refine TO_split 12 rfl (fun g1 => ?_) (fun g1 => ?_)
  · try simp only [decide_eq_true_eq, decide_eq_false_iff_not, Bool.not_eq_true', Bool.not_eq_false', Int.not_lt, Int.not_le, Int.ofNat_lt, Int.ofNat_le, Int.ofNat_inj, ne_eq, Decidable.not_not] at g1
    refine TO_off rfl rfl (by decide) rfl rfl rfl ?_
    refine TO_off rfl rfl (by decide) rfl rfl rfl ?_
    refine TO_off rfl rfl (by decide) rfl rfl rfl ?_
    refine TO_off rfl rfl (by decide) rfl rfl rfl ?_
    refine TO_cons rfl (TOp_pure (pur_pick rfl rfl rfl) rfl ?_)
    refine TO_cons rfl (TOp_pure (pur_move rfl) rfl ?_)
    refine TO_off rfl rfl (by decide) rfl rfl rfl ?_
    refine TO_off rfl rfl (by decide) rfl rfl rfl ?_
    refine TO_off rfl rfl (by decide) rfl rfl rfl ?_
    refine TO_off rfl rfl (by decide) rfl rfl rfl ?_
    refine TO_cons rfl (TOp_pure (pur_pick rfl rfl rfl) rfl ?_)
    refine TO_nil ?_
    refine T_keep [0, 1, 2, 23] ?_
    simp only [pick, List.map, lk, put, val, constA, entry, cellsOf, cellVal, cellVals, List.drop, List.take, List.append_assoc, List.nil_append, List.cons_append, List.singleton_append, List.length_cons, List.length_nil, List.set_cons_zero, List.set_cons_succ, setRow, setSub, spl, Root.under, List.getElem?_cons_zero, List.getElem?_cons_succ, List.map_cons, List.map_nil, reduceIte, Nat.reduceEqDiff, Nat.reduceAdd, Nat.reduceSub, Int.toNat_natCast, Nat.succ_ne_zero, Nat.zero_ne_one, Nat.one_ne_zero]
    refine T_cond (t := true) rfl (fun _ => ?_) (fun h => nomatch h)
    refine T_seq ?_
    refine T_region ?_
    refine TO_cons rfl (TOp_pure (pur_assign rfl) rfl ?_)
    refine TO_nil ?_
    refine T_keep [6] ?_
    simp only [pick, List.map, lk, put, val, constA, entry, cellsOf, cellVal, cellVals, List.drop, List.take, List.append_assoc, List.nil_append, List.cons_append, List.singleton_append, List.length_cons, List.length_nil, List.set_cons_zero, List.set_cons_succ, setRow, setSub, spl, Root.under, List.getElem?_cons_zero, List.getElem?_cons_succ, List.map_cons, List.map_nil, reduceIte, Nat.reduceEqDiff, Nat.reduceAdd, Nat.reduceSub, Int.toNat_natCast, Nat.succ_ne_zero, Nat.zero_ne_one, Nat.one_ne_zero]
    refine T_ret ?_
    refine then_ret ?_
    refine end_ret (.tmp .nil) rfl rfl ⟨?_, rfl⟩
    simp only [resA, lk, reduceIte, Nat.reduceEqDiff]
    refine congrArg boolA ?_
    first | (rw [tr_false]; rintro ⟨h1, h2, h3, h4⟩; first | exact tr_not.1 (by assumption) h1 | exact tr_not.1 (by assumption) h2 | exact (show ¬ (VE n es ∧ SetOK n s ∧ indB es s = true) from tr_not.1 (by assumption)) ⟨h1, h2, h3⟩ | (simp_all; done) | (have h5 := h4 i (by omega); unfold fits at h5; simp_all; done)) | (rw [tr_true ⟨tr_iff.1 (by assumption), tr_iff.1 (by assumption), by assumption, fun x hx => hall x (by omega)⟩])
  · try simp only [decide_eq_true_eq, decide_eq_false_iff_not, Bool.not_eq_true', Bool.not_eq_false', Int.not_lt, Int.not_le, Int.ofNat_lt, Int.ofNat_le, Int.ofNat_inj, ne_eq, Decidable.not_not] at g1
    refine TO_on rfl rfl (by decide) rfl rfl (TOp_pure (pur_move rfl) rfl ?_)
    refine TO_on rfl rfl (by decide) rfl rfl (TOp_pure (pur_move rfl) rfl ?_)
    refine TO_on rfl rfl (by decide) rfl rfl (TOp_callV (call_static ent49 rfl) (spec_l8Set n s (tr_iff.1 g1).1.1 (tr_iff.1 g1).1.2 hs) rfl rfl rfl ?_)
    refine TO_on rfl rfl (by decide) rfl rfl (TOp_pure (pur_not rfl rfl) rfl ?_)
    refine TO_cons rfl (TOp_pure (pur_pick rfl rfl rfl) rfl ?_)
    refine TO_cons rfl (TOp_pure (pur_move rfl) rfl ?_)
    refine TO_split 18 rfl (fun g2 => ?_) (fun g2 => ?_)
    · try simp only [decide_eq_true_eq, decide_eq_false_iff_not, Bool.not_eq_true', Bool.not_eq_false', Int.not_lt, Int.not_le, Int.ofNat_lt, Int.ofNat_le, Int.ofNat_inj, ne_eq, Decidable.not_not] at g2
      refine TO_off rfl rfl (by decide) rfl rfl rfl ?_
      refine TO_off rfl rfl (by decide) rfl rfl rfl ?_
      refine TO_off rfl rfl (by decide) rfl rfl rfl ?_
      refine TO_off rfl rfl (by decide) rfl rfl rfl ?_
      refine TO_cons rfl (TOp_pure (pur_pick rfl rfl rfl) rfl ?_)
      refine TO_nil ?_
      refine T_keep [0, 1, 2, 23] ?_
      simp only [pick, List.map, lk, put, val, constA, entry, cellsOf, cellVal, cellVals, List.drop, List.take, List.append_assoc, List.nil_append, List.cons_append, List.singleton_append, List.length_cons, List.length_nil, List.set_cons_zero, List.set_cons_succ, setRow, setSub, spl, Root.under, List.getElem?_cons_zero, List.getElem?_cons_succ, List.map_cons, List.map_nil, reduceIte, Nat.reduceEqDiff, Nat.reduceAdd, Nat.reduceSub, Int.toNat_natCast, Nat.succ_ne_zero, Nat.zero_ne_one, Nat.one_ne_zero]
      refine T_cond (t := true) rfl (fun _ => ?_) (fun h => nomatch h)
      refine T_seq ?_
      refine T_region ?_
      refine TO_cons rfl (TOp_pure (pur_assign rfl) rfl ?_)
      refine TO_nil ?_
      refine T_keep [6] ?_
      simp only [pick, List.map, lk, put, val, constA, entry, cellsOf, cellVal, cellVals, List.drop, List.take, List.append_assoc, List.nil_append, List.cons_append, List.singleton_append, List.length_cons, List.length_nil, List.set_cons_zero, List.set_cons_succ, setRow, setSub, spl, Root.under, List.getElem?_cons_zero, List.getElem?_cons_succ, List.map_cons, List.map_nil, reduceIte, Nat.reduceEqDiff, Nat.reduceAdd, Nat.reduceSub, Int.toNat_natCast, Nat.succ_ne_zero, Nat.zero_ne_one, Nat.one_ne_zero]
      refine T_ret ?_
      refine then_ret ?_
      refine end_ret (.tmp .nil) rfl rfl ⟨?_, rfl⟩
      simp only [resA, lk, reduceIte, Nat.reduceEqDiff]
      refine congrArg boolA ?_
      first | (rw [tr_false]; rintro ⟨h1, h2, h3, h4⟩; first | exact tr_not.1 (by assumption) h1 | exact tr_not.1 (by assumption) h2 | exact (show ¬ (VE n es ∧ SetOK n s ∧ indB es s = true) from tr_not.1 (by assumption)) ⟨h1, h2, h3⟩ | (simp_all; done) | (have h5 := h4 i (by omega); unfold fits at h5; simp_all; done)) | (rw [tr_true ⟨tr_iff.1 (by assumption), tr_iff.1 (by assumption), by assumption, fun x hx => hall x (by omega)⟩])
    · try simp only [decide_eq_true_eq, decide_eq_false_iff_not, Bool.not_eq_true', Bool.not_eq_false', Int.not_lt, Int.not_le, Int.ofNat_lt, Int.ofNat_le, Int.ofNat_inj, ne_eq, Decidable.not_not] at g2
      refine TO_on rfl rfl (by decide) rfl rfl (TOp_pure (pur_move rfl) rfl ?_)
      refine TO_on rfl rfl (by decide) rfl rfl (TOp_pure (pur_move rfl) rfl ?_)
      refine TO_on rfl rfl (by decide) rfl rfl (TOp_callV (call_static ent80 rfl) (spec_IsIndependent _ _ (by first | assumption | omega | (simp_all; done) | (simp_all; omega)) (by first | assumption | omega | (simp_all; done) | (simp_all; omega))) rfl rfl rfl ?_)
      refine TO_on rfl rfl (by decide) rfl rfl (TOp_pure (pur_not rfl rfl) rfl ?_)
      refine TO_cons rfl (TOp_pure (pur_pick rfl rfl rfl) rfl ?_)
      refine TO_nil ?_
      refine T_keep [0, 1, 2, 23] ?_
      simp only [pick, List.map, lk, put, val, constA, entry, cellsOf, cellVal, cellVals, List.drop, List.take, List.append_assoc, List.nil_append, List.cons_append, List.singleton_append, List.length_cons, List.length_nil, List.set_cons_zero, List.set_cons_succ, setRow, setSub, spl, Root.under, List.getElem?_cons_zero, List.getElem?_cons_succ, List.map_cons, List.map_nil, reduceIte, Nat.reduceEqDiff, Nat.reduceAdd, Nat.reduceSub, Int.toNat_natCast, Nat.succ_ne_zero, Nat.zero_ne_one, Nat.one_ne_zero]
      refine T_cond rfl (fun c3 => ?_) (fun c3 => ?_)
      · try simp only [decide_eq_true_eq, decide_eq_false_iff_not, Bool.not_eq_true', Bool.not_eq_false', Int.not_lt, Int.not_le, Int.ofNat_lt, Int.ofNat_le, Int.ofNat_inj, ne_eq, Decidable.not_not] at c3
        refine T_seq ?_
        refine T_region ?_
        refine TO_cons rfl (TOp_pure (pur_assign rfl) rfl ?_)
        refine TO_nil ?_
        refine T_keep [6] ?_
        simp only [pick, List.map, lk, put, val, constA, entry, cellsOf, cellVal, cellVals, List.drop, List.take, List.append_assoc, List.nil_append, List.cons_append, List.singleton_append, List.length_cons, List.length_nil, List.set_cons_zero, List.set_cons_succ, setRow, setSub, spl, Root.under, List.getElem?_cons_zero, List.getElem?_cons_succ, List.map_cons, List.map_nil, reduceIte, Nat.reduceEqDiff, Nat.reduceAdd, Nat.reduceSub, Int.toNat_natCast, Nat.succ_ne_zero, Nat.zero_ne_one, Nat.one_ne_zero]
        refine T_ret ?_
        refine then_ret ?_
        refine end_ret (.tmp .nil) rfl rfl ⟨?_, rfl⟩
        simp only [resA, lk, reduceIte, Nat.reduceEqDiff]
        refine congrArg boolA ?_
        first | (rw [tr_false]; rintro ⟨h1, h2, h3, h4⟩; first | exact tr_not.1 (by assumption) h1 | exact tr_not.1 (by assumption) h2 | exact (show ¬ (VE n es ∧ SetOK n s ∧ indB es s = true) from tr_not.1 (by assumption)) ⟨h1, h2, h3⟩ | (simp_all; done) | (have h5 := h4 i (by omega); unfold fits at h5; simp_all; done)) | (rw [tr_true ⟨tr_iff.1 (by assumption), tr_iff.1 (by assumption), by assumption, fun x hx => hall x (by omega)⟩])
      · try simp only [decide_eq_true_eq, decide_eq_false_iff_not, Bool.not_eq_true', Bool.not_eq_false', Int.not_lt, Int.not_le, Int.ofNat_lt, Int.ofNat_le, Int.ofNat_inj, ne_eq, Decidable.not_not] at c3
        refine T_skip ?_
        refine T_seq ?_
        refine T_seq ?_
        refine T_region ?_
        refine TO_cons rfl (TOp_pure (pur_assign rfl) rfl ?_)
        refine TO_nil ?_
        refine T_keep [0, 1, 2, 7] ?_
        simp only [pick, List.map, lk, put, val, constA, entry, cellsOf, cellVal, cellVals, List.drop, List.take, List.append_assoc, List.nil_append, List.cons_append, List.singleton_append, List.length_cons, List.length_nil, List.set_cons_zero, List.set_cons_succ, setRow, setSub, spl, Root.under, List.getElem?_cons_zero, List.getElem?_cons_succ, List.map_cons, List.map_nil, reduceIte, Nat.reduceEqDiff, Nat.reduceAdd, Nat.reduceSub, Int.toNat_natCast, Nat.succ_ne_zero, Nat.zero_ne_one, Nat.one_ne_zero]
        refine T_block ?_
        refine T_loop (fun k E σ => ∃ (i : Nat), (i ≤ n.toNat) ∧ (∀ j, j < i → fits es s (j : Int) = false) ∧ k = n.toNat - i ∧ E = [(0, intA n), (1, edgesI es), (2, .i 1 (ints s)), (7, natA i)] ∧ σ = []) _ (E0 := [(0, intA n), (1, edgesI es), (2, .i 1 (ints s)), (7, natA (0))]) (σ0 := []) (Weak.to0 rfl ⟨rfl, rfl, rfl, rfl, trivial⟩) ⟨(0), ?_, ?_, rfl, rfl, rfl⟩ ?_
        · (first | omega | (simp_all; done) | (simp_all; omega))
        · (first | omega | (simp_all; done) | (simp_all; omega))
        rintro k E σ ⟨i, hi, hall, rfl, rfl, rfl⟩
        refine T_seq ?_
        refine T_seq ?_
        refine T_region ?_
        refine TO_cons rfl (TOp_pure (pur_move rfl) rfl ?_)
        refine TO_cons rfl (TOp_pure (pur_move rfl) rfl ?_)
        refine TO_cons rfl (TOp_pure (pur_lss rfl rfl rfl) rfl ?_)
        refine TO_nil ?_
        refine T_keep [0, 1, 2, 7, 26] ?_
        simp only [pick, List.map, lk, put, val, constA, entry, cellsOf, cellVal, cellVals, List.drop, List.take, List.append_assoc, List.nil_append, List.cons_append, List.singleton_append, List.length_cons, List.length_nil, List.set_cons_zero, List.set_cons_succ, setRow, setSub, spl, Root.under, List.getElem?_cons_zero, List.getElem?_cons_succ, List.map_cons, List.map_nil, reduceIte, Nat.reduceEqDiff, Nat.reduceAdd, Nat.reduceSub, Int.toNat_natCast, Nat.succ_ne_zero, Nat.zero_ne_one, Nat.one_ne_zero]
        refine T_cond rfl (fun c4 => ?_) (fun c4 => ?_)
        · try simp only [decide_eq_true_eq, decide_eq_false_iff_not, Bool.not_eq_true', Bool.not_eq_false', Int.not_lt, Int.not_le, Int.ofNat_lt, Int.ofNat_le, Int.ofNat_inj, ne_eq, Decidable.not_not] at c4
          refine T_skip ?_
          refine T_seq ?_
          refine T_block ?_
          refine T_seq ?_
          refine T_region ?_
          refine TO_cons rfl (TOp_pure (pur_move rfl) rfl ?_)
          refine TO_cons rfl (TOp_pure (pur_move rfl) rfl ?_)
          refine TO_cons rfl (TOp_pure (pur_move rfl) rfl ?_)
          refine TO_cons rfl (TOp_callV (call_static ent81 rfl) (spec_l8Fits _ _ _ (by first | assumption | omega | (simp_all; done) | (simp_all; omega)) (by first | assumption | omega | (simp_all; done) | (simp_all; omega))) rfl rfl rfl ?_)
          refine TO_nil ?_
          refine T_keep [0, 1, 2, 7, 32] ?_
          simp only [pick, List.map, lk, put, val, constA, entry, cellsOf, cellVal, cellVals, List.drop, List.take, List.append_assoc, List.nil_append, List.cons_append, List.singleton_append, List.length_cons, List.length_nil, List.set_cons_zero, List.set_cons_succ, setRow, setSub, spl, Root.under, List.getElem?_cons_zero, List.getElem?_cons_succ, List.map_cons, List.map_nil, reduceIte, Nat.reduceEqDiff, Nat.reduceAdd, Nat.reduceSub, Int.toNat_natCast, Nat.succ_ne_zero, Nat.zero_ne_one, Nat.one_ne_zero]
          refine T_cond rfl (fun c5 => ?_) (fun c5 => ?_)
          · try simp only [decide_eq_true_eq, decide_eq_false_iff_not, Bool.not_eq_true', Bool.not_eq_false', Int.not_lt, Int.not_le, Int.ofNat_lt, Int.ofNat_le, Int.ofNat_inj, ne_eq, Decidable.not_not] at c5
            refine T_seq ?_
            refine T_region ?_
            refine TO_cons rfl (TOp_pure (pur_assign rfl) rfl ?_)
            refine TO_nil ?_
            refine T_keep [6] ?_
            simp only [pick, List.map, lk, put, val, constA, entry, cellsOf, cellVal, cellVals, List.drop, List.take, List.append_assoc, List.nil_append, List.cons_append, List.singleton_append, List.length_cons, List.length_nil, List.set_cons_zero, List.set_cons_succ, setRow, setSub, spl, Root.under, List.getElem?_cons_zero, List.getElem?_cons_succ, List.map_cons, List.map_nil, reduceIte, Nat.reduceEqDiff, Nat.reduceAdd, Nat.reduceSub, Int.toNat_natCast, Nat.succ_ne_zero, Nat.zero_ne_one, Nat.one_ne_zero]
            refine T_ret ?_
            refine block_ret ?_
            refine then_ret ?_
            refine then_ret ?_
            refine block_ret ?_
            refine then_ret ?_
            refine end_ret (.tmp .nil) rfl rfl ⟨?_, rfl⟩
            simp only [resA, lk, reduceIte, Nat.reduceEqDiff]
            refine congrArg boolA ?_
            first | (rw [tr_false]; rintro ⟨h1, h2, h3, h4⟩; first | exact tr_not.1 (by assumption) h1 | exact tr_not.1 (by assumption) h2 | exact (show ¬ (VE n es ∧ SetOK n s ∧ indB es s = true) from tr_not.1 (by assumption)) ⟨h1, h2, h3⟩ | (simp_all; done) | (have h5 := h4 i (by omega); unfold fits at h5; simp_all; done)) | (rw [tr_true ⟨tr_iff.1 (by assumption), tr_iff.1 (by assumption), by assumption, fun x hx => hall x (by omega)⟩])
          · try simp only [decide_eq_true_eq, decide_eq_false_iff_not, Bool.not_eq_true', Bool.not_eq_false', Int.not_lt, Int.not_le, Int.ofNat_lt, Int.ofNat_le, Int.ofNat_inj, ne_eq, Decidable.not_not] at c5
            refine T_skip ?_
            refine T_region ?_
            refine TO_cons rfl (TOp_pure (pur_move rfl) rfl ?_)
            refine TO_cons rfl (TOp_pure (pur_add rfl rfl rfl (fits64 (by omega) (by omega))) rfl ?_)
            refine TO_cons rfl (TOp_pure (pur_assign rfl) rfl ?_)
            refine TO_nil ?_
            refine again0 (E' := [(0, intA n), (1, edgesI es), (2, .i 1 (ints s)), (7, natA (i + 1))]) (σ' := []) _ ?_ (Weak.to0 rfl ⟨rfl, rfl, rfl, rfl, trivial⟩) ⟨(i + 1), ?_, ?_, rfl, rfl, rfl⟩
            · omega
            · omega
            · exact all_succ hall (by simp_all)
        · try simp only [decide_eq_true_eq, decide_eq_false_iff_not, Bool.not_eq_true', Bool.not_eq_false', Int.not_lt, Int.not_le, Int.ofNat_lt, Int.ofNat_le, Int.ofNat_inj, ne_eq, Decidable.not_not] at c4
          refine T_exit ?_
          refine then_exit ?_
          refine then_exit ?_
          refine block_exit ?_
          refine T_seq ?_
          refine T_region ?_
          refine TO_cons rfl (TOp_pure (pur_assign rfl) rfl ?_)
          refine TO_nil ?_
          refine T_keep [6] ?_
          simp only [pick, List.map, lk, put, val, constA, entry, cellsOf, cellVal, cellVals, List.drop, List.take, List.append_assoc, List.nil_append, List.cons_append, List.singleton_append, List.length_cons, List.length_nil, List.set_cons_zero, List.set_cons_succ, setRow, setSub, spl, Root.under, List.getElem?_cons_zero, List.getElem?_cons_succ, List.map_cons, List.map_nil, reduceIte, Nat.reduceEqDiff, Nat.reduceAdd, Nat.reduceSub, Int.toNat_natCast, Nat.succ_ne_zero, Nat.zero_ne_one, Nat.one_ne_zero]
          refine T_ret ?_
          refine end_ret (.tmp .nil) rfl rfl ⟨?_, rfl⟩
          simp only [resA, lk, reduceIte, Nat.reduceEqDiff]
          refine congrArg boolA ?_
          first | (rw [tr_false]; rintro ⟨h1, h2, h3, h4⟩; first | exact tr_not.1 (by assumption) h1 | exact tr_not.1 (by assumption) h2 | exact (show ¬ (VE n es ∧ SetOK n s ∧ indB es s = true) from tr_not.1 (by assumption)) ⟨h1, h2, h3⟩ | (simp_all; done) | (have h5 := h4 i (by omega); unfold fits at h5; simp_all; done)) | (rw [tr_true ⟨tr_iff.1 (by assumption), tr_iff.1 (by assumption), by assumption, fun x hx => hall x (by omega)⟩])

/-- impl.IsMaximalIndependent -/
theorem impl_IsMaximalIndependent (n : Int) (es : List (Int × Int)) (s : List Int) (he : es.length ≤ 1048576) (hr : R64 es) (hn : -9223372036854775808 ≤ n ∧ n ≤ 9223372036854775807) (hs : s.length ≤ 1048576) : FnV prg 37 [intA n, edgesI es, .i 1 (ints s)] (boolA (tr (MI n es s))) := by
  refine fnV_of_T Try.func37 rfl rfl (Nat.le_of_ble_eq_true rfl) ?_
  simp only [entry, Nat.reduceAdd]
  refine T_seq ?_
  refine T_region ?_
  refine TO_cons rfl (TOp_pure (pur_assign rfl) rfl ?_)
  refine TO_nil ?_
  refine T_keep [0, 1, 2] ?_
  simp only [pick, List.map, lk, put, val, constA, entry, cellsOf, cellVal, cellVals, List.drop, List.take, List.append_assoc, List.nil_append, List.cons_append, List.singleton_append, List.length_cons, List.length_nil, List.set_cons_zero, List.set_cons_succ, setRow, setSub, spl, Root.under, List.getElem?_cons_zero, List.getElem?_cons_succ, List.map_cons, List.map_nil, reduceIte, Nat.reduceEqDiff, Nat.reduceAdd, Nat.reduceSub, Int.toNat_natCast, Nat.succ_ne_zero, Nat.zero_ne_one, Nat.one_ne_zero, mvE, mvA, mvR, mvH, mvS, A.names, namesL, A.ren, renL, rh, List.headD_cons, beq_self_eq_true, Nat.reduceBEq, Bool.or_false, Bool.false_or, Bool.or_self, Bool.false_eq_true, Nat.reduceMul, List.reduceReplicate, List.take_succ_cons, List.take_zero, ints_app, ints_one, rows_one, flat_app, flat_one, List.nil_append, Nat.zero_add]
  refine T_seq ?_
  refine T_seq ?_
  refine T_region ?_
  refine TO_cons rfl (TOp_pure (pur_move rfl) rfl ?_)
  refine TO_cons rfl (TOp_pure (pur_move rfl) rfl ?_)
  refine TO_cons rfl (TOp_pure (pur_move rfl) rfl ?_)
  refine TO_cons rfl (TOp_callV (call_static ent66 rfl) (impl_isIndependentSet _ _ _ (by first | assumption | omega | (simp_all; done) | (simp_all; omega)) (by first | assumption | omega | (simp_all; done) | (simp_all; omega)) (by first | assumption | omega | (simp_all; done) | (simp_all; omega)) (by first | assumption | omega | (simp_all; done) | (simp_all; omega))) rfl rfl rfl ?_)
  refine TO_cons rfl (TOp_pure (pur_not rfl rfl) rfl ?_)
  refine TO_nil ?_
  refine T_keep [0, 1, 2, 12] ?_
  simp only [pick, List.map, lk, put, val, constA, entry, cellsOf, cellVal, cellVals, List.drop, List.take, List.append_assoc, List.nil_append, List.cons_append, List.singleton_append, List.length_cons, List.length_nil, List.set_cons_zero, List.set_cons_succ, setRow, setSub, spl, Root.under, List.getElem?_cons_zero, List.getElem?_cons_succ, List.map_cons, List.map_nil, reduceIte, Nat.reduceEqDiff, Nat.reduceAdd, Nat.reduceSub, Int.toNat_natCast, Nat.succ_ne_zero, Nat.zero_ne_one, Nat.one_ne_zero, mvE, mvA, mvR, mvH, mvS, A.names, namesL, A.ren, renL, rh, List.headD_cons, beq_self_eq_true, Nat.reduceBEq, Bool.or_false, Bool.false_or, Bool.or_self, Bool.false_eq_true, Nat.reduceMul, List.reduceReplicate, List.take_succ_cons, List.take_zero, ints_app, ints_one, rows_one, flat_app, flat_one, List.nil_append, Nat.zero_add]
  refine T_cond rfl (fun c1 => ?_) (fun c1 => ?_)
  · try simp only [decide_eq_true_eq, decide_eq_false_iff_not, Bool.not_eq_true', Bool.not_eq_false', Int.not_lt, Int.not_le, Int.ofNat_lt, Int.ofNat_le, Int.ofNat_inj, ne_eq, Decidable.not_not] at c1
    refine T_seq ?_
    refine T_region ?_
    refine TO_cons rfl (TOp_pure (pur_assign rfl) rfl ?_)
    refine TO_nil ?_
    refine T_keep [6] ?_
    simp only [pick, List.map, lk, put, val, constA, entry, cellsOf, cellVal, cellVals, List.drop, List.take, List.append_assoc, List.nil_append, List.cons_append, List.singleton_append, List.length_cons, List.length_nil, List.set_cons_zero, List.set_cons_succ, setRow, setSub, spl, Root.under, List.getElem?_cons_zero, List.getElem?_cons_succ, List.map_cons, List.map_nil, reduceIte, Nat.reduceEqDiff, Nat.reduceAdd, Nat.reduceSub, Int.toNat_natCast, Nat.succ_ne_zero, Nat.zero_ne_one, Nat.one_ne_zero, mvE, mvA, mvR, mvH, mvS, A.names, namesL, A.ren, renL, rh, List.headD_cons, beq_self_eq_true, Nat.reduceBEq, Bool.or_false, Bool.false_or, Bool.or_self, Bool.false_eq_true, Nat.reduceMul, List.reduceReplicate, List.take_succ_cons, List.take_zero, ints_app, ints_one, rows_one, flat_app, flat_one, List.nil_append, Nat.zero_add]
    refine T_ret ?_
    refine then_ret ?_
    refine end_ret (.tmp .nil) rfl rfl ⟨?_, rfl⟩
    simp only [resA, lk, reduceIte, Nat.reduceEqDiff]
    refine congrArg boolA ?_
    first | (rw [tr_false]; rintro ⟨h1, h2, h3, h4⟩; first | exact tr_not.1 (by assumption) h1 | exact tr_not.1 (by assumption) h2 | exact (show ¬ (VE n es ∧ SetOK n s ∧ indB es s = true) from tr_not.1 (by assumption)) ⟨h1, h2, h3⟩ | (simp_all; done) | (have h5 := h4 i (by omega); unfold fits at h5; simp_all; done)) | (have h0 := tr_iff.1 c1; rw [tr_true ⟨h0.1, h0.2.1, h0.2.2, fun x hx => hall x (by omega)⟩])
  · try simp only [decide_eq_true_eq, decide_eq_false_iff_not, Bool.not_eq_true', Bool.not_eq_false', Int.not_lt, Int.not_le, Int.ofNat_lt, Int.ofNat_le, Int.ofNat_inj, ne_eq, Decidable.not_not] at c1
    refine T_skip ?_
    refine T_seq ?_
    refine T_seq ?_
    refine T_region ?_
    refine TO_cons rfl (TOp_pure (pur_move rfl) rfl ?_)
    refine TO_cons rfl (TOp_pure (pur_move rfl) rfl ?_)
    refine TO_nil ?_
    refine T_keep [1, 2, 13, 14] ?_
    simp only [pick, List.map, lk, put, val, constA, entry, cellsOf, cellVal, cellVals, List.drop, List.take, List.append_assoc, List.nil_append, List.cons_append, List.singleton_append, List.length_cons, List.length_nil, List.set_cons_zero, List.set_cons_succ, setRow, setSub, spl, Root.under, List.getElem?_cons_zero, List.getElem?_cons_succ, List.map_cons, List.map_nil, reduceIte, Nat.reduceEqDiff, Nat.reduceAdd, Nat.reduceSub, Int.toNat_natCast, Nat.succ_ne_zero, Nat.zero_ne_one, Nat.one_ne_zero, mvE, mvA, mvR, mvH, mvS, A.names, namesL, A.ren, renL, rh, List.headD_cons, beq_self_eq_true, Nat.reduceBEq, Bool.or_false, Bool.false_or, Bool.or_self, Bool.false_eq_true, Nat.reduceMul, List.reduceReplicate, List.take_succ_cons, List.take_zero, ints_app, ints_one, rows_one, flat_app, flat_one, List.nil_append, Nat.zero_add]
    refine T_block ?_
    refine T_loop (fun k E σ => ∃ (i : Nat), (i ≤ n.toNat) ∧ (∀ j, j < i → fits es s (j : Int) = false) ∧ k = n.toNat - i ∧ E = [(1, edgesI es), (2, .i 1 (ints s)), (13, intA n), (14, natA i)] ∧ σ = []) _ (E0 := [(1, edgesI es), (2, .i 1 (ints s)), (13, intA n), (14, natA (0))]) (σ0 := []) (Weak.to 0 (by decide) rfl rfl rfl ⟨rfl, rfl, rfl, rfl, trivial⟩) ⟨(0), ?_, ?_, rfl, rfl, rfl⟩ ?_
    · (first | omega | (simp_all; done) | (simp_all; omega))
    · (first | omega | (simp_all; done) | (simp_all; omega))
    rintro k E σ ⟨i, hi, hall, rfl, rfl, rfl⟩
    refine T_seq ?_
    refine T_region ?_
    refine TO_cons rfl (TOp_pure (pur_lss rfl rfl rfl) rfl ?_)
    refine TO_nil ?_
    refine T_keep [1, 2, 13, 14, 15] ?_
    simp only [pick, List.map, lk, put, val, constA, entry, cellsOf, cellVal, cellVals, List.drop, List.take, List.append_assoc, List.nil_append, List.cons_append, List.singleton_append, List.length_cons, List.length_nil, List.set_cons_zero, List.set_cons_succ, setRow, setSub, spl, Root.under, List.getElem?_cons_zero, List.getElem?_cons_succ, List.map_cons, List.map_nil, reduceIte, Nat.reduceEqDiff, Nat.reduceAdd, Nat.reduceSub, Int.toNat_natCast, Nat.succ_ne_zero, Nat.zero_ne_one, Nat.one_ne_zero, mvE, mvA, mvR, mvH, mvS, A.names, namesL, A.ren, renL, rh, List.headD_cons, beq_self_eq_true, Nat.reduceBEq, Bool.or_false, Bool.false_or, Bool.or_self, Bool.false_eq_true, Nat.reduceMul, List.reduceReplicate, List.take_succ_cons, List.take_zero, ints_app, ints_one, rows_one, flat_app, flat_one, List.nil_append, Nat.zero_add]
    refine T_seq ?_
    refine T_cond rfl (fun c2 => ?_) (fun c2 => ?_)
    · try simp only [decide_eq_true_eq, decide_eq_false_iff_not, Bool.not_eq_true', Bool.not_eq_false', Int.not_lt, Int.not_le, Int.ofNat_lt, Int.ofNat_le, Int.ofNat_inj, ne_eq, Decidable.not_not] at c2
      refine T_skip ?_
      refine T_seq ?_
      refine T_block ?_
      refine T_seq ?_
      refine T_region ?_
      refine TO_cons rfl (TOp_pure (pur_move rfl) rfl ?_)
      refine TO_cons rfl (TOp_pure (pur_assign rfl) rfl ?_)
      refine TO_nil ?_
      refine T_keep [1, 2, 7, 13, 14] ?_
      simp only [pick, List.map, lk, put, val, constA, entry, cellsOf, cellVal, cellVals, List.drop, List.take, List.append_assoc, List.nil_append, List.cons_append, List.singleton_append, List.length_cons, List.length_nil, List.set_cons_zero, List.set_cons_succ, setRow, setSub, spl, Root.under, List.getElem?_cons_zero, List.getElem?_cons_succ, List.map_cons, List.map_nil, reduceIte, Nat.reduceEqDiff, Nat.reduceAdd, Nat.reduceSub, Int.toNat_natCast, Nat.succ_ne_zero, Nat.zero_ne_one, Nat.one_ne_zero, mvE, mvA, mvR, mvH, mvS, A.names, namesL, A.ren, renL, rh, List.headD_cons, beq_self_eq_true, Nat.reduceBEq, Bool.or_false, Bool.false_or, Bool.or_self, Bool.false_eq_true, Nat.reduceMul, List.reduceReplicate, List.take_succ_cons, List.take_zero, ints_app, ints_one, rows_one, flat_app, flat_one, List.nil_append, Nat.zero_add]
      refine T_seq ?_
      refine T_region ?_
      refine TO_cons rfl (TOp_pure (pur_move rfl) rfl ?_)
      refine TO_cons rfl (TOp_pure (pur_move rfl) rfl ?_)
      refine TO_cons rfl (TOp_callV (call_static ent54 rfl) (Contains_int _ _ (by first | assumption | omega | (simp_all; done) | (simp_all; omega))) rfl rfl rfl ?_)
      refine TO_cons rfl (TOp_pure (pur_not rfl rfl) rfl ?_)
      refine TO_cons rfl (TOp_pure (pur_move rfl) rfl ?_)
      refine TO_split 21 rfl (fun g3 => ?_) (fun g3 => ?_)
      · try simp only [decide_eq_true_eq, decide_eq_false_iff_not, Bool.not_eq_true', Bool.not_eq_false', Int.not_lt, Int.not_le, Int.ofNat_lt, Int.ofNat_le, Int.ofNat_inj, ne_eq, Decidable.not_not] at g3
        refine TO_on rfl rfl (by decide) rfl rfl (TOp_pure (pur_move rfl) rfl ?_)
        refine TO_on rfl rfl (by decide) rfl rfl (TOp_pure (pur_move rfl) rfl ?_)
        refine TO_on rfl rfl (by decide) rfl rfl (TOp_callO (call_static ent68 rfl) rfl (Clone_int_own s hs) rfl rfl rfl ?_)
        refine TO_on rfl rfl (by decide) rfl rfl (TOp_pure (pur_move rfl) rfl ?_)
        refine TO_on rfl rfl (by decide) rfl rfl (TOp_lit (nn := 1) (k := 1) sl31 zero3 rfl rfl rfl rfl (by decide) ?_)
        refine TO_on rfl rfl (by decide) rfl rfl (TOp_app sl31 zero3 rfl bytes3 rfl rfl rfl rfl (by first | rfl | (simp only [ints_len, rows_len, Nat.mul_one] <;> omega) | (rw [flat_len len_edge]; omega)) (by first | exact src_m rfl rfl (Nat.le_of_ble_eq_true rfl) rfl rfl rfl | exact src_ints rfl | exact src_edges rfl | exact src_rows rfl | exact src_n _ rfl) (by first | rfl | exact cells_ints _ | exact cells_edges _ | exact cells_rows _) (by omega) (by omega) (Nat.zero_le _) (by first | exact ints_one _ _ | exact ints_app _ _ | exact rows_one _ _ | exact flat_one _ _ _ | exact nil_one _ | exact List.nil_append _ | rfl) ?_)
        refine TO_on rfl rfl (by decide) rfl rfl (TOp_callB (call_static ent67 rfl) (frzOKL_cons (by first | exact trivial | exact (frz_ints rfl).1 | exact (frz_edges rfl).1 | exact (frz_rows rfl).1 | exact (frz_intsN rfl (by simp <;> omega)).1 | (refine frzOKL_cons ?_ ?_ <;> exact ⟨_, rfl, rfl⟩) | exact ⟨⟨_, rfl, rfl⟩, ⟨_, rfl, rfl⟩, trivial⟩ | exact ⟨⟨_, rfl, rfl⟩, trivial⟩ | exact ⟨_, rfl, rfl⟩) (frzOKL_cons (by first | exact trivial | exact (frz_ints rfl).1 | exact (frz_edges rfl).1 | exact (frz_rows rfl).1 | exact (frz_intsN rfl (by simp <;> omega)).1 | (refine frzOKL_cons ?_ ?_ <;> exact ⟨_, rfl, rfl⟩) | exact ⟨⟨_, rfl, rfl⟩, ⟨_, rfl, rfl⟩, trivial⟩ | exact ⟨⟨_, rfl, rfl⟩, trivial⟩ | exact ⟨_, rfl, rfl⟩) frzOKL_nil)) (fzRL_cons (by first | rfl | exact (frz_ints rfl).2 | exact (frz_edges rfl).2 | exact (frz_rows rfl).2 | exact (frz_intsN rfl (by simp <;> omega)).2 ) (fzRL_cons (by first | rfl | exact (frz_ints rfl).2 | exact (frz_edges rfl).2 | exact (frz_rows rfl).2 | exact (frz_intsN rfl (by simp <;> omega)).2 ) rfl)) (impl_IsIndependent es (s ++ [(i : Int)]) he (by simp; omega)) rfl ?_)
        refine TO_cons rfl (TOp_pure (pur_pick rfl rfl rfl) rfl ?_)
        refine TO_nil ?_
        refine T_keep [1, 2, 13, 14, 29] ?_
        simp only [pick, List.map, lk, put, val, constA, entry, cellsOf, cellVal, cellVals, List.drop, List.take, List.append_assoc, List.nil_append, List.cons_append, List.singleton_append, List.length_cons, List.length_nil, List.set_cons_zero, List.set_cons_succ, setRow, setSub, spl, Root.under, List.getElem?_cons_zero, List.getElem?_cons_succ, List.map_cons, List.map_nil, reduceIte, Nat.reduceEqDiff, Nat.reduceAdd, Nat.reduceSub, Int.toNat_natCast, Nat.succ_ne_zero, Nat.zero_ne_one, Nat.one_ne_zero, mvE, mvA, mvR, mvH, mvS, A.names, namesL, A.ren, renL, rh, List.headD_cons, beq_self_eq_true, Nat.reduceBEq, Bool.or_false, Bool.false_or, Bool.or_self, Bool.false_eq_true, Nat.reduceMul, List.reduceReplicate, List.take_succ_cons, List.take_zero, ints_app, ints_one, rows_one, flat_app, flat_one, List.nil_append, Nat.zero_add]
        refine T_cond rfl (fun c4 => ?_) (fun c4 => ?_)
        · try simp only [decide_eq_true_eq, decide_eq_false_iff_not, Bool.not_eq_true', Bool.not_eq_false', Int.not_lt, Int.not_le, Int.ofNat_lt, Int.ofNat_le, Int.ofNat_inj, ne_eq, Decidable.not_not] at c4
          refine T_seq ?_
          refine T_region ?_
          refine TO_cons rfl (TOp_pure (pur_assign rfl) rfl ?_)
          refine TO_nil ?_
          refine T_keep [6] ?_
          simp only [pick, List.map, lk, put, val, constA, entry, cellsOf, cellVal, cellVals, List.drop, List.take, List.append_assoc, List.nil_append, List.cons_append, List.singleton_append, List.length_cons, List.length_nil, List.set_cons_zero, List.set_cons_succ, setRow, setSub, spl, Root.under, List.getElem?_cons_zero, List.getElem?_cons_succ, List.map_cons, List.map_nil, reduceIte, Nat.reduceEqDiff, Nat.reduceAdd, Nat.reduceSub, Int.toNat_natCast, Nat.succ_ne_zero, Nat.zero_ne_one, Nat.one_ne_zero, mvE, mvA, mvR, mvH, mvS, A.names, namesL, A.ren, renL, rh, List.headD_cons, beq_self_eq_true, Nat.reduceBEq, Bool.or_false, Bool.false_or, Bool.or_self, Bool.false_eq_true, Nat.reduceMul, List.reduceReplicate, List.take_succ_cons, List.take_zero, ints_app, ints_one, rows_one, flat_app, flat_one, List.nil_append, Nat.zero_add]
          refine T_ret ?_
          refine block_ret ?_
          refine then_ret ?_
          refine then_ret ?_
          refine block_ret ?_
          refine then_ret ?_
          refine end_ret (.tmp .nil) rfl rfl ⟨?_, rfl⟩
          simp only [resA, lk, reduceIte, Nat.reduceEqDiff]
          refine congrArg boolA ?_
          first | (rw [tr_false]; rintro ⟨h1, h2, h3, h4⟩; first | exact tr_not.1 (by assumption) h1 | exact tr_not.1 (by assumption) h2 | exact (show ¬ (VE n es ∧ SetOK n s ∧ indB es s = true) from tr_not.1 (by assumption)) ⟨h1, h2, h3⟩ | (simp_all; done) | (have h5 := h4 i (by omega); unfold fits at h5; simp_all; done)) | (have h0 := tr_iff.1 c1; rw [tr_true ⟨h0.1, h0.2.1, h0.2.2, fun x hx => hall x (by omega)⟩])
        · try simp only [decide_eq_true_eq, decide_eq_false_iff_not, Bool.not_eq_true', Bool.not_eq_false', Int.not_lt, Int.not_le, Int.ofNat_lt, Int.ofNat_le, Int.ofNat_inj, ne_eq, Decidable.not_not] at c4
          refine T_skip ?_
          refine T_region ?_
          refine TO_cons rfl (TOp_pure (pur_add rfl rfl rfl (fits64 (by omega) (by omega))) rfl ?_)
          refine TO_cons rfl (TOp_pure (pur_move rfl) rfl ?_)
          refine TO_nil ?_
          refine again0 (E' := [(1, edgesI es), (2, .i 1 (ints s)), (13, intA n), (14, natA (i + 1))]) (σ' := []) _ ?_ (Weak.to 0 (by decide) rfl rfl rfl ⟨rfl, rfl, rfl, rfl, trivial⟩) ⟨(i + 1), ?_, ?_, rfl, rfl, rfl⟩
          · omega
          · omega
          · exact all_succ hall (by unfold fits; simp_all)
      · try simp only [decide_eq_true_eq, decide_eq_false_iff_not, Bool.not_eq_true', Bool.not_eq_false', Int.not_lt, Int.not_le, Int.ofNat_lt, Int.ofNat_le, Int.ofNat_inj, ne_eq, Decidable.not_not] at g3
        refine TO_off rfl rfl (by decide) rfl rfl rfl ?_
        refine TO_off rfl rfl (by decide) rfl rfl rfl ?_
        refine TO_off rfl rfl (by decide) rfl rfl rfl ?_
        refine TO_off rfl rfl (by decide) rfl rfl rfl ?_
        refine TO_off rfl rfl (by decide) rfl rfl rfl ?_
        refine TO_off rfl rfl (by decide) rfl rfl rfl ?_
        refine TO_off rfl rfl (by decide) rfl rfl rfl ?_
        refine TO_cons rfl (TOp_pure (pur_pick rfl rfl rfl) rfl ?_)
        refine TO_nil ?_
        refine T_keep [1, 2, 13, 14, 29] ?_
        simp only [pick, List.map, lk, put, val, constA, entry, cellsOf, cellVal, cellVals, List.drop, List.take, List.append_assoc, List.nil_append, List.cons_append, List.singleton_append, List.length_cons, List.length_nil, List.set_cons_zero, List.set_cons_succ, setRow, setSub, spl, Root.under, List.getElem?_cons_zero, List.getElem?_cons_succ, List.map_cons, List.map_nil, reduceIte, Nat.reduceEqDiff, Nat.reduceAdd, Nat.reduceSub, Int.toNat_natCast, Nat.succ_ne_zero, Nat.zero_ne_one, Nat.one_ne_zero, mvE, mvA, mvR, mvH, mvS, A.names, namesL, A.ren, renL, rh, List.headD_cons, beq_self_eq_true, Nat.reduceBEq, Bool.or_false, Bool.false_or, Bool.or_self, Bool.false_eq_true, Nat.reduceMul, List.reduceReplicate, List.take_succ_cons, List.take_zero, ints_app, ints_one, rows_one, flat_app, flat_one, List.nil_append, Nat.zero_add]
        refine T_cond (t := false) rfl (fun h => nomatch h) (fun _ => ?_)
        refine T_skip ?_
        refine T_region ?_
        refine TO_cons rfl (TOp_pure (pur_add rfl rfl rfl (fits64 (by omega) (by omega))) rfl ?_)
        refine TO_cons rfl (TOp_pure (pur_move rfl) rfl ?_)
        refine TO_nil ?_
        refine again0 (E' := [(1, edgesI es), (2, .i 1 (ints s)), (13, intA n), (14, natA (i + 1))]) (σ' := []) _ ?_ (Weak.to 0 (by decide) rfl rfl rfl ⟨rfl, rfl, rfl, rfl, trivial⟩) ⟨(i + 1), ?_, ?_, rfl, rfl, rfl⟩
        · omega
        · omega
        · exact all_succ hall (by unfold fits; simp_all)
    · try simp only [decide_eq_true_eq, decide_eq_false_iff_not, Bool.not_eq_true', Bool.not_eq_false', Int.not_lt, Int.not_le, Int.ofNat_lt, Int.ofNat_le, Int.ofNat_inj, ne_eq, Decidable.not_not] at c2
      refine T_exit ?_
      refine then_exit ?_
      refine then_exit ?_
      refine block_exit ?_
      refine T_seq ?_
      refine T_region ?_
      refine TO_cons rfl (TOp_pure (pur_assign rfl) rfl ?_)
      refine TO_nil ?_
      refine T_keep [6] ?_
      simp only [pick, List.map, lk, put, val, constA, entry, cellsOf, cellVal, cellVals, List.drop, List.take, List.append_assoc, List.nil_append, List.cons_append, List.singleton_append, List.length_cons, List.length_nil, List.set_cons_zero, List.set_cons_succ, setRow, setSub, spl, Root.under, List.getElem?_cons_zero, List.getElem?_cons_succ, List.map_cons, List.map_nil, reduceIte, Nat.reduceEqDiff, Nat.reduceAdd, Nat.reduceSub, Int.toNat_natCast, Nat.succ_ne_zero, Nat.zero_ne_one, Nat.one_ne_zero, mvE, mvA, mvR, mvH, mvS, A.names, namesL, A.ren, renL, rh, List.headD_cons, beq_self_eq_true, Nat.reduceBEq, Bool.or_false, Bool.false_or, Bool.or_self, Bool.false_eq_true, Nat.reduceMul, List.reduceReplicate, List.take_succ_cons, List.take_zero, ints_app, ints_one, rows_one, flat_app, flat_one, List.nil_append, Nat.zero_add]
      refine T_ret ?_
      refine end_ret (.tmp .nil) rfl rfl ⟨?_, rfl⟩
      simp only [resA, lk, reduceIte, Nat.reduceEqDiff]
      refine congrArg boolA ?_
      first | (rw [tr_false]; rintro ⟨h1, h2, h3, h4⟩; first | exact tr_not.1 (by assumption) h1 | exact tr_not.1 (by assumption) h2 | exact (show ¬ (VE n es ∧ SetOK n s ∧ indB es s = true) from tr_not.1 (by assumption)) ⟨h1, h2, h3⟩ | (simp_all; done) | (have h5 := h4 i (by omega); unfold fits at h5; simp_all; done)) | (have h0 := tr_iff.1 c1; rw [tr_true ⟨h0.1, h0.2.1, h0.2.2, fun x hx => hall x (by omega)⟩])

/-- impl.inConflict -/
theorem impl_inConflict (es : List (Int × Int)) (a b : Int) (he : es.length ≤ 1048576) : FnV prg 57 [edgesI es, intA a, intA b] (boolA (decide ((a, b) ∈ es) || decide ((b, a) ∈ es))) := by
  refine fnV_of_T Try.func57 rfl rfl (Nat.le_of_ble_eq_true rfl) ?_
  simp only [entry, Nat.reduceAdd]
  refine T_seq ?_
  refine T_region ?_
  refine TO_cons rfl (TOp_pure (pur_assign rfl) rfl ?_)
  refine TO_nil ?_
  refine T_keep [0, 1, 2] ?_
  simp only [pick, List.map, lk, put, val, constA, entry, cellsOf, cellVal, cellVals, List.drop, List.take, List.append_assoc, List.nil_append, List.cons_append, List.singleton_append, List.length_cons, List.length_nil, List.set_cons_zero, List.set_cons_succ, setRow, setSub, spl, Root.under, List.getElem?_cons_zero, List.getElem?_cons_succ, List.map_cons, List.map_nil, reduceIte, Nat.reduceEqDiff, Nat.reduceAdd, Nat.reduceSub, Int.toNat_natCast, Nat.succ_ne_zero, Nat.zero_ne_one, Nat.one_ne_zero]
  refine T_seq ?_
  refine T_region ?_
  refine TO_cons rfl (TOp_pure (pur_move rfl) rfl ?_)
  refine TO_cons rfl (TOp_pure (pur_move rfl) rfl ?_)
  refine TO_cons rfl (TOp_pure (pur_move rfl) rfl ?_)
  refine TO_cons rfl (TOp_pure (pur_build bld52 rfl rfl) rfl ?_)
  refine TO_cons rfl (TOp_callV (call_static ent43 rfl) (Contains_edge es (a, b) (by omega)) rfl rfl rfl ?_)
  refine TO_cons rfl (TOp_pure (pur_move rfl) rfl ?_)
  refine TO_split 12 rfl (fun g1 => ?_) (fun g1 => ?_)
  · try simp only [decide_eq_true_eq, decide_eq_false_iff_not, Bool.not_eq_true', Bool.not_eq_false', Int.not_lt, Int.not_le, Int.ofNat_lt, Int.ofNat_le, Int.ofNat_inj, ne_eq, Decidable.not_not] at g1
    refine TO_off rfl rfl (by decide) rfl rfl rfl ?_
    refine TO_off rfl rfl (by decide) rfl rfl rfl ?_
    refine TO_off rfl rfl (by decide) rfl rfl rfl ?_
    refine TO_off rfl rfl (by decide) rfl rfl rfl ?_
    refine TO_off rfl rfl (by decide) rfl rfl rfl ?_
    refine TO_cons rfl (TOp_pure (pur_pick rfl rfl rfl) rfl ?_)
    refine TO_cons rfl (TOp_pure (pur_assign rfl) rfl ?_)
    refine TO_nil ?_
    refine T_keep [6] ?_
    simp only [pick, List.map, lk, put, val, constA, entry, cellsOf, cellVal, cellVals, List.drop, List.take, List.append_assoc, List.nil_append, List.cons_append, List.singleton_append, List.length_cons, List.length_nil, List.set_cons_zero, List.set_cons_succ, setRow, setSub, spl, Root.under, List.getElem?_cons_zero, List.getElem?_cons_succ, List.map_cons, List.map_nil, reduceIte, Nat.reduceEqDiff, Nat.reduceAdd, Nat.reduceSub, Int.toNat_natCast, Nat.succ_ne_zero, Nat.zero_ne_one, Nat.one_ne_zero]
    refine T_ret ?_
    refine end_ret (.tmp .nil) rfl rfl ⟨?_, rfl⟩
    simp only [resA, lk, reduceIte, Nat.reduceEqDiff]
    refine congrArg boolA ?_
    first | rfl | (simp_all; done)
  · try simp only [decide_eq_true_eq, decide_eq_false_iff_not, Bool.not_eq_true', Bool.not_eq_false', Int.not_lt, Int.not_le, Int.ofNat_lt, Int.ofNat_le, Int.ofNat_inj, ne_eq, Decidable.not_not] at g1
    refine TO_on rfl rfl (by decide) rfl rfl (TOp_pure (pur_move rfl) rfl ?_)
    refine TO_on rfl rfl (by decide) rfl rfl (TOp_pure (pur_move rfl) rfl ?_)
    refine TO_on rfl rfl (by decide) rfl rfl (TOp_pure (pur_move rfl) rfl ?_)
    refine TO_on rfl rfl (by decide) rfl rfl (TOp_pure (pur_build bld52 rfl rfl) rfl ?_)
    refine TO_on rfl rfl (by decide) rfl rfl (TOp_callV (call_static ent43 rfl) (Contains_edge es (b, a) (by omega)) rfl rfl rfl ?_)
    refine TO_cons rfl (TOp_pure (pur_pick rfl rfl rfl) rfl ?_)
    refine TO_cons rfl (TOp_pure (pur_assign rfl) rfl ?_)
    refine TO_nil ?_
    refine T_keep [6] ?_
    simp only [pick, List.map, lk, put, val, constA, entry, cellsOf, cellVal, cellVals, List.drop, List.take, List.append_assoc, List.nil_append, List.cons_append, List.singleton_append, List.length_cons, List.length_nil, List.set_cons_zero, List.set_cons_succ, setRow, setSub, spl, Root.under, List.getElem?_cons_zero, List.getElem?_cons_succ, List.map_cons, List.map_nil, reduceIte, Nat.reduceEqDiff, Nat.reduceAdd, Nat.reduceSub, Int.toNat_natCast, Nat.succ_ne_zero, Nat.zero_ne_one, Nat.one_ne_zero]
    refine T_ret ?_
    refine end_ret (.tmp .nil) rfl rfl ⟨?_, rfl⟩
    simp only [resA, lk, reduceIte, Nat.reduceEqDiff]
    refine congrArg boolA ?_
    first | rfl | (simp_all; done)

/-- impl.IsParetoOptimal$1 -/
theorem impl_IsParetoOptimal_1 (es p : List (Int × Int)) (x y : Int) (he : es.length ≤ 1048576) (hp : p.length ≤ 1048576) : FnV prg 56 [intA y, .q [edgesI es] 0, .q [intA x] 0, .q [edgesI p] 0] (boolA ((decide ((x, y) ∈ es) || decide ((y, x) ∈ es)) && !decide ((x, y) ∈ p))) := by
  refine fnV_of_T Try.func56 rfl rfl (Nat.le_of_ble_eq_true rfl) ?_
  simp only [entry, Nat.reduceAdd]
  refine T_seq ?_
  refine T_region ?_
  refine TO_cons rfl (TOp_pure (pur_assign rfl) rfl ?_)
  refine TO_nil ?_
  refine T_keep [0, 1, 2, 3] ?_
  simp only [pick, List.map, lk, put, val, constA, entry, cellsOf, cellVal, cellVals, List.drop, List.take, List.append_assoc, List.nil_append, List.cons_append, List.singleton_append, List.length_cons, List.length_nil, List.set_cons_zero, List.set_cons_succ, setRow, setSub, spl, Root.under, List.getElem?_cons_zero, List.getElem?_cons_succ, List.map_cons, List.map_nil, reduceIte, Nat.reduceEqDiff, Nat.reduceAdd, Nat.reduceSub, Int.toNat_natCast, Nat.succ_ne_zero, Nat.zero_ne_one, Nat.one_ne_zero]
  refine T_seq ?_
  refine T_region ?_
  refine TO_cons rfl (TOp_pure (by first | exact pur_ld_b one25 rfl rfl rfl rfl | exact pur_ld_rows rfl one25 rfl rfl (by omega) | exact pur_ld_q one25 rfl rfl rfl | exact pur_ld_e one25 rfl rfl rfl rfl) rfl ?_)
  refine TO_cons rfl (TOp_pure (by first | exact pur_ld_b one3 rfl rfl rfl rfl | exact pur_ld_ints rfl one3 rfl rfl (by omega) | exact pur_lde_ints rfl one3 rfl rfl rfl (by omega) | exact pur_ld_q one3 rfl rfl rfl | exact pur_ld_e one3 rfl rfl rfl rfl) rfl ?_)
  refine TO_cons rfl (TOp_pure (pur_move rfl) rfl ?_)
  refine TO_cons rfl (TOp_callV (call_static ent57 rfl) (impl_inConflict _ _ _ (by first | assumption | omega | (simp_all; done) | (simp_all; omega))) rfl rfl rfl ?_)
  refine TO_cons rfl (TOp_pure (pur_move rfl) rfl ?_)
  refine TO_split 10 rfl (fun g1 => ?_) (fun g1 => ?_)
  · try simp only [decide_eq_true_eq, decide_eq_false_iff_not, Bool.not_eq_true', Bool.not_eq_false', Int.not_lt, Int.not_le, Int.ofNat_lt, Int.ofNat_le, Int.ofNat_inj, ne_eq, Decidable.not_not] at g1
    refine TO_on rfl rfl (by decide) rfl rfl (TOp_pure (by first | exact pur_ld_b one25 rfl rfl rfl rfl | exact pur_ld_rows rfl one25 rfl rfl (by omega) | exact pur_ld_q one25 rfl rfl rfl | exact pur_ld_e one25 rfl rfl rfl rfl) rfl ?_)
    refine TO_on rfl rfl (by decide) rfl rfl (TOp_pure (by first | exact pur_ld_b one3 rfl rfl rfl rfl | exact pur_ld_ints rfl one3 rfl rfl (by omega) | exact pur_lde_ints rfl one3 rfl rfl rfl (by omega) | exact pur_ld_q one3 rfl rfl rfl | exact pur_ld_e one3 rfl rfl rfl rfl) rfl ?_)
    refine TO_on rfl rfl (by decide) rfl rfl (TOp_pure (pur_move rfl) rfl ?_)
    refine TO_on rfl rfl (by decide) rfl rfl (TOp_callV (call_static ent14 rfl) (impl_IsPreferred _ _ _ (by first | assumption | omega | (simp_all; done) | (simp_all; omega))) rfl rfl rfl ?_)
    refine TO_on rfl rfl (by decide) rfl rfl (TOp_pure (pur_not rfl rfl) rfl ?_)
    refine TO_cons rfl (TOp_pure (pur_pick rfl rfl rfl) rfl ?_)
    refine TO_cons rfl (TOp_pure (pur_assign rfl) rfl ?_)
    refine TO_nil ?_
    refine T_keep [5] ?_
    simp only [pick, List.map, lk, put, val, constA, entry, cellsOf, cellVal, cellVals, List.drop, List.take, List.append_assoc, List.nil_append, List.cons_append, List.singleton_append, List.length_cons, List.length_nil, List.set_cons_zero, List.set_cons_succ, setRow, setSub, spl, Root.under, List.getElem?_cons_zero, List.getElem?_cons_succ, List.map_cons, List.map_nil, reduceIte, Nat.reduceEqDiff, Nat.reduceAdd, Nat.reduceSub, Int.toNat_natCast, Nat.succ_ne_zero, Nat.zero_ne_one, Nat.one_ne_zero]
    refine T_ret ?_
    refine end_ret (.tmp .nil) rfl rfl ⟨?_, rfl⟩
    simp only [resA, lk, reduceIte, Nat.reduceEqDiff]
    refine congrArg boolA ?_
    first | rfl | (simp_all; done)
  · try simp only [decide_eq_true_eq, decide_eq_false_iff_not, Bool.not_eq_true', Bool.not_eq_false', Int.not_lt, Int.not_le, Int.ofNat_lt, Int.ofNat_le, Int.ofNat_inj, ne_eq, Decidable.not_not] at g1
    refine TO_off rfl rfl (by decide) rfl rfl rfl ?_
    refine TO_off rfl rfl (by decide) rfl rfl rfl ?_
    refine TO_off rfl rfl (by decide) rfl rfl rfl ?_
    refine TO_off rfl rfl (by decide) rfl rfl rfl ?_
    refine TO_off rfl rfl (by decide) rfl rfl rfl ?_
    refine TO_cons rfl (TOp_pure (pur_pick rfl rfl rfl) rfl ?_)
    refine TO_cons rfl (TOp_pure (pur_assign rfl) rfl ?_)
    refine TO_nil ?_
    refine T_keep [5] ?_
    simp only [pick, List.map, lk, put, val, constA, entry, cellsOf, cellVal, cellVals, List.drop, List.take, List.append_assoc, List.nil_append, List.cons_append, List.singleton_append, List.length_cons, List.length_nil, List.set_cons_zero, List.set_cons_succ, setRow, setSub, spl, Root.under, List.getElem?_cons_zero, List.getElem?_cons_succ, List.map_cons, List.map_nil, reduceIte, Nat.reduceEqDiff, Nat.reduceAdd, Nat.reduceSub, Int.toNat_natCast, Nat.succ_ne_zero, Nat.zero_ne_one, Nat.one_ne_zero]
    refine T_ret ?_
    refine end_ret (.tmp .nil) rfl rfl ⟨?_, rfl⟩
    simp only [resA, lk, reduceIte, Nat.reduceEqDiff]
    refine congrArg boolA ?_
    first | rfl | (simp_all; done)
end Go.Proofs.Ytglgcncmjnjfgaa

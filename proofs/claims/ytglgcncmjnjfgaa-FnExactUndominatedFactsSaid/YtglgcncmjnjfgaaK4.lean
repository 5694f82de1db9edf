/- Contracts of functions of the program (vpref), each walked once. -/
import Derived.Test.YtglgcncmjnjfgaaProg
import Derived.Test.YtglgcncmjnjfgaaK3
set_option linter.unusedVariables false
set_option linter.unusedSimpArgs false
set_option maxRecDepth 4000
namespace Go.Proofs.Ytglgcncmjnjfgaa
open Go Go.Proofs Go.Sep
theorem ent47 : EnT prg 47 := fun args w => by
  have h := Try.func47
  simp [callFunc, h, Try.f47]
theorem ent48 : EnT prg 48 := fun args w => by
  have h := Try.func48
  simp [callFunc, h, Try.f48]
theorem ent51 : EnT prg 51 := fun args w => by
  have h := Try.func51
  simp [callFunc, h, Try.f51]
theorem ent78 : EnT prg 78 := fun args w => by
  have h := Try.func78
  simp [callFunc, h, Try.f78]

/-- Every member has one of the members before it. -/
def Closed (n : Int) (p : List (Int × Int)) (S : List Int) : Prop := ∀ x ∈ S, (0 ≤ x ∧ x < n) ∧ ∃ a ∈ S, (a, x) ∈ p
def Cyc (n : Int) (p : List (Int × Int)) : Prop := ∃ S : List Int, S ≠ [] ∧ Closed n p S
def VP (n : Int) (es p : List (Int × Int)) : Prop := VE n es ∧ (∀ e ∈ p, e ∈ es ∨ (e.2, e.1) ∈ es) ∧ ¬ Cyc n p
def und (p : List (Int × Int)) (left : List Int) : List Int := left.filter (fun b => !(left.any fun a => decide ((a, b) ∈ p)))
def rst (p : List (Int × Int)) (left : List Int) : List Int := left.filter (fun n => !decide (n ∈ und p left))
theorem rst_closed {n p S left} (h : Closed n p S) (hs : ∀ x ∈ S, x ∈ left) : ∀ x ∈ S, x ∈ rst p left := fun x hx => by
  obtain ⟨_, a, ha, hp⟩ := h x hx
  refine List.mem_filter.2 ⟨hs x hx, ?_⟩
  simp only [Bool.not_eq_true', decide_eq_false_iff_not, und, List.mem_filter, not_and, Bool.not_eq_true, Bool.not_eq_false', Bool.not_eq_false]
  exact fun _ => List.any_eq_true.2 ⟨a, hs a ha, by simpa using hp⟩
theorem rst_len (p : List (Int × Int)) (left : List Int) : (rst p left).length ≤ left.length := List.length_filter_le _ _
theorem rst_sub {p : List (Int × Int)} {left : List Int} : ∀ x ∈ rst p left, x ∈ left := fun x hx => (List.mem_filter.1 hx).1
theorem rst_same {p left} (h : (rst p left).length = left.length) : ∀ b ∈ left, ∃ a ∈ left, (a, b) ∈ p := fun b hb => by
  have h1 := List.length_filter_eq_length_iff.1 h b hb
  simp only [Bool.not_eq_true', decide_eq_false_iff_not, und, List.mem_filter, not_and, Bool.not_eq_true, Bool.not_eq_false', Bool.not_eq_false] at h1
  obtain ⟨a, ha, h2⟩ := List.any_eq_true.1 (h1 hb)
  exact ⟨a, ha, by simpa using h2⟩
theorem range_mem {n : Int} {i : Nat} (h : ¬ (i : Int) < n) (x : Int) (h0 : 0 ≤ x ∧ x < n) : x ∈ (List.range i).map Int.ofNat :=
  List.mem_map.2 ⟨x.toNat, List.mem_range.2 (by omega), by simp; omega⟩
theorem range_in {i : Nat} {x : Int} (h : x ∈ (List.range i).map Int.ofNat) : 0 ≤ x ∧ x < i := by
  obtain ⟨j, hj, rfl⟩ := List.mem_map.1 h
  have := List.mem_range.1 hj
  simp; omega
theorem VE.of_mem {n es} (h : VE n es) : ∀ e ∈ es, 0 ≤ e.1 ∧ e.1 < e.2 ∧ e.2 < n := fun e he => by
  obtain ⟨j, hj, rfl⟩ := List.getElem_of_mem he
  have := (h.2 j hj).1
  simpa [List.getD, hj] using this
theorem pref_iff {n es} (h : VE n es) (a b : Int) : (a ≠ b ∧ ((if b < a then b else a), (if a < b then b else a)) ∈ es) ↔ ((a, b) ∈ es ∨ (b, a) ∈ es) := by
  constructor
  · rintro ⟨h1, h2⟩
    by_cases hab : a < b
    · rw [if_neg (by omega), if_pos hab] at h2; exact .inl h2
    · rw [if_pos (by omega), if_neg hab] at h2; exact .inr h2
  · rintro (h2 | h2)
    · have := h.of_mem _ h2
      simp only at this
      exact ⟨by omega, by rw [if_neg (by omega), if_pos (by omega)]; exact h2⟩
    · have := h.of_mem _ h2
      simp only at this
      exact ⟨by omega, by rw [if_pos (by omega), if_neg (by omega)]; exact h2⟩
theorem pref_in {n : Int} {es p : List (Int × Int)} (h : VE n es) (hp : ∀ e ∈ p, e ∈ es ∨ (e.2, e.1) ∈ es) {j : Nat} (hj : j < p.length) : (0 ≤ (p.getD j default).1 ∧ (p.getD j default).1 < n) ∧ (0 ≤ (p.getD j default).2 ∧ (p.getD j default).2 < n) := by
  rcases hp _ (getD_mem (d := default) hj) with h1 | h1
  · have := h.of_mem _ h1; omega
  · have := h.of_mem _ h1; simp only at this; omega
theorem all_of {es p : List (Int × Int)} (h : ∀ j, j < p.length → (p.getD j default) ∈ es ∨ ((p.getD j default).2, (p.getD j default).1) ∈ es) : ∀ e ∈ p, e ∈ es ∨ (e.2, e.1) ∈ es := fun e he => by
  obtain ⟨j, hj, rfl⟩ := List.getElem_of_mem he
  simpa [List.getD, hj] using h j hj

/-- impl.areAcyclic -/
theorem impl_areAcyclic (n : Int) (p : List (Int × Int)) (h0 : 0 ≤ n) (h14 : n ≤ 14) (hp : p.length ≤ 1048576) : FnV prg 48 [intA n, edgesI p] (boolA (tr (¬ Cyc n p))) := by
  refine fnV_of_T Try.func48 rfl rfl (Nat.le_of_ble_eq_true rfl) ?_
  simp only [entry, Nat.reduceAdd]
  refine T_seq ?_
  refine T_region ?_
  refine TO_cons rfl (TOp_pure (pur_assign rfl) rfl ?_)
  refine TO_nil ?_
  refine T_keep [0, 1] ?_
  simp only [pick, List.map, lk, put, val, constA, entry, cellsOf, cellVal, cellVals, List.drop, List.take, List.append_assoc, List.nil_append, List.cons_append, List.singleton_append, List.length_cons, List.length_nil, List.set_cons_zero, List.set_cons_succ, setRow, setSub, spl, Root.under, List.getElem?_cons_zero, List.getElem?_cons_succ, List.map_cons, List.map_nil, reduceIte, Nat.reduceEqDiff, Nat.reduceAdd, Nat.reduceSub, Int.toNat_natCast, Nat.succ_ne_zero, Nat.zero_ne_one, Nat.one_ne_zero, mvE, mvA, mvR, mvH, mvS, A.names, namesL, A.ren, renL, rh, List.headD_cons, beq_self_eq_true, Nat.reduceBEq, Bool.or_false, Bool.false_or, Bool.or_self, Bool.false_eq_true, Nat.reduceMul, List.reduceReplicate, List.take_succ_cons, List.take_zero, ints_app, ints_one, rows_one, flat_app, flat_one, List.nil_append, Nat.zero_add]
  refine T_seq ?_
  refine T_region ?_
  refine TO_cons rfl (TOp_lit (nn := 0) (k := 1) sl31 zero3 rfl rfl rfl rfl (by decide) ?_)
  refine TO_cons rfl (TOp_pure (pur_assign rfl) rfl ?_)
  refine TO_nil ?_
  refine T_keep [0, 1, 5] ?_
  simp only [pick, List.map, lk, put, val, constA, entry, cellsOf, cellVal, cellVals, List.drop, List.take, List.append_assoc, List.nil_append, List.cons_append, List.singleton_append, List.length_cons, List.length_nil, List.set_cons_zero, List.set_cons_succ, setRow, setSub, spl, Root.under, List.getElem?_cons_zero, List.getElem?_cons_succ, List.map_cons, List.map_nil, reduceIte, Nat.reduceEqDiff, Nat.reduceAdd, Nat.reduceSub, Int.toNat_natCast, Nat.succ_ne_zero, Nat.zero_ne_one, Nat.one_ne_zero, mvE, mvA, mvR, mvH, mvS, A.names, namesL, A.ren, renL, rh, List.headD_cons, beq_self_eq_true, Nat.reduceBEq, Bool.or_false, Bool.false_or, Bool.or_self, Bool.false_eq_true, Nat.reduceMul, List.reduceReplicate, List.take_succ_cons, List.take_zero, ints_app, ints_one, rows_one, flat_app, flat_one, List.nil_append, Nat.zero_add]
  refine T_seq ?_
  refine T_seq ?_
  refine T_region ?_
  refine TO_cons rfl (TOp_pure (pur_move rfl) rfl ?_)
  refine TO_cons rfl (TOp_pure (pur_move rfl) rfl ?_)
  refine TO_nil ?_
  refine T_keep [1, 5, 9, 10] ?_
  simp only [pick, List.map, lk, put, val, constA, entry, cellsOf, cellVal, cellVals, List.drop, List.take, List.append_assoc, List.nil_append, List.cons_append, List.singleton_append, List.length_cons, List.length_nil, List.set_cons_zero, List.set_cons_succ, setRow, setSub, spl, Root.under, List.getElem?_cons_zero, List.getElem?_cons_succ, List.map_cons, List.map_nil, reduceIte, Nat.reduceEqDiff, Nat.reduceAdd, Nat.reduceSub, Int.toNat_natCast, Nat.succ_ne_zero, Nat.zero_ne_one, Nat.one_ne_zero, mvE, mvA, mvR, mvH, mvS, A.names, namesL, A.ren, renL, rh, List.headD_cons, beq_self_eq_true, Nat.reduceBEq, Bool.or_false, Bool.false_or, Bool.or_self, Bool.false_eq_true, Nat.reduceMul, List.reduceReplicate, List.take_succ_cons, List.take_zero, ints_app, ints_one, rows_one, flat_app, flat_one, List.nil_append, Nat.zero_add]
  refine T_block ?_
  refine T_loop (fun k E σ => ∃ (i : Nat) (out : List Int), (i ≤ n.toNat) ∧ (out = (List.range i).map Int.ofNat) ∧ (out.length = i) ∧ k = n.toNat - i ∧ E = [(1, edgesI p), (5, .m [0] 0 i 1), (9, intA n), (10, natA i)] ∧ σ = [.row (ints out)]) _ (E0 := [(1, edgesI p), (5, .m [0] 0 (0) 1), (9, intA n), (10, natA (0))]) (σ0 := [.row (ints ([]))]) (Weak.to 1 (by decide) rfl rfl rfl ⟨rfl, rfl, rfl, rfl, trivial⟩) ⟨(0), ([]), ?_, ?_, ?_, rfl, rfl, rfl⟩ ?_
  · omega
  · rfl
  · rfl
  rintro k E σ ⟨i, out, hi, ho, hl, rfl, rfl, rfl⟩
  refine T_seq ?_
  refine T_region ?_
  refine TO_cons rfl (TOp_pure (pur_lss rfl rfl rfl) rfl ?_)
  refine TO_nil ?_
  refine T_keep [1, 5, 9, 10, 11] ?_
  simp only [pick, List.map, lk, put, val, constA, entry, cellsOf, cellVal, cellVals, List.drop, List.take, List.append_assoc, List.nil_append, List.cons_append, List.singleton_append, List.length_cons, List.length_nil, List.set_cons_zero, List.set_cons_succ, setRow, setSub, spl, Root.under, List.getElem?_cons_zero, List.getElem?_cons_succ, List.map_cons, List.map_nil, reduceIte, Nat.reduceEqDiff, Nat.reduceAdd, Nat.reduceSub, Int.toNat_natCast, Nat.succ_ne_zero, Nat.zero_ne_one, Nat.one_ne_zero, mvE, mvA, mvR, mvH, mvS, A.names, namesL, A.ren, renL, rh, List.headD_cons, beq_self_eq_true, Nat.reduceBEq, Bool.or_false, Bool.false_or, Bool.or_self, Bool.false_eq_true, Nat.reduceMul, List.reduceReplicate, List.take_succ_cons, List.take_zero, ints_app, ints_one, rows_one, flat_app, flat_one, List.nil_append, Nat.zero_add]
  refine T_seq ?_
  refine T_cond rfl (fun c1 => ?_) (fun c1 => ?_)
  · try simp only [decide_eq_true_eq, decide_eq_false_iff_not, Bool.not_eq_true', Bool.not_eq_false', Int.not_lt, Int.not_le, Int.ofNat_lt, Int.ofNat_le, Int.ofNat_inj, ne_eq, Decidable.not_not] at c1
    refine T_skip ?_
    refine T_seq ?_
    refine T_block ?_
    refine T_seq ?_
    refine T_region ?_
    refine TO_cons rfl (TOp_pure (pur_move rfl) rfl ?_)
    refine TO_cons rfl (TOp_pure (pur_assign rfl) rfl ?_)
    refine TO_nil ?_
    refine T_keep [1, 5, 6, 9, 10] ?_
    simp only [pick, List.map, lk, put, val, constA, entry, cellsOf, cellVal, cellVals, List.drop, List.take, List.append_assoc, List.nil_append, List.cons_append, List.singleton_append, List.length_cons, List.length_nil, List.set_cons_zero, List.set_cons_succ, setRow, setSub, spl, Root.under, List.getElem?_cons_zero, List.getElem?_cons_succ, List.map_cons, List.map_nil, reduceIte, Nat.reduceEqDiff, Nat.reduceAdd, Nat.reduceSub, Int.toNat_natCast, Nat.succ_ne_zero, Nat.zero_ne_one, Nat.one_ne_zero, mvE, mvA, mvR, mvH, mvS, A.names, namesL, A.ren, renL, rh, List.headD_cons, beq_self_eq_true, Nat.reduceBEq, Bool.or_false, Bool.false_or, Bool.or_self, Bool.false_eq_true, Nat.reduceMul, List.reduceReplicate, List.take_succ_cons, List.take_zero, ints_app, ints_one, rows_one, flat_app, flat_one, List.nil_append, Nat.zero_add]
    refine T_region ?_
    refine TO_cons rfl (TOp_pure (pur_move rfl) rfl ?_)
    refine TO_cons rfl (TOp_pure (pur_move rfl) rfl ?_)
    refine TO_cons rfl (TOp_lit (nn := 1) (k := 1) sl31 zero3 rfl rfl rfl rfl (by decide) ?_)
    refine TO_cons rfl (TOp_app sl31 zero3 rfl bytes3 rfl rfl rfl rfl (by first | rfl | (simp only [ints_len, rows_len, Nat.mul_one]; omega) | (rw [flat_len len_edge]; omega)) (by first | exact src_m rfl rfl (Nat.le_of_ble_eq_true rfl) rfl rfl rfl | exact src_i _ (by decide) rfl (by first | rfl | exact (Nat.mul_one _).symm ▸ ints_len _ | exact flat_len len_edge _ | (simp [ints_len, rows_len]; done)) | exact src_n _ rfl) (by first | rfl | exact cells_ints _ | exact cells_edges _ | exact cells_rows _) (by omega) (by omega) (Nat.zero_le _) rfl ?_)
    refine TO_cons rfl (TOp_pure (pur_assign rfl) rfl ?_)
    refine TO_keep [1, 5, 9, 10] ?_
    simp only [pick, List.map, lk, put, val, constA, entry, cellsOf, cellVal, cellVals, List.drop, List.take, List.append_assoc, List.nil_append, List.cons_append, List.singleton_append, List.length_cons, List.length_nil, List.set_cons_zero, List.set_cons_succ, setRow, setSub, spl, Root.under, List.getElem?_cons_zero, List.getElem?_cons_succ, List.map_cons, List.map_nil, reduceIte, Nat.reduceEqDiff, Nat.reduceAdd, Nat.reduceSub, Int.toNat_natCast, Nat.succ_ne_zero, Nat.zero_ne_one, Nat.one_ne_zero, mvE, mvA, mvR, mvH, mvS, A.names, namesL, A.ren, renL, rh, List.headD_cons, beq_self_eq_true, Nat.reduceBEq, Bool.or_false, Bool.false_or, Bool.or_self, Bool.false_eq_true, Nat.reduceMul, List.reduceReplicate, List.take_succ_cons, List.take_zero, ints_app, ints_one, rows_one, flat_app, flat_one, List.nil_append, Nat.zero_add]
    refine TO_nil ?_
    refine T_region ?_
    refine TO_cons rfl (TOp_pure (pur_add rfl rfl rfl (fits64 (by omega) (by omega))) rfl ?_)
    refine TO_cons rfl (TOp_pure (pur_move rfl) rfl ?_)
    refine TO_nil ?_
    refine again0 (E' := [(1, edgesI p), (5, .m [0] 0 (i + 1) 1), (9, intA n), (10, natA (i + 1))]) (σ' := [.row (ints (out ++ [(i : Int)]))]) _ ?_ (Weak.to 1 (by decide) rfl rfl rfl ⟨rfl, rfl, rfl, rfl, trivial⟩) ⟨(i + 1), (out ++ [(i : Int)]), ?_, ?_, ?_, rfl, rfl, rfl⟩
    · omega
    · omega
    · rw [List.range_succ, List.map_append, ho]; rfl
    · simp [hl]
  · try simp only [decide_eq_true_eq, decide_eq_false_iff_not, Bool.not_eq_true', Bool.not_eq_false', Int.not_lt, Int.not_le, Int.ofNat_lt, Int.ofNat_le, Int.ofNat_inj, ne_eq, Decidable.not_not] at c1
    refine T_exit ?_
    refine then_exit ?_
    refine then_exit ?_
    refine block_exit ?_
    refine T_seq ?_
    refine T_block ?_
    subst hl
    refine T_frz (E' := [(1, edgesI p), (5, .i 1 (ints (out)))]) ⟨(by first | exact ⟨trivial, rfl⟩ | exact frz_ints rfl | exact frz_edges rfl | exact frz_rows rfl), (by first | exact ⟨trivial, rfl⟩ | exact frz_ints rfl | exact frz_edges rfl | exact frz_rows rfl), trivial⟩ ?_
    refine T_loop (fun k E σ => ∃ (left : List Int), (left.length ≤ 14) ∧ (∀ x ∈ left, 0 ≤ x ∧ x < n) ∧ (∀ S, Closed n p S → ∀ x ∈ S, x ∈ left) ∧ k = left.length ∧ E = [(1, edgesI p), (5, .i 1 (ints left))] ∧ σ = []) _ (E0 := [(1, edgesI p), (5, .i 1 (ints (out)))]) (σ0 := []) (Weak.to0 rfl ⟨rfl, rfl, trivial⟩) ⟨(out), ?_, ?_, ?_, rfl, rfl, rfl⟩ ?_
    · omega
    · intro x hx; rw [ho] at hx; have := range_in hx; omega
    · intro S hS x hx; rw [ho]; exact range_mem (by omega) x (hS x hx).1
    rintro k E σ ⟨left, hl14, hin, hS, rfl, rfl, rfl⟩
    refine T_seq ?_
    refine T_seq ?_
    refine T_region ?_
    refine TO_cons rfl (TOp_pure (pur_move rfl) rfl ?_)
    refine TO_cons rfl (TOp_pure (by first | exact pur_len sl31 rfl (by decide) rfl | exact pur_len_m sl31 rfl rfl | exact pur_len_n sl31 rfl rfl) rfl ?_)
    refine TO_cons rfl (TOp_pure (pur_gtr rfl rfl rfl) rfl ?_)
    refine TO_nil ?_
    refine T_keep [1, 5, 20] ?_
    simp only [pick, List.map, lk, put, val, constA, entry, cellsOf, cellVal, cellVals, List.drop, List.take, List.append_assoc, List.nil_append, List.cons_append, List.singleton_append, List.length_cons, List.length_nil, List.set_cons_zero, List.set_cons_succ, setRow, setSub, spl, Root.under, List.getElem?_cons_zero, List.getElem?_cons_succ, List.map_cons, List.map_nil, reduceIte, Nat.reduceEqDiff, Nat.reduceAdd, Nat.reduceSub, Int.toNat_natCast, Nat.succ_ne_zero, Nat.zero_ne_one, Nat.one_ne_zero, mvE, mvA, mvR, mvH, mvS, A.names, namesL, A.ren, renL, rh, List.headD_cons, beq_self_eq_true, Nat.reduceBEq, Bool.or_false, Bool.false_or, Bool.or_self, Bool.false_eq_true, Nat.reduceMul, List.reduceReplicate, List.take_succ_cons, List.take_zero, ints_app, ints_one, rows_one, flat_app, flat_one, List.nil_append, Nat.zero_add]
    refine T_cond rfl (fun c2 => ?_) (fun c2 => ?_)
    · try simp only [decide_eq_true_eq, decide_eq_false_iff_not, Bool.not_eq_true', Bool.not_eq_false', Int.not_lt, Int.not_le, Int.ofNat_lt, Int.ofNat_le, Int.ofNat_inj, ne_eq, Decidable.not_not] at c2
      refine T_skip ?_
      refine T_block ?_
      refine T_seq ?_
      refine T_region ?_
      refine TO_cons rfl (TOp_pure (pur_move rfl) rfl ?_)
      refine TO_cons rfl (TOp_pure (pur_move rfl) rfl ?_)
      refine TO_cons rfl (TOp_pure (pur_move rfl) rfl ?_)
      refine TO_cons rfl (TOp_callV (call_static ent51 rfl) (undominated p left hp (by omega)) rfl rfl rfl ?_)
      refine TO_cons rfl (TOp_callV (call_static ent78 rfl) (without left (und p left) (by omega) (by have := und_len (fun b => !(left.any fun a => decide ((a, b) ∈ p))) left; unfold und; omega)) rfl rfl rfl ?_)
      refine TO_cons rfl (TOp_pure (pur_assign rfl) rfl ?_)
      refine TO_nil ?_
      refine T_keep [1, 5, 7] ?_
      simp only [pick, List.map, lk, put, val, constA, entry, cellsOf, cellVal, cellVals, List.drop, List.take, List.append_assoc, List.nil_append, List.cons_append, List.singleton_append, List.length_cons, List.length_nil, List.set_cons_zero, List.set_cons_succ, setRow, setSub, spl, Root.under, List.getElem?_cons_zero, List.getElem?_cons_succ, List.map_cons, List.map_nil, reduceIte, Nat.reduceEqDiff, Nat.reduceAdd, Nat.reduceSub, Int.toNat_natCast, Nat.succ_ne_zero, Nat.zero_ne_one, Nat.one_ne_zero, mvE, mvA, mvR, mvH, mvS, A.names, namesL, A.ren, renL, rh, List.headD_cons, beq_self_eq_true, Nat.reduceBEq, Bool.or_false, Bool.false_or, Bool.or_self, Bool.false_eq_true, Nat.reduceMul, List.reduceReplicate, List.take_succ_cons, List.take_zero, ints_app, ints_one, rows_one, flat_app, flat_one, List.nil_append, Nat.zero_add]
      refine T_seq ?_
      refine T_seq ?_
      refine T_region ?_
      refine TO_cons rfl (TOp_pure (pur_move rfl) rfl ?_)
      refine TO_cons rfl (TOp_pure (by first | exact pur_len sl31 rfl (by decide) rfl | exact pur_len_m sl31 rfl rfl | exact pur_len_n sl31 rfl rfl) rfl ?_)
      refine TO_cons rfl (TOp_pure (pur_move rfl) rfl ?_)
      refine TO_cons rfl (TOp_pure (by first | exact pur_len sl31 rfl (by decide) rfl | exact pur_len_m sl31 rfl rfl | exact pur_len_n sl31 rfl rfl) rfl ?_)
      refine TO_cons rfl (TOp_pure (pur_eql rfl rfl rfl) rfl ?_)
      refine TO_nil ?_
      refine T_keep [1, 7, 30] ?_
      simp only [pick, List.map, lk, put, val, constA, entry, cellsOf, cellVal, cellVals, List.drop, List.take, List.append_assoc, List.nil_append, List.cons_append, List.singleton_append, List.length_cons, List.length_nil, List.set_cons_zero, List.set_cons_succ, setRow, setSub, spl, Root.under, List.getElem?_cons_zero, List.getElem?_cons_succ, List.map_cons, List.map_nil, reduceIte, Nat.reduceEqDiff, Nat.reduceAdd, Nat.reduceSub, Int.toNat_natCast, Nat.succ_ne_zero, Nat.zero_ne_one, Nat.one_ne_zero, mvE, mvA, mvR, mvH, mvS, A.names, namesL, A.ren, renL, rh, List.headD_cons, beq_self_eq_true, Nat.reduceBEq, Bool.or_false, Bool.false_or, Bool.or_self, Bool.false_eq_true, Nat.reduceMul, List.reduceReplicate, List.take_succ_cons, List.take_zero, ints_app, ints_one, rows_one, flat_app, flat_one, List.nil_append, Nat.zero_add]
      refine T_cond rfl (fun c3 => ?_) (fun c3 => ?_)
      · try simp only [decide_eq_true_eq, decide_eq_false_iff_not, Bool.not_eq_true', Bool.not_eq_false', Int.not_lt, Int.not_le, Int.ofNat_lt, Int.ofNat_le, Int.ofNat_inj, ne_eq, Decidable.not_not] at c3
        refine T_seq ?_
        refine T_region ?_
        refine TO_cons rfl (TOp_pure (pur_assign rfl) rfl ?_)
        refine TO_nil ?_
        refine T_keep [4] ?_
        simp only [pick, List.map, lk, put, val, constA, entry, cellsOf, cellVal, cellVals, List.drop, List.take, List.append_assoc, List.nil_append, List.cons_append, List.singleton_append, List.length_cons, List.length_nil, List.set_cons_zero, List.set_cons_succ, setRow, setSub, spl, Root.under, List.getElem?_cons_zero, List.getElem?_cons_succ, List.map_cons, List.map_nil, reduceIte, Nat.reduceEqDiff, Nat.reduceAdd, Nat.reduceSub, Int.toNat_natCast, Nat.succ_ne_zero, Nat.zero_ne_one, Nat.one_ne_zero, mvE, mvA, mvR, mvH, mvS, A.names, namesL, A.ren, renL, rh, List.headD_cons, beq_self_eq_true, Nat.reduceBEq, Bool.or_false, Bool.false_or, Bool.or_self, Bool.false_eq_true, Nat.reduceMul, List.reduceReplicate, List.take_succ_cons, List.take_zero, ints_app, ints_one, rows_one, flat_app, flat_one, List.nil_append, Nat.zero_add]
        refine T_ret ?_
        refine then_ret ?_
        refine block_ret ?_
        refine then_ret ?_
        refine block_ret ?_
        refine then_ret ?_
        refine end_ret (.tmp .nil) rfl rfl ⟨?_, rfl⟩
        simp only [resA, lk, reduceIte, Nat.reduceEqDiff]
        refine congrArg boolA ?_
        first | (rw [tr_true]; rintro ⟨S, hne, hc⟩; have hnil : left = [] := List.eq_nil_of_length_eq_zero (by omega)
                 obtain ⟨x, hx⟩ := List.exists_mem_of_ne_nil S hne
                 have := hS S hc x hx
                 rw [hnil] at this; cases this) | (rw [tr_false]; intro hn; refine hn ⟨left, ?_, fun x hx => ⟨hin x hx, rst_same (by assumption) x hx⟩⟩; intro hnil; subst hnil; simp at *)
      · try simp only [decide_eq_true_eq, decide_eq_false_iff_not, Bool.not_eq_true', Bool.not_eq_false', Int.not_lt, Int.not_le, Int.ofNat_lt, Int.ofNat_le, Int.ofNat_inj, ne_eq, Decidable.not_not] at c3
        refine T_skip ?_
        refine T_region ?_
        refine TO_cons rfl (TOp_pure (pur_move rfl) rfl ?_)
        refine TO_cons rfl (TOp_pure (pur_assign rfl) rfl ?_)
        refine TO_nil ?_
        refine again0 (E' := [(1, edgesI p), (5, .i 1 (ints (rst p left)))]) (σ' := []) _ ?_ (Weak.to0 rfl ⟨rfl, rfl, trivial⟩) ⟨(rst p left), ?_, ?_, ?_, rfl, rfl, rfl⟩
        · have := rst_len p left; have : (rst p left).length ≠ left.length := by assumption
          omega
        · have := rst_len p left; omega
        · exact fun x hx => hin x (rst_sub x hx)
        · exact fun S h => rst_closed h (hS S h)
    · try simp only [decide_eq_true_eq, decide_eq_false_iff_not, Bool.not_eq_true', Bool.not_eq_false', Int.not_lt, Int.not_le, Int.ofNat_lt, Int.ofNat_le, Int.ofNat_inj, ne_eq, Decidable.not_not] at c2
      refine T_exit ?_
      refine then_exit ?_
      refine then_exit ?_
      refine block_exit ?_
      refine T_seq ?_
      refine T_region ?_
      refine TO_cons rfl (TOp_pure (pur_assign rfl) rfl ?_)
      refine TO_nil ?_
      refine T_keep [4] ?_
      simp only [pick, List.map, lk, put, val, constA, entry, cellsOf, cellVal, cellVals, List.drop, List.take, List.append_assoc, List.nil_append, List.cons_append, List.singleton_append, List.length_cons, List.length_nil, List.set_cons_zero, List.set_cons_succ, setRow, setSub, spl, Root.under, List.getElem?_cons_zero, List.getElem?_cons_succ, List.map_cons, List.map_nil, reduceIte, Nat.reduceEqDiff, Nat.reduceAdd, Nat.reduceSub, Int.toNat_natCast, Nat.succ_ne_zero, Nat.zero_ne_one, Nat.one_ne_zero, mvE, mvA, mvR, mvH, mvS, A.names, namesL, A.ren, renL, rh, List.headD_cons, beq_self_eq_true, Nat.reduceBEq, Bool.or_false, Bool.false_or, Bool.or_self, Bool.false_eq_true, Nat.reduceMul, List.reduceReplicate, List.take_succ_cons, List.take_zero, ints_app, ints_one, rows_one, flat_app, flat_one, List.nil_append, Nat.zero_add]
      refine T_ret ?_
      refine end_ret (.tmp .nil) rfl rfl ⟨?_, rfl⟩
      simp only [resA, lk, reduceIte, Nat.reduceEqDiff]
      refine congrArg boolA ?_
      first | (rw [tr_true]; rintro ⟨S, hne, hc⟩; have hnil : left = [] := List.eq_nil_of_length_eq_zero (by omega)
               obtain ⟨x, hx⟩ := List.exists_mem_of_ne_nil S hne
               have := hS S hc x hx
               rw [hnil] at this; cases this) | (rw [tr_false]; intro hn; refine hn ⟨left, ?_, fun x hx => ⟨hin x hx, rst_same (by assumption) x hx⟩⟩; intro hnil; subst hnil; simp at *)

/-- impl.IsValidPreference -/
theorem impl_IsValidPreference (n : Int) (es p : List (Int × Int)) (he : es.length ≤ 1048576) (hr : R64 es) (hn : -9223372036854775808 ≤ n ∧ n ≤ 9223372036854775807) (hp : p.length ≤ 1048576) : FnV prg 17 [intA n, edgesI es, edgesI p] (boolA (tr (VP n es p))) := by
  refine fnV_of_T Try.func17 rfl rfl (Nat.le_of_ble_eq_true rfl) ?_
  simp only [entry, Nat.reduceAdd]
  refine T_seq ?_
  refine T_region ?_
  refine TO_cons rfl (TOp_pure (pur_assign rfl) rfl ?_)
  refine TO_nil ?_
  refine T_keep [0, 1, 2] ?_
  simp only [pick, List.map, lk, put, val, constA, entry, cellsOf, cellVal, cellVals, List.drop, List.take, List.append_assoc, List.nil_append, List.cons_append, List.singleton_append, List.length_cons, List.length_nil, List.set_cons_zero, List.set_cons_succ, setRow, setSub, spl, Root.under, List.getElem?_cons_zero, List.getElem?_cons_succ, List.map_cons, List.map_nil, reduceIte, Nat.reduceEqDiff, Nat.reduceAdd, Nat.reduceSub, Int.toNat_natCast, Nat.succ_ne_zero, Nat.zero_ne_one, Nat.one_ne_zero]
  refine T_seq ?_
  refine T_seq ?_
  refine T_region ?_
  refine TO_cons rfl (TOp_pure (pur_move rfl) rfl ?_)
  refine TO_cons rfl (TOp_pure (pur_move rfl) rfl ?_)
  refine TO_cons rfl (TOp_callV (call_static ent47 rfl) (impl_AreValidEdges _ _ (by first | assumption | omega | (simp_all; done) | (simp_all; omega)) (by first | assumption | omega | (simp_all; done) | (simp_all; omega)) (by first | assumption | omega | (simp_all; done) | (simp_all; omega))) rfl rfl rfl ?_)
  refine TO_cons rfl (TOp_pure (pur_not rfl rfl) rfl ?_)
  refine TO_nil ?_
  refine T_keep [0, 1, 2, 12] ?_
  simp only [pick, List.map, lk, put, val, constA, entry, cellsOf, cellVal, cellVals, List.drop, List.take, List.append_assoc, List.nil_append, List.cons_append, List.singleton_append, List.length_cons, List.length_nil, List.set_cons_zero, List.set_cons_succ, setRow, setSub, spl, Root.under, List.getElem?_cons_zero, List.getElem?_cons_succ, List.map_cons, List.map_nil, reduceIte, Nat.reduceEqDiff, Nat.reduceAdd, Nat.reduceSub, Int.toNat_natCast, Nat.succ_ne_zero, Nat.zero_ne_one, Nat.one_ne_zero]
  refine T_cond rfl (fun c1 => ?_) (fun c1 => ?_)
  · try simp only [decide_eq_true_eq, decide_eq_false_iff_not, Bool.not_eq_true', Bool.not_eq_false', Int.not_lt, Int.not_le, Int.ofNat_lt, Int.ofNat_le, Int.ofNat_inj, ne_eq, Decidable.not_not] at c1
    refine T_seq ?_
    refine T_region ?_
    refine TO_cons rfl (TOp_pure (pur_assign rfl) rfl ?_)
    refine TO_nil ?_
    refine T_keep [6] ?_
    simp only [pick, List.map, lk, put, val, constA, entry, cellsOf, cellVal, cellVals, List.drop, List.take, List.append_assoc, List.nil_append, List.cons_append, List.singleton_append, List.length_cons, List.length_nil, List.set_cons_zero, List.set_cons_succ, setRow, setSub, spl, Root.under, List.getElem?_cons_zero, List.getElem?_cons_succ, List.map_cons, List.map_nil, reduceIte, Nat.reduceEqDiff, Nat.reduceAdd, Nat.reduceSub, Int.toNat_natCast, Nat.succ_ne_zero, Nat.zero_ne_one, Nat.one_ne_zero]
    refine T_ret ?_
    refine then_ret ?_
    refine end_ret (.tmp .nil) rfl rfl ⟨?_, rfl⟩
    simp only [resA, lk, reduceIte, Nat.reduceEqDiff]
    refine congrArg boolA ?_
    first | (rw [tr_false]; intro h; exact tr_not.1 c1 h.1) | (rw [tr_false]; rintro ⟨h1, h2, h3⟩; have := h2 _ (getD_mem (d := default) (i := i) (by omega)); simp_all; done) | (refine tr_congr ⟨fun h => ⟨hve, all_of fun j hj => hall j (by omega), h⟩, fun h => h.2.2⟩)
  · try simp only [decide_eq_true_eq, decide_eq_false_iff_not, Bool.not_eq_true', Bool.not_eq_false', Int.not_lt, Int.not_le, Int.ofNat_lt, Int.ofNat_le, Int.ofNat_inj, ne_eq, Decidable.not_not] at c1
    have hve := tr_iff.1 c1
    refine T_skip ?_
    refine T_seq ?_
    refine T_seq ?_
    refine T_region ?_
    refine TO_cons rfl (TOp_pure (pur_move rfl) rfl ?_)
    refine TO_cons rfl (TOp_pure (by first | exact pur_len sl25 rfl (by decide) rfl | exact pur_len_m sl25 rfl rfl | exact pur_len_n sl25 rfl rfl) rfl ?_)
    refine TO_cons rfl (TOp_pure (pur_move rfl) rfl ?_)
    refine TO_nil ?_
    refine T_keep [0, 1, 2, 13, 14, 15] ?_
    simp only [pick, List.map, lk, put, val, constA, entry, cellsOf, cellVal, cellVals, List.drop, List.take, List.append_assoc, List.nil_append, List.cons_append, List.singleton_append, List.length_cons, List.length_nil, List.set_cons_zero, List.set_cons_succ, setRow, setSub, spl, Root.under, List.getElem?_cons_zero, List.getElem?_cons_succ, List.map_cons, List.map_nil, reduceIte, Nat.reduceEqDiff, Nat.reduceAdd, Nat.reduceSub, Int.toNat_natCast, Nat.succ_ne_zero, Nat.zero_ne_one, Nat.one_ne_zero]
    refine T_block ?_
    refine T_loop (fun k E σ => ∃ (i : Nat), (i ≤ p.length) ∧ (∀ j, j < i → (p.getD j default) ∈ es ∨ ((p.getD j default).2, (p.getD j default).1) ∈ es) ∧ k = p.length - i ∧ E = [(0, intA n), (1, edgesI es), (2, edgesI p), (13, edgesI p), (14, natA p.length), (15, natA i)] ∧ σ = []) _ (E0 := [(0, intA n), (1, edgesI es), (2, edgesI p), (13, edgesI p), (14, natA p.length), (15, natA (0))]) (σ0 := []) (Weak.to 0 (by decide) rfl rfl rfl ⟨rfl, rfl, rfl, rfl, rfl, rfl, trivial⟩) ⟨(0), ?_, ?_, rfl, rfl, rfl⟩ ?_
    · (first | omega | (simp_all; done) | (simp_all; omega))
    · (first | omega | (simp_all; done) | (simp_all; omega))
    rintro k E σ ⟨i, hi, hall, rfl, rfl, rfl⟩
    refine T_seq ?_
    refine T_region ?_
    refine TO_cons rfl (TOp_pure (pur_lss rfl rfl rfl) rfl ?_)
    refine TO_nil ?_
    refine T_keep [0, 1, 2, 13, 14, 15, 16] ?_
    simp only [pick, List.map, lk, put, val, constA, entry, cellsOf, cellVal, cellVals, List.drop, List.take, List.append_assoc, List.nil_append, List.cons_append, List.singleton_append, List.length_cons, List.length_nil, List.set_cons_zero, List.set_cons_succ, setRow, setSub, spl, Root.under, List.getElem?_cons_zero, List.getElem?_cons_succ, List.map_cons, List.map_nil, reduceIte, Nat.reduceEqDiff, Nat.reduceAdd, Nat.reduceSub, Int.toNat_natCast, Nat.succ_ne_zero, Nat.zero_ne_one, Nat.one_ne_zero]
    refine T_seq ?_
    refine T_cond rfl (fun c2 => ?_) (fun c2 => ?_)
    · try simp only [decide_eq_true_eq, decide_eq_false_iff_not, Bool.not_eq_true', Bool.not_eq_false', Int.not_lt, Int.not_le, Int.ofNat_lt, Int.ofNat_le, Int.ofNat_inj, ne_eq, Decidable.not_not] at c2
      refine T_skip ?_
      refine T_seq ?_
      refine T_block ?_
      refine T_seq ?_
      refine T_region ?_
      refine TO_cons rfl (TOp_pure (by first | exact pur_ixN sl25 rfl rfl (by omega) rfl | exact pur_ixN_m sl25 rfl rfl (by omega) rfl | exact pur_ix sl25 rfl rfl (by omega) (by omega) rfl | exact pur_ix_m sl25 rfl rfl (by omega) (by omega) rfl) rfl ?_)
      refine TO_cons rfl (TOp_pure (by first | exact pur_ldK_b agg52 rfl rfl (Nat.le_of_ble_eq_true rfl) rfl | exact pur_ldK_flat rfl _ len_edge agg52 rfl rfl (by omega)) rfl ?_)
      refine TO_cons rfl (TOp_alloc zero52 rfl rfl ?_)
      first | refine TO_cons rfl (TOp_storeB sz52 rfl rfl rfl rfl rfl rfl rfl (by decide) (Nat.le_of_ble_eq_true rfl) rfl ?_) | refine TO_cons rfl (TOp_setF len_edge (by decide) sz52 rfl rfl rfl rfl rfl (by omega) rfl rfl ?_)
      refine TO_nil ?_
      refine T_keep [0, 1, 2, 8, 13, 14, 15] ?_
      simp only [pick, List.map, lk, put, val, constA, entry, cellsOf, cellVal, cellVals, List.drop, List.take, List.append_assoc, List.nil_append, List.cons_append, List.singleton_append, List.length_cons, List.length_nil, List.set_cons_zero, List.set_cons_succ, setRow, setSub, spl, Root.under, List.getElem?_cons_zero, List.getElem?_cons_succ, List.map_cons, List.map_nil, reduceIte, Nat.reduceEqDiff, Nat.reduceAdd, Nat.reduceSub, Int.toNat_natCast, Nat.succ_ne_zero, Nat.zero_ne_one, Nat.one_ne_zero]
      refine T_seq ?_
      refine T_region ?_
      refine TO_cons rfl (TOp_pure (pur_move rfl) rfl ?_)
      refine TO_cons rfl (TOp_pure (by first | exact pur_ldK_b agg52 rfl rfl (Nat.le_of_ble_eq_true rfl) rfl | exact pur_ldK_flat rfl _ len_edge agg52 rfl rfl (by omega)) rfl ?_)
      refine TO_cons rfl (TOp_callV (call_static ent43 rfl) (Contains_edge es (p.getD i default) (by omega)) rfl rfl rfl ?_)
      refine TO_cons rfl (TOp_pure (pur_not rfl rfl) rfl ?_)
      refine TO_cons rfl (TOp_pure (pur_move rfl) rfl ?_)
      refine TO_split 23 rfl (fun g3 => ?_) (fun g3 => ?_)
      · try simp only [decide_eq_true_eq, decide_eq_false_iff_not, Bool.not_eq_true', Bool.not_eq_false', Int.not_lt, Int.not_le, Int.ofNat_lt, Int.ofNat_le, Int.ofNat_inj, ne_eq, Decidable.not_not] at g3
        refine TO_on rfl rfl (by decide) rfl rfl (TOp_pure (pur_move rfl) rfl ?_)
        refine TO_on rfl rfl (by decide) rfl rfl (TOp_pure (by first | exact pur_fa_q fld52_1 rfl rfl | exact pur_fa_b fld52_1 rfl rfl | exact pur_fa_e fld52_1 rfl rfl) rfl ?_)
        refine TO_on rfl rfl (by decide) rfl rfl (TOp_pure (by first | exact pur_ld_b one3 rfl rfl rfl rfl | exact pur_ld_flat rfl _ 1 len_edge one3 rfl rfl (by omega) rfl | exact pur_ld_q one3 rfl rfl rfl | exact pur_ld_e one3 rfl rfl rfl rfl) rfl ?_)
        refine TO_on rfl rfl (by decide) rfl rfl (TOp_pure (by first | exact pur_fa_q fld52_0 rfl rfl | exact pur_fa_b fld52_0 rfl rfl | exact pur_fa_e fld52_0 rfl rfl) rfl ?_)
        refine TO_on rfl rfl (by decide) rfl rfl (TOp_pure (by first | exact pur_ld_b one3 rfl rfl rfl rfl | exact pur_ld_flat rfl _ 0 len_edge one3 rfl rfl (by omega) rfl | exact pur_ld_q one3 rfl rfl rfl | exact pur_ld_e one3 rfl rfl rfl rfl) rfl ?_)
        refine TO_on rfl rfl (by decide) rfl rfl (TOp_pure (pur_build bld52 rfl rfl) rfl ?_)
        refine TO_on rfl rfl (by decide) rfl rfl (TOp_callV (call_static ent43 rfl) (Contains_edge es ((p.getD i default).2, (p.getD i default).1) (by omega)) rfl rfl rfl ?_)
        refine TO_on rfl rfl (by decide) rfl rfl (TOp_pure (pur_not rfl rfl) rfl ?_)
        refine TO_cons rfl (TOp_pure (pur_pick rfl rfl rfl) rfl ?_)
        refine TO_nil ?_
        refine T_keep [0, 1, 2, 13, 14, 15, 32] ?_
        simp only [pick, List.map, lk, put, val, constA, entry, cellsOf, cellVal, cellVals, List.drop, List.take, List.append_assoc, List.nil_append, List.cons_append, List.singleton_append, List.length_cons, List.length_nil, List.set_cons_zero, List.set_cons_succ, setRow, setSub, spl, Root.under, List.getElem?_cons_zero, List.getElem?_cons_succ, List.map_cons, List.map_nil, reduceIte, Nat.reduceEqDiff, Nat.reduceAdd, Nat.reduceSub, Int.toNat_natCast, Nat.succ_ne_zero, Nat.zero_ne_one, Nat.one_ne_zero]
        refine T_cond rfl (fun c4 => ?_) (fun c4 => ?_)
        · try simp only [decide_eq_true_eq, decide_eq_false_iff_not, Bool.not_eq_true', Bool.not_eq_false', Int.not_lt, Int.not_le, Int.ofNat_lt, Int.ofNat_le, Int.ofNat_inj, ne_eq, Decidable.not_not] at c4
          refine T_seq ?_
          refine T_region ?_
          refine TO_cons rfl (TOp_pure (pur_assign rfl) rfl ?_)
          refine TO_nil ?_
          refine T_keep [6] ?_
          simp only [pick, List.map, lk, put, val, constA, entry, cellsOf, cellVal, cellVals, List.drop, List.take, List.append_assoc, List.nil_append, List.cons_append, List.singleton_append, List.length_cons, List.length_nil, List.set_cons_zero, List.set_cons_succ, setRow, setSub, spl, Root.under, List.getElem?_cons_zero, List.getElem?_cons_succ, List.map_cons, List.map_nil, reduceIte, Nat.reduceEqDiff, Nat.reduceAdd, Nat.reduceSub, Int.toNat_natCast, Nat.succ_ne_zero, Nat.zero_ne_one, Nat.one_ne_zero]
          refine T_ret ?_
          refine block_ret ?_
          refine then_ret ?_
          refine then_ret ?_
          refine block_ret ?_
          refine then_ret ?_
          refine end_ret (.tmp .nil) rfl rfl ⟨?_, rfl⟩
          simp only [resA, lk, reduceIte, Nat.reduceEqDiff]
          refine congrArg boolA ?_
          first | (rw [tr_false]; intro h; exact tr_not.1 c1 h.1) | (rw [tr_false]; rintro ⟨h1, h2, h3⟩; have := h2 _ (getD_mem (d := default) (i := i) (by omega)); simp_all; done) | (refine tr_congr ⟨fun h => ⟨hve, all_of fun j hj => hall j (by omega), h⟩, fun h => h.2.2⟩)
        · try simp only [decide_eq_true_eq, decide_eq_false_iff_not, Bool.not_eq_true', Bool.not_eq_false', Int.not_lt, Int.not_le, Int.ofNat_lt, Int.ofNat_le, Int.ofNat_inj, ne_eq, Decidable.not_not] at c4
          refine T_skip ?_
          refine T_region ?_
          refine TO_cons rfl (TOp_pure (pur_add rfl rfl rfl (fits64 (by omega) (by omega))) rfl ?_)
          refine TO_cons rfl (TOp_pure (pur_move rfl) rfl ?_)
          refine TO_nil ?_
          refine again0 (E' := [(0, intA n), (1, edgesI es), (2, edgesI p), (13, edgesI p), (14, natA p.length), (15, natA (i + 1))]) (σ' := []) _ ?_ (Weak.to 0 (by decide) rfl rfl rfl ⟨rfl, rfl, rfl, rfl, rfl, rfl, trivial⟩) ⟨(i + 1), ?_, ?_, rfl, rfl, rfl⟩
          · omega
          · omega
          · refine all_succ hall ?_
            first | (exact .inl (by assumption)) | (exact .inr (by assumption))
      · try simp only [decide_eq_true_eq, decide_eq_false_iff_not, Bool.not_eq_true', Bool.not_eq_false', Int.not_lt, Int.not_le, Int.ofNat_lt, Int.ofNat_le, Int.ofNat_inj, ne_eq, Decidable.not_not] at g3
        refine TO_off rfl rfl (by decide) rfl rfl rfl ?_
        refine TO_off rfl rfl (by decide) rfl rfl rfl ?_
        refine TO_off rfl rfl (by decide) rfl rfl rfl ?_
        refine TO_off rfl rfl (by decide) rfl rfl rfl ?_
        refine TO_off rfl rfl (by decide) rfl rfl rfl ?_
        refine TO_off rfl rfl (by decide) rfl rfl rfl ?_
        refine TO_off rfl rfl (by decide) rfl rfl rfl ?_
        refine TO_off rfl rfl (by decide) rfl rfl rfl ?_
        refine TO_cons rfl (TOp_pure (pur_pick rfl rfl rfl) rfl ?_)
        refine TO_nil ?_
        refine T_keep [0, 1, 2, 13, 14, 15, 32] ?_
        simp only [pick, List.map, lk, put, val, constA, entry, cellsOf, cellVal, cellVals, List.drop, List.take, List.append_assoc, List.nil_append, List.cons_append, List.singleton_append, List.length_cons, List.length_nil, List.set_cons_zero, List.set_cons_succ, setRow, setSub, spl, Root.under, List.getElem?_cons_zero, List.getElem?_cons_succ, List.map_cons, List.map_nil, reduceIte, Nat.reduceEqDiff, Nat.reduceAdd, Nat.reduceSub, Int.toNat_natCast, Nat.succ_ne_zero, Nat.zero_ne_one, Nat.one_ne_zero]
        refine T_cond (t := false) rfl (fun h => nomatch h) (fun _ => ?_)
        refine T_skip ?_
        refine T_region ?_
        refine TO_cons rfl (TOp_pure (pur_add rfl rfl rfl (fits64 (by omega) (by omega))) rfl ?_)
        refine TO_cons rfl (TOp_pure (pur_move rfl) rfl ?_)
        refine TO_nil ?_
        refine again0 (E' := [(0, intA n), (1, edgesI es), (2, edgesI p), (13, edgesI p), (14, natA p.length), (15, natA (i + 1))]) (σ' := []) _ ?_ (Weak.to 0 (by decide) rfl rfl rfl ⟨rfl, rfl, rfl, rfl, rfl, rfl, trivial⟩) ⟨(i + 1), ?_, ?_, rfl, rfl, rfl⟩
        · omega
        · omega
        · refine all_succ hall ?_
          first | (exact .inl (by assumption)) | (exact .inr (by assumption))
    · try simp only [decide_eq_true_eq, decide_eq_false_iff_not, Bool.not_eq_true', Bool.not_eq_false', Int.not_lt, Int.not_le, Int.ofNat_lt, Int.ofNat_le, Int.ofNat_inj, ne_eq, Decidable.not_not] at c2
      refine T_exit ?_
      refine then_exit ?_
      refine then_exit ?_
      refine block_exit ?_
      refine T_seq ?_
      refine T_region ?_
      refine TO_cons rfl (TOp_pure (pur_move rfl) rfl ?_)
      refine TO_cons rfl (TOp_pure (pur_move rfl) rfl ?_)
      refine TO_cons rfl (TOp_callV (call_static ent48 rfl) (impl_areAcyclic n p hve.1.1 hve.1.2 hp) rfl rfl rfl ?_)
      refine TO_cons rfl (TOp_pure (pur_assign rfl) rfl ?_)
      refine TO_nil ?_
      refine T_keep [6] ?_
      simp only [pick, List.map, lk, put, val, constA, entry, cellsOf, cellVal, cellVals, List.drop, List.take, List.append_assoc, List.nil_append, List.cons_append, List.singleton_append, List.length_cons, List.length_nil, List.set_cons_zero, List.set_cons_succ, setRow, setSub, spl, Root.under, List.getElem?_cons_zero, List.getElem?_cons_succ, List.map_cons, List.map_nil, reduceIte, Nat.reduceEqDiff, Nat.reduceAdd, Nat.reduceSub, Int.toNat_natCast, Nat.succ_ne_zero, Nat.zero_ne_one, Nat.one_ne_zero]
      refine T_ret ?_
      refine end_ret (.tmp .nil) rfl rfl ⟨?_, rfl⟩
      simp only [resA, lk, reduceIte, Nat.reduceEqDiff]
      refine congrArg boolA ?_
      first | (rw [tr_false]; intro h; exact tr_not.1 c1 h.1) | (rw [tr_false]; rintro ⟨h1, h2, h3⟩; have := h2 _ (getD_mem (d := default) (i := i) (by omega)); simp_all; done) | (refine tr_congr ⟨fun h => ⟨hve, all_of fun j hj => hall j (by omega), h⟩, fun h => h.2.2⟩)
end Go.Proofs.Ytglgcncmjnjfgaa

/- Blocks of equal keys that stand together, in plain lists. -/
import Derived.Test.YtlcpdlngbofgcaaCY
set_option linter.unusedVariables false
set_option linter.unusedSimpArgs false
namespace Go.Sep
section
variable {κ : Type} [DecidableEq κ] (K : Nat → κ)
def blkN (n i : Nat) : List Nat := (List.range n).filter fun j => decide (K j = K i)
def firstB (i : Nat) : Bool := decide (∀ j, j < i → K j ≠ K i)
def firsts (n : Nat) : List Nat := (List.range n).filter (firstB K)
def BlN (n : Nat) : List (List Nat) := (firsts K n).map (blkN K n)
variable {K}
theorem firstB_iff {i : Nat} : firstB K i = true ↔ ∀ j, j < i → K j ≠ K i := by simp [firstB]
theorem blkN_succ (n i : Nat) : blkN K (n + 1) i = blkN K n i ++ if K n = K i then [n] else [] := by
  simp only [blkN, List.range_succ, List.filter_append, List.filter_cons, List.filter_nil, decide_eq_true_eq]
theorem firsts_succ (n : Nat) : firsts K (n + 1) = firsts K n ++ if firstB K n = true then [n] else [] := by
  simp only [firsts, List.range_succ, List.filter_append, List.filter_cons, List.filter_nil]
theorem mem_firsts {n i : Nat} : i ∈ firsts K n ↔ i < n ∧ firstB K i = true := by simp [firsts]
theorem exists_first {i : Nat} : ∃ j, j ≤ i ∧ K j = K i ∧ firstB K j = true := by
  induction i using Nat.strongRecOn with
  | ind i ih =>
    by_cases h : firstB K i = true
    · exact ⟨i, Nat.le_refl _, rfl, h⟩
    · have : ∃ j, j < i ∧ K j = K i := by
        rw [firstB_iff] at h
        simp only [Classical.not_forall, ne_eq, Decidable.not_not] at h
        obtain ⟨j, h1, h2⟩ := h
        exact ⟨j, h1, h2⟩
      obtain ⟨j, h1, h2⟩ := this
      obtain ⟨k, h3, h4, h5⟩ := ih j h1
      exact ⟨k, by omega, h4.trans h2, h5⟩
theorem first_uniq {i j : Nat} (hi : firstB K i = true) (hj : firstB K j = true) (h : K i = K j) : i = j := by
  rw [firstB_iff] at hi hj
  rcases Nat.lt_trichotomy i j with h1 | h1 | h1
  · exact (hj i h1 h).elim
  · exact h1
  · exact (hi j h1 h.symm).elim
theorem firsts_sorted (n : Nat) : (firsts K n).Pairwise (· < ·) := List.Pairwise.filter _ (List.pairwise_lt_range)
theorem blkN_head {n i : Nat} (hi : i < n) (hf : firstB K i = true) : (blkN K n i)[0]? = some i := by
  have hm : i ∈ blkN K n i := by simp [blkN, hi]
  have hs : (blkN K n i).Pairwise (· < ·) := List.Pairwise.filter _ (List.pairwise_lt_range)
  cases hb : blkN K n i with
  | nil => rw [hb] at hm; cases hm
  | cons x xs =>
    have hx : x ∈ blkN K n i := by rw [hb]; exact List.mem_cons_self ..
    simp only [blkN, List.mem_filter, List.mem_range, decide_eq_true_eq] at hx
    rw [hb] at hs hm
    rcases List.mem_cons.1 hm with rfl | hm
    · rfl
    · have := (List.pairwise_cons.1 hs).1 i hm
      exact ((firstB_iff.1 hf) x this hx.2).elim
theorem blkN_head' {n i : Nat} (hi : i < n) : ∃ j, (blkN K n i)[0]? = some j ∧ (j = i ↔ firstB K i = true) := by
  obtain ⟨j, h1, h2, h3⟩ := exists_first (K := K) (i := i)
  have e : blkN K n i = blkN K n j := by simp only [blkN, h2]
  refine ⟨j, by rw [e]; exact blkN_head (by omega) h3, ?_⟩
  constructor
  · rintro rfl; exact h3
  · intro h; exact first_uniq h3 h h2
theorem Bl_new {m : Nat} (hn : ∀ i, i < m → K i ≠ K m) : BlN K (m + 1) = BlN K m ++ [[m]] := by
  have hf : firstB K m = true := firstB_iff.2 hn
  have hb : blkN K (m + 1) m = [m] := by
    rw [blkN_succ, if_pos rfl]
    have : blkN K m m = [] := by
      simp only [blkN, List.filter_eq_nil_iff, List.mem_range, decide_eq_true_eq]
      exact hn
    rw [this]; rfl
  simp only [BlN, firsts_succ, if_pos hf, List.map_append, List.map_cons, List.map_nil, hb]
  congr 1
  apply List.map_congr_left
  intro i hi
  have := (mem_firsts.1 hi).1
  rw [blkN_succ, if_neg (fun e => hn i this e.symm), List.append_nil]
theorem Bl_old {m h : Nat} {F' : List Nat} (hF : firsts K m = F' ++ [h]) (hK : K h = K m) : BlN K (m + 1) = F'.map (blkN K m) ++ [blkN K m h ++ [m]] := by
  have hm : h ∈ firsts K m := by rw [hF]; simp
  obtain ⟨h1, h2⟩ := mem_firsts.1 hm
  have hf : ¬ firstB K m = true := fun hf => (firstB_iff.1 hf) h h1 hK
  simp only [BlN, firsts_succ, if_neg hf, List.append_nil, hF, List.map_append, List.map_cons, List.map_nil]
  rw [blkN_succ, if_pos hK.symm]
  congr 1
  apply List.map_congr_left
  intro i hi
  have hi' : i ∈ firsts K m := by rw [hF]; simp [hi]
  have hif := mem_firsts.1 hi'
  rw [blkN_succ, if_neg, List.append_nil]
  intro e
  have : i = h := first_uniq hif.2 h2 (e.symm.trans hK.symm)
  subst this
  have hs := firsts_sorted (K := K) m
  rw [hF, List.pairwise_append] at hs
  have := hs.2.2 i hi i (by simp)
  omega
/-- Where equal keys stand together: the last block is the only one that may go on. -/
theorem last_first {m h : Nat} {F' : List Nat} (hC : ∀ i j, i < j → j < m → K i = K m → K j = K i) (hF : firsts K m = F' ++ [h]) : K h = K m ↔ ∃ i, i < m ∧ K i = K m := by
  have hm : h ∈ firsts K m := by rw [hF]; simp
  obtain ⟨h1, h2⟩ := mem_firsts.1 hm
  constructor
  · intro hK; exact ⟨h, h1, hK⟩
  · rintro ⟨i, hi, hK⟩
    obtain ⟨j, g1, g2, g3⟩ := exists_first (K := K) (i := i)
    have hj : j ∈ firsts K m := mem_firsts.2 ⟨by omega, g3⟩
    rw [hF] at hj
    rcases List.mem_append.1 hj with hj | hj
    · have hs := firsts_sorted (K := K) m
      rw [hF, List.pairwise_append] at hs
      have hlt := hs.2.2 j hj h (by simp)
      have := hC j h hlt h1 (g2.trans hK)
      exact ((firstB_iff.1 h2) j hlt this.symm).elim
    · simp only [List.mem_singleton] at hj
      subst hj; exact g2.trans hK
end
end Go.Sep

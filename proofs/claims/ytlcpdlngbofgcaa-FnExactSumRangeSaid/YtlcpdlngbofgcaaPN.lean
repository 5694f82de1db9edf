/- What blocks of a database are. -/
import Derived.Test.YtlcpdlngbofgcaaPM
set_option linter.unusedVariables false
set_option linter.unusedSimpArgs false
namespace Go.Proofs.Ytlcpdlngbofgcaa
open Go Go.Proofs Go.Sep
theorem mem_blocksOf {d : Database} {b : List Int} (hb : b ∈ blocksOf d) : ∃ i, i < d.facts.length ∧ firstB (keyN d) i = true ∧ b = castL (blkN (keyN d) d.facts.length i) := by
  simp only [blocksOf, castB, BlN, List.map_map, List.mem_map] at hb
  obtain ⟨i, hi, rfl⟩ := hb
  obtain ⟨h1, h2⟩ := mem_firsts.1 hi
  exact ⟨i, h1, h2, rfl⟩
theorem blocksOf_ne {d : Database} : ∀ b ∈ blocksOf d, b ≠ [] := fun b hb e => by
  obtain ⟨i, h1, h2, rfl⟩ := mem_blocksOf hb
  have := blkN_head h1 h2
  cases hc : blkN (keyN d) d.facts.length i with
  | nil => rw [hc] at this; cases this
  | cons x xs => rw [hc] at e; simp [castL] at e
theorem blocksOf_mem {d : Database} {b : List Int} (hb : b ∈ blocksOf d) {x : Int} (hx : x ∈ b) : ∃ (i j : Nat), i < d.facts.length ∧ j < d.facts.length ∧ x = (j : Int) ∧ b[0]? = some (i : Int) ∧ keyN d j = keyN d i := by
  obtain ⟨i, h1, h2, rfl⟩ := mem_blocksOf hb
  simp only [castL, List.mem_map] at hx
  obtain ⟨j, hj, rfl⟩ := hx
  simp only [blkN, List.mem_filter, List.mem_range, decide_eq_true_eq] at hj
  exact ⟨i, j, h1, hj.1, rfl, by simp [castL, blkN_head h1 h2], hj.2⟩
/-- Blocks of firsts are apart: they hold no more than there are facts. -/
theorem sum_blk {κ : Type} [DecidableEq κ] {K : Nat → κ} : ∀ n : Nat, ((BlN K n).map List.length).sum = n
  | 0 => rfl
  | n + 1 => by
    have ih := sum_blk (K := K) n
    have key : ∀ F : List Nat, F.Nodup → (∀ i ∈ F, firstB K i = true) → ((F.map (blkN K (n + 1))).map List.length).sum = ((F.map (blkN K n)).map List.length).sum + (F.filter fun i => decide (K n = K i)).length := fun F => by
      induction F with
      | nil => intro _ _; rfl
      | cons i F ihF =>
        intro hnd hf
        have := ihF (List.nodup_cons.1 hnd).2 fun j hj => hf j (List.mem_cons_of_mem _ hj)
        simp only [List.map_cons, List.sum_cons, this, blkN_succ, List.length_append, List.filter_cons]
        by_cases e : K n = K i
        · simp [e]; omega
        · simp [e]; omega
    have hnd : (firsts K n).Nodup := (firsts_sorted (K := K) n).imp fun h => Nat.ne_of_lt h
    have h1 := key (firsts K n) hnd fun i hi => (mem_firsts.1 hi).2
    have e0 : ((firsts K n).map (blkN K n)).map List.length = (BlN K n).map List.length := rfl
    rw [e0, ih] at h1
    simp only [BlN, firsts_succ, List.map_append, List.sum_append, h1]
    obtain ⟨j, g1, g2, g3⟩ := exists_first (K := K) (i := n)
    by_cases hf : firstB K n = true
    · have hz : ((firsts K n).filter fun i => decide (K n = K i)) = [] := by
        rw [List.filter_eq_nil_iff]
        intro i hi
        have := mem_firsts.1 hi
        simp only [decide_eq_true_eq]
        intro e
        exact (firstB_iff.1 hf) i this.1 e.symm
      have hb : blkN K n n = [] := by
        simp only [blkN, List.filter_eq_nil_iff, List.mem_range, decide_eq_true_eq]
        exact firstB_iff.1 hf
      rw [hz, if_pos hf]
      simp [blkN_succ, hb]
    · rw [if_neg hf]
      have hjn : j < n := by
        rcases Nat.lt_or_ge j n with h | h
        · exact h
        · have : j = n := by omega
          subst this; exact (hf g3).elim
      have hj : j ∈ firsts K n := mem_firsts.2 ⟨hjn, g3⟩
      have hz : ((firsts K n).filter fun i => decide (K n = K i)).length = 1 := by
        have hsub : ∀ i ∈ (firsts K n).filter (fun i => decide (K n = K i)), i = j := fun i hi => by
          simp only [List.mem_filter, decide_eq_true_eq] at hi
          exact first_uniq (mem_firsts.1 hi.1).2 g3 (hi.2.symm.trans g2.symm)
        have hm : j ∈ (firsts K n).filter (fun i => decide (K n = K i)) := by simp [hj, g2]
        have hnd2 : ((firsts K n).filter fun i => decide (K n = K i)).Nodup := hnd.filter _
        generalize (firsts K n).filter (fun i => decide (K n = K i)) = L at hsub hm hnd2
        cases L with
        | nil => cases hm
        | cons a L =>
          cases L with
          | nil => rfl
          | cons b L =>
            have ha := hsub a (by simp)
            have hb := hsub b (by simp)
            rw [ha, hb] at hnd2
            simp at hnd2
      rw [hz]; simp
theorem blocksOf_sum (d : Database) : ((blocksOf d).map List.length).sum = d.facts.length := by
  have := sum_blk (K := keyN d) d.facts.length
  rw [← this]
  simp only [blocksOf, castB, List.map_map]
  congr 1
  apply List.map_congr_left
  intro b _
  simp [castL_len]
theorem blocksOf_len (d : Database) : (blocksOf d).length ≤ d.facts.length := by
  rw [blocksOf, castB_len]; exact BlN_len_le _ _
end Go.Proofs.Ytlcpdlngbofgcaa

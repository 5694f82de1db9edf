/- Blocks, on the spec's side. -/
import Derived.Test.YtlcpdlngbofgcaaPL
set_option linter.unusedVariables false
set_option linter.unusedSimpArgs false
namespace Go.Proofs.Ytlcpdlngbofgcaa
open Go Go.Proofs Go.Sep
theorem spec_valid {u : Nat} {d : Database} (hd : DbOK d) (hs : DbS d) (hu : 1048577 < u) : m_spec_IsValidDatabase u d = some true := by
  obtain ⟨b, h1, h2⟩ := spec_IsValidDatabase_eq u d hs hu
  rw [h1, h2.2 hd]
theorem spec_BlockOf_eq {u : Nat} {d : Database} (hd : DbOK d) (hs : DbS d) (hu : 1048577 < u) {i : Nat} (hi : i < d.facts.length) : m_spec_BlockOf u d (i : Int) = some (castL (blkN (keyN d) d.facts.length i)) := by
  unfold m_spec_BlockOf m_spec_l1In
  have hfew := hd.few
  obtain ⟨o, h1, h2⟩ := while_ok (f := fun (⟨out5, k6⟩ : (List Int) × Int) => (cond (decide (k6 < (d.facts.length : Int))) ((m_spec_IsValidDatabase u d).bind fun r_5 => cond r_5 ((some ((decide (0 ≤ (i : Int))) && (decide ((i : Int) ≤ (d.facts.length : Int) - 1)))).bind fun r_9 => some r_9) (some false)) (some false)).bind fun (t24 : Bool) => cond t24 ((getI d.facts (i : Int)).bind fun v_12 => (getI d.facts k6).bind fun v_17 => (m_spec_HaveSameKey u d.relations v_12 v_17).bind fun r_22 => cond r_22 ((app 8 out5 ([k6] : (List Int))).bind fun us_25 => some (Ctl.next (R := List Int) (us_25, (w64 (k6 + 1))))) (some (.next (out5, (w64 (k6 + 1)))))) (some (.brk (out5, k6))))
    (fun (s : List Int × Int) => ∃ m : Nat, s.2 = (m : Int) ∧ m ≤ d.facts.length ∧ s.1 = castL (blkN (keyN d) m i)) (fun (s : List Int × Int) => d.facts.length - s.2.toNat) (fun (s : List Int × Int) => s.1 = castL (blkN (keyN d) d.facts.length i)) (fun (_ : List Int) => False)
    (fun ⟨out, k⟩ ⟨m, hk, hm, hI⟩ => by
      simp only at hk hI
      subst hk
      simp only [spec_valid hd hs hu, Option.bind_some, cond_true]
      by_cases h : m < d.facts.length
      · have e : (decide (0 ≤ (i : Int)) && decide ((i : Int) ≤ (d.facts.length : Int) - 1)) = true := by simp; omega
        have hk := spec_HaveSameKey_eq (u := u) hd.rels (hd.fact i _ (List.getElem?_eq_getElem hi)) (hd.fact m _ (List.getElem?_eq_getElem h)) ⟨by have := hs.2.2.2 _ (List.getElem_mem hi); omega, by have := hs.2.2.2 _ (List.getElem_mem h); omega⟩ ⟨hs.2.2.2 _ (List.getElem_mem hi), hs.2.2.2 _ (List.getElem_mem h)⟩
        rw [← keyN_at hi, ← keyN_at h] at hk
        rw [cond_T' (by simpa using h), e, Option.bind_some, cond_T' rfl, getI_lt hi, Option.bind_some, getI_lt h, Option.bind_some, hk, Option.bind_some, w64_id (by omega)]
        have hl : out.length ≤ m := by rw [hI, castL_len]; exact Nat.le_trans (List.length_filter_le ..) (by simp)
        by_cases hK : keyN d i = keyN d m
        · rw [cond_T' (by simpa using hK), app_ok (by simp; omega), Option.bind_some]
          refine ⟨_, rfl, ⟨m + 1, by simp, h, ?_⟩, by simp only; omega⟩
          simp only
          rw [blkN_succ, if_pos hK.symm, hI]; simp [castL]
        · rw [cond_F' (by simpa using hK)]
          refine ⟨_, rfl, ⟨m + 1, by simp, h, ?_⟩, by simp only; omega⟩
          simp only
          rw [blkN_succ, if_neg (fun e => hK e.symm), hI, List.append_nil]
      · rw [cond_F' (by simpa using h), Option.bind_some, cond_F' rfl]
        have e : m = d.facts.length := by omega
        exact ⟨_, rfl, by simp only [CtlP]; rw [hI, e]⟩)
    u (([] : List Int), 0) (by show d.facts.length - (0 : Int).toNat < u; omega) ⟨0, rfl, by omega, rfl⟩
  rw [h1, Option.bind_some]
  cases o with
  | inr r => exact h2.elim
  | inl s => obtain ⟨out, k⟩ := s; simp only [SumP] at h2; subst h2; rfl
theorem spec_Blocks_eq {u : Nat} {d : Database} (hd : DbOK d) (hs : DbS d) (hu : 1048577 < u) : m_spec_Blocks u d = some (blocksOf d) := by
  unfold m_spec_Blocks
  have hfew := hd.few
  obtain ⟨o, h1, h2⟩ := while_ok (f := fun (⟨out3, i4⟩ : (List (List Int)) × Int) => (cond (decide (i4 < (d.facts.length : Int))) ((m_spec_IsValidDatabase u d).bind fun r_5 => some r_5) (some false)).bind fun (t15 : Bool) => cond t15 ((m_spec_BlockOf u d i4).bind fun r_8 => (getI r_8 0).bind fun v_10 => cond (decide (v_10 = i4)) ((app 24 out3 ([r_8] : (List (List Int)))).bind fun us_16 => some (Ctl.next (R := List (List Int)) (us_16, (w64 (i4 + 1))))) (some (.next (out3, (w64 (i4 + 1)))))) (some (.brk (out3, i4))))
    (fun (s : List (List Int) × Int) => ∃ m : Nat, s.2 = (m : Int) ∧ m ≤ d.facts.length ∧ s.1 = castB ((firsts (keyN d) m).map (blkN (keyN d) d.facts.length))) (fun (s : List (List Int) × Int) => d.facts.length - s.2.toNat) (fun (s : List (List Int) × Int) => s.1 = blocksOf d) (fun (_ : List (List Int)) => False)
    (fun ⟨out, k⟩ ⟨m, hk, hm, hI⟩ => by
      simp only at hk hI
      subst hk
      simp only [spec_valid hd hs hu, Option.bind_some]
      by_cases h : m < d.facts.length
      · obtain ⟨j, g1, g2⟩ := blkN_head' (K := keyN d) h
        have hg : getI (castL (blkN (keyN d) d.facts.length m)) 0 = some (j : Int) := by
          rw [show (0 : Int) = ((0 : Nat) : Int) from rfl, getI_nat]; simp [castL, g1]
        have hl : out.length ≤ m := by
          rw [hI, castB_len, List.length_map]; exact Nat.le_trans (List.length_filter_le ..) (by simp)
        rw [cond_T' (by simpa using h), Option.bind_some, cond_T' rfl, spec_BlockOf_eq hd hs hu h, Option.bind_some, hg, Option.bind_some, w64_id (by omega)]
        by_cases hf : firstB (keyN d) m = true
        · rw [cond_T' (by have := g2.2 hf; simp; omega), app_ok (by simp; omega), Option.bind_some]
          refine ⟨_, rfl, ⟨m + 1, by simp, h, ?_⟩, by simp only; omega⟩
          simp only
          rw [firsts_succ, if_pos hf, hI]; simp [castB]
        · rw [cond_F' (by have : ¬ j = m := fun e => hf (g2.1 e)
                          simp; omega)]
          refine ⟨_, rfl, ⟨m + 1, by simp, h, ?_⟩, by simp only; omega⟩
          simp only
          rw [firsts_succ, if_neg hf, hI, List.append_nil]
      · rw [cond_F' (by simpa using h), Option.bind_some, cond_F' rfl]
        have e : m = d.facts.length := by omega
        exact ⟨_, rfl, by simp only [CtlP]; rw [hI, e]; rfl⟩)
    u (([] : List (List Int)), 0) (by show d.facts.length - (0 : Int).toNat < u; omega) ⟨0, rfl, by omega, rfl⟩
  rw [h1, Option.bind_some]
  cases o with
  | inr r => exact h2.elim
  | inl s => obtain ⟨out, k⟩ := s; simp only [SumP] at h2; subst h2; rfl
end Go.Proofs.Ytlcpdlngbofgcaa

/- Blocks, for both sides. -/
import Derived.Test.YtlcpdlngbofgcaaPJ
import Derived.Test.YtlcpdlngbofgcaaPK
set_option linter.unusedVariables false
set_option linter.unusedSimpArgs false
namespace Go.Proofs.Ytlcpdlngbofgcaa
open Go Go.Proofs Go.Sep
def castL (l : List Nat) : List Int := l.map fun (j : Nat) => (j : Int)
def castB (b : List (List Nat)) : List (List Int) := b.map castL
theorem castL_len (l : List Nat) : (castL l).length = l.length := by simp [castL]
theorem castB_len (b : List (List Nat)) : (castB b).length = b.length := by simp [castB]
def keyN (d : Database) (i : Nat) : Int × List Int := keyF d.relations (d.facts.getD i default)
theorem keyN_at {d : Database} {i : Nat} (h : i < d.facts.length) : keyN d i = keyF d.relations d.facts[i] := by
  simp [keyN, List.getD, h]
theorem keyN_C {d : Database} (hd : DbOK d) {m : Nat} (hm : m < d.facts.length) : ∀ i j, i < j → j < m → keyN d i = keyN d m → keyN d j = keyN d i := fun i j hij hjm h => by
  rw [keyN_at (show i < d.facts.length by omega), keyN_at hm] at h
  rw [keyN_at (show j < d.facts.length by omega), keyN_at (show i < d.facts.length by omega)]
  have h1 := sorted_le hd (j - i) i d.facts[i] d.facts[j] (List.getElem?_eq_getElem _) (by rw [show i + (j - i) = j by omega]; exact List.getElem?_eq_getElem _)
  have h2 := sorted_le hd (m - j) j d.facts[j] d.facts[m] (List.getElem?_eq_getElem _) (by rw [show j + (m - j) = m by omega]; exact List.getElem?_eq_getElem hm)
  exact keyF_between h1 h2 h
/-- The blocks of a database. -/
def blocksOf (d : Database) : List (List Int) := castB (BlN (keyN d) d.facts.length)
theorem BlN_len_le (K : Nat → Int × List Int) (m : Nat) : (BlN K m).length ≤ m := by
  simp only [BlN, firsts, List.length_map]
  exact Nat.le_trans (List.length_filter_le ..) (by simp)
theorem impl_blocks_eq {d : Database} (hd : DbOK d) : m_impl_blocks d = some (blocksOf d) := by
  unfold m_impl_blocks
  obtain ⟨s, h1, h2⟩ := forS_ok (xs := d.facts) (s := ([] : List (List Int))) (f := fun (t_1 : Int) (x_t_1 : Fact) (out3 : (List (List Int))) => (cond (decide (0 ≤ ((out3.length : Int) - 1))) ((getI out3 ((out3.length : Int) - 1)).bind fun v_7 => (getI v_7 0).bind fun v_12 => (getI d.facts v_12).bind fun v_17 => (m_impl_sameKey d.relations v_17 x_t_1).bind fun r_22 => some r_22) (some false)).bind fun (t36 : Bool) => cond t36 ((getI out3 ((out3.length : Int) - 1)).bind fun v_25 => (app 8 v_25 ([(t_1 : Int)] : (List Int))).bind fun us_30 => some (out3.set (((out3.length : Int) - 1)).toNat us_30)) ((app 24 out3 ([([(t_1 : Int)] : (List Int))] : (List (List Int)))).bind fun us_32 => some us_32))
    (fun m out => out = castB (BlN (keyN d) m)) rfl fun m x out hx hI => by
      have hm : m < d.facts.length := (List.getElem?_eq_some_iff.1 hx).1
      rw [List.getElem?_eq_getElem hm] at hx; cases hx
      have hfew := hd.few
      have hlen : out.length ≤ m := by rw [hI, castB_len]; exact BlN_len_le _ _
      have hnew : (∀ i, i < m → keyN d i ≠ keyN d m) → ∃ s', ((app 24 out ([([(m : Int)] : (List Int))] : (List (List Int)))).bind fun us_32 => some us_32) = some s' ∧ s' = castB (BlN (keyN d) (m + 1)) := fun hn => by
        rw [app_ok (by simp; omega)]
        refine ⟨_, rfl, ?_⟩
        rw [Bl_new hn, hI]; simp [castB, castL]
      rcases List.eq_nil_or_concat (firsts (keyN d) m) with hF | ⟨F', h, hF⟩
      · have ho : out = [] := by rw [hI]; simp [BlN, hF, castB]
        have hn : ∀ i, i < m → keyN d i ≠ keyN d m := fun i hi _ => by
          obtain ⟨j, g1, _, g3⟩ := exists_first (K := keyN d) (i := i)
          have : j ∈ firsts (keyN d) m := mem_firsts.2 ⟨by omega, g3⟩
          rw [hF] at this; cases this
        rw [cond_F' (by simp [ho]), Option.bind_some, cond_F' rfl]
        exact hnew hn
      · rw [List.concat_eq_append] at hF
        have hlf := last_first (keyN_C hd hm) hF
        have hh : h ∈ firsts (keyN d) m := by rw [hF]; simp
        obtain ⟨hhm, hhf⟩ := mem_firsts.1 hh
        have ho : out = castB (F'.map (blkN (keyN d) m)) ++ [castL (blkN (keyN d) m h)] := by rw [hI]; simp [BlN, hF, castB]
        have hol : (out.length : Int) - 1 = ((F'.length : Nat) : Int) := by rw [ho]; simp [castB]
        have hget : getI out ((F'.length : Nat) : Int) = some (castL (blkN (keyN d) m h)) := by
          rw [getI_nat, ho, List.getElem?_append_right (by simp [castB])]; simp [castB]
        have hhead : getI (castL (blkN (keyN d) m h)) 0 = some (h : Int) := by
          have := blkN_head hhm hhf
          rw [show (0 : Int) = ((0 : Nat) : Int) from rfl, getI_nat]; simp [castL, this]
        have hhl : h < d.facts.length := by omega
        have hsk := impl_sameKey_eq hd.rels (hd.fact h _ (List.getElem?_eq_getElem hhl)) (hd.fact m _ (List.getElem?_eq_getElem hm))
        rw [← keyN_at hhl, ← keyN_at hm] at hsk
        rw [hol, cond_T' (by simp), hget, Option.bind_some, hhead, Option.bind_some, getI_lt hhl, Option.bind_some, hsk, Option.bind_some, Option.bind_some]
        by_cases hK : keyN d h = keyN d m
        · have hbl : (castL (blkN (keyN d) m h)).length ≤ m := by rw [castL_len]; exact Nat.le_trans (List.length_filter_le ..) (by simp)
          rw [cond_T' (by simpa using hK), Option.bind_some, app_ok (by simp; omega), Option.bind_some]
          refine ⟨_, rfl, ?_⟩
          rw [Bl_old hF hK, ho, Int.toNat_natCast, List.set_append_right _ _ (by simp [castB])]
          simp [castB, castL]
        · rw [cond_F' (by simpa using hK)]
          exact hnew fun i hi e => hK (hlf.2 ⟨i, hi, e⟩)
  rw [h1, Option.bind_some, h2]; rfl
end Go.Proofs.Ytlcpdlngbofgcaa

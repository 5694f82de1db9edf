/- Keys of facts on the spec's side, and facts that stand in order. -/
import Derived.Test.YtlcpdlngbofgcaaPI
set_option linter.unusedVariables false
set_option linter.unusedSimpArgs false
namespace Go.Proofs.Ytlcpdlngbofgcaa
open Go Go.Proofs Go.Sep
theorem cmpL_zero : ∀ (a b : List Int), cmpL a b = 0 ↔ a = b
  | [], [] => by simp [cmpL]
  | [], y :: b => by simp [cmpL]
  | x :: a, [] => by simp [cmpL]
  | x :: a, y :: b => by
    simp only [cmpL, List.cons.injEq]
    by_cases h1 : x < y
    · rw [if_pos h1]; constructor
      · intro h; omega
      · intro h; omega
    · by_cases h2 : y < x
      · rw [if_neg h1, if_pos h2]; constructor
        · intro h; omega
        · intro h; omega
      · rw [if_neg h1, if_neg h2, cmpL_zero a b]
        constructor
        · intro h; exact ⟨by omega, h⟩
        · intro h; exact h.2
/-- What stands between two lists with the same beginning begins so, too. -/
theorem cmpL_between : ∀ (m : Nat) (a b c : List Int), cmpL a b ≤ 0 → cmpL b c ≤ 0 → a.take m = c.take m → b.take m = a.take m
  | 0, a, b, c, _, _, _ => by simp
  | m + 1, [], [], c, _, _, _ => rfl
  | m + 1, [], y :: b, c, h1, h2, h => by
    cases c with
    | nil => simp [cmpL] at h2
    | cons z c => simp at h
  | m + 1, x :: a, [], c, h1, h2, h => by simp [cmpL] at h1
  | m + 1, x :: a, y :: b, [], h1, h2, h => by simp at h
  | m + 1, x :: a, y :: b, z :: c, h1, h2, h => by
    simp only [List.take_succ_cons, List.cons.injEq] at h ⊢
    obtain ⟨rfl, h⟩ := h
    simp only [cmpL] at h1 h2
    by_cases c1 : y < x
    · rw [if_neg (by omega), if_pos c1] at h1; omega
    · by_cases c2 : x < y
      · rw [if_neg (by omega), if_pos c2] at h2; omega
      · have : y = x := by omega
        subst this
        rw [if_neg (by omega), if_neg (by omega)] at h1 h2
        exact ⟨rfl, cmpL_between m a b c h1 h2 h⟩
theorem cmpL_trans : ∀ (a b c : List Int), cmpL a b ≤ 0 → cmpL b c ≤ 0 → cmpL a c ≤ 0
  | [], b, c, h1, h2 => by rw [cmpL_nil_l]; split <;> omega
  | x :: a, [], c, h1, h2 => by simp [cmpL] at h1
  | x :: a, y :: b, [], h1, h2 => by simp [cmpL] at h2
  | x :: a, y :: b, z :: c, h1, h2 => by
    simp only [cmpL] at h1 h2 ⊢
    by_cases c1 : x < z
    · rw [if_pos c1]; omega
    · rw [if_neg c1]
      by_cases c2 : x < y
      · have : z < y := by omega
        rw [if_neg (by omega), if_pos this] at h2; omega
      · rw [if_neg c2] at h1
        by_cases c3 : y < x
        · rw [if_pos c3] at h1; omega
        · rw [if_neg c3] at h1
          have : y = x := by omega
          subst this
          rw [if_neg c1] at h2
          by_cases c4 : z < y
          · rw [if_pos c4] at h2; omega
          · rw [if_neg c4] at h2 ⊢
            exact cmpL_trans a b c h1 h2
theorem cmpF_trans {a b c : Fact} (h1 : cmpF a b ≤ 0) (h2 : cmpF b c ≤ 0) : cmpF a c ≤ 0 := by
  unfold cmpF at *
  by_cases c1 : a.relation < c.relation
  · rw [if_pos c1]; omega
  · rw [if_neg c1]
    by_cases c2 : a.relation < b.relation
    · rw [if_neg (by omega), if_pos (by omega)] at h2; omega
    · rw [if_neg c2] at h1
      by_cases c3 : b.relation < a.relation
      · rw [if_pos c3] at h1; omega
      · rw [if_neg c3] at h1
        rw [if_neg (by omega)] at h2
        by_cases c4 : c.relation < b.relation
        · rw [if_pos c4] at h2; omega
        · rw [if_neg c4] at h2
          rw [if_neg (by omega)]
          exact cmpL_trans _ _ _ h1 h2
theorem keyF_between {l : List Relation} {a b c : Fact} (h1 : cmpF a b ≤ 0) (h2 : cmpF b c ≤ 0) (h : keyF l a = keyF l c) : keyF l b = keyF l a := by
  have hr : a.relation = c.relation := congrArg Prod.fst h
  have hv : a.values.take (keyLen l a) = c.values.take (keyLen l c) := congrArg Prod.snd h
  unfold cmpF at h1 h2
  by_cases c2 : a.relation < b.relation
  · rw [if_neg (by omega), if_pos (by omega)] at h2; omega
  · rw [if_neg c2] at h1
    by_cases c3 : b.relation < a.relation
    · rw [if_pos c3] at h1; omega
    · rw [if_neg c3] at h1
      rw [if_neg (by omega), if_neg (by omega)] at h2
      have hb : b.relation = a.relation := by omega
      have e1 : keyLen l b = keyLen l a := by simp only [keyLen, hb]
      have e2 : keyLen l c = keyLen l a := by simp only [keyLen, hr]
      rw [e2] at hv
      simp only [keyF, hb, e1, Prod.mk.injEq, true_and]
      exact cmpL_between _ _ _ _ h1 h2 hv
/-- Facts of a valid database stand in order. -/
theorem sorted_le {d : Database} (hd : DbOK d) : ∀ (k i : Nat) f g, d.facts[i]? = some f → d.facts[i + k]? = some g → cmpF f g ≤ 0
  | 0, i, f, g, h1, h2 => by
    rw [Nat.add_zero, h1] at h2; cases h2
    have : cmpL f.values f.values = 0 := (cmpL_zero _ _).2 rfl
    simp [cmpF, this]
  | k + 1, i, f, g, h1, h2 => by
    have hl : i + k < d.facts.length := by have := (List.getElem?_eq_some_iff.1 h2).1; omega
    have h3 : d.facts[i + k]? = some d.facts[i + k] := List.getElem?_eq_getElem hl
    have := sorted_le hd k i f _ h1 h3
    exact cmpF_trans this (Int.le_of_lt (hd.sorted (i + k) _ _ h3 h2))
theorem spec_KeyOf_eq {u : Nat} {l : List Relation} (hl : m_impl_AreValidRelations l = some true) {f : Fact} (hf : FactOK l f) (hu : f.values.length < u) (hs : f.values.length ≤ 1048576) : m_spec_KeyOf u l f = some (f.values.take (keyLen l f)) := by
  unfold m_spec_KeyOf
  obtain ⟨b, h1, h2⟩ := spec_isFact_eq u l f hu hs
  have hb : b = true := h2.2 ⟨hl, hf⟩
  subst hb
  obtain ⟨n, r, g1, g2, g3, g4⟩ := hf
  have hok := validRelations_ok hl r (List.mem_of_getElem? g2)
  rw [h1, Option.bind_some, cond_nt, g1, getI_nat, g2, Option.bind_some, cut_key hok.1 (by have := hok.2.1; omega), Option.bind_some, app_ok (by simp; omega), keyLen_eq g1 g2]
  simp
theorem spec_HaveSameKey_eq {u : Nat} {l : List Relation} (hl : m_impl_AreValidRelations l = some true) {a b : Fact} (ha : FactOK l a) (hb : FactOK l b) (hu : a.values.length < u ∧ b.values.length < u) (hs : a.values.length ≤ 1048576 ∧ b.values.length ≤ 1048576) : m_spec_HaveSameKey u l a b = some (decide (keyF l a = keyF l b)) := by
  unfold m_spec_HaveSameKey
  obtain ⟨b1, h1, h2⟩ := spec_isFact_eq u l a hu.1 hs.1
  obtain ⟨b2, h3, h4⟩ := spec_isFact_eq u l b hu.2 hs.2
  have e1 : b1 = true := h2.2 ⟨hl, ha⟩
  have e2 : b2 = true := h4.2 ⟨hl, hb⟩
  subst e1 e2
  rw [h1, Option.bind_some, cond_T' rfl, h3, Option.bind_some, cond_T' rfl]
  by_cases hr : a.relation = b.relation
  · rw [cond_T' (by simp [hr]), spec_KeyOf_eq hl ha hu.1 hs.1, Option.bind_some, spec_KeyOf_eq hl hb hu.2 hs.2, Option.bind_some, l3Ints_cmp _ _ u (by simp; omega) (by simp; omega) (by simp; omega), Option.bind_some, Option.bind_some]
    simp only [cmpL_zero, keyF, hr, Prod.mk.injEq, true_and]
  · rw [cond_F' (by simp [hr]), Option.bind_some]
    have : keyF l a ≠ keyF l b := fun e => hr (congrArg Prod.fst e)
    simp [this]
end Go.Proofs.Ytlcpdlngbofgcaa

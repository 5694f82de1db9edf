/- The least and the greatest of a list. -/
import Derived.Test.YtlcpdlngbofgcaaPQ
set_option linter.unusedVariables false
set_option linter.unusedSimpArgs false
namespace Go.Proofs.Ytlcpdlngbofgcaa
open Go Go.Proofs Go.Sep
theorem least_eq (l : List Int) (hne : l ≠ []) : ∃ m, m_spec_l27Least l = some m ∧ m ∈ l ∧ ∀ x ∈ l, m ≤ x := by
  have h0 : 0 < l.length := List.length_pos_iff.2 hne
  unfold m_spec_l27Least
  have hz : getI l 0 = some l[0] := getI_lt (n := 0) h0
  obtain ⟨s, h1, h2⟩ := forS_from (xs := l) (f := fun (i_6 : Int) (x_i_6 : Int) (n3 : Int) => some (if x_i_6 < n3 then x_i_6 else n3)) (fun n s => s ∈ l ∧ ∀ (j : Nat) x, j < n → l[j]? = some x → s ≤ x) (fun n x s hx ⟨hm, hI⟩ => by
    refine ⟨_, rfl, ?_, fun j y hj hy => ?_⟩
    · split
      · exact List.mem_of_getElem? hx
      · exact hm
    · by_cases e : j = n
      · subst e; rw [hx] at hy; cases hy; split <;> omega
      · have := hI j y (by omega) hy; split <;> omega) (l.length - 1) 1 l[0] (by omega) ⟨List.getElem_mem h0, fun j x hj hx => by
        have : j = 0 := by omega
        subst this
        rw [List.getElem?_eq_getElem h0] at hx; cases hx; exact Int.le_refl _⟩
  have h1' : forS (fun (i_6 : Int) (x_i_6 : Int) (n3 : Int) => some (if x_i_6 < n3 then x_i_6 else n3)) (l.drop 1) 1 l[0] = some s := h1
  rw [hz, Option.bind_some, h1', Option.bind_some]
  refine ⟨s, rfl, h2.1, fun x hx => ?_⟩
  obtain ⟨j, hj⟩ := List.getElem?_of_mem hx
  exact h2.2 j x (List.getElem?_eq_some_iff.1 hj).1 hj
theorem most_eq (l : List Int) (hne : l ≠ []) : ∃ m, m_spec_l27Most l = some m ∧ m ∈ l ∧ ∀ x ∈ l, x ≤ m := by
  have h0 : 0 < l.length := List.length_pos_iff.2 hne
  unfold m_spec_l27Most
  have hz : getI l 0 = some l[0] := getI_lt (n := 0) h0
  obtain ⟨s, h1, h2⟩ := forS_from (xs := l) (f := fun (i_6 : Int) (x_i_6 : Int) (n3 : Int) => some (if n3 < x_i_6 then x_i_6 else n3)) (fun n s => s ∈ l ∧ ∀ (j : Nat) x, j < n → l[j]? = some x → x ≤ s) (fun n x s hx ⟨hm, hI⟩ => by
    refine ⟨_, rfl, ?_, fun j y hj hy => ?_⟩
    · split
      · exact List.mem_of_getElem? hx
      · exact hm
    · by_cases e : j = n
      · subst e; rw [hx] at hy; cases hy; split <;> omega
      · have := hI j y (by omega) hy; split <;> omega) (l.length - 1) 1 l[0] (by omega) ⟨List.getElem_mem h0, fun j x hj hx => by
        have : j = 0 := by omega
        subst this
        rw [List.getElem?_eq_getElem h0] at hx; cases hx; exact Int.le_refl _⟩
  have h1' : forS (fun (i_6 : Int) (x_i_6 : Int) (n3 : Int) => some (if n3 < x_i_6 then x_i_6 else n3)) (l.drop 1) 1 l[0] = some s := h1
  rw [hz, Option.bind_some, h1', Option.bind_some]
  refine ⟨s, rfl, h2.1, fun x hx => ?_⟩
  obtain ⟨j, hj⟩ := List.getElem?_of_mem hx
  exact h2.2 j x (List.getElem?_eq_some_iff.1 hj).1 hj
end Go.Proofs.Ytlcpdlngbofgcaa

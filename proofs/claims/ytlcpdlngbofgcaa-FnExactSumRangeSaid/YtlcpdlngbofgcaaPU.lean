/- SumRange, the spec's side, and the law. -/
import Derived.Test.YtlcpdlngbofgcaaPT
set_option linter.unusedVariables false
set_option linter.unusedSimpArgs false
namespace Go.Proofs.Ytlcpdlngbofgcaa
open Go Go.Proofs Go.Sep
def lst (l : List Int) : Int := (m_spec_l27Least l).getD 0
def mst (l : List Int) : Int := (m_spec_l27Most l).getD 0
theorem sum_filter (p : List Int → Bool) (f : List Int → Int) : ∀ L : List (List Int), ((L.filter p).map f).sum = (L.map fun b => if p b = true then f b else 0).sum
  | [] => rfl
  | b :: L => by
    have ih := sum_filter p f L
    simp only [List.filter_cons, List.map_cons, List.sum_cons]
    by_cases h : p b = true
    · simp [h, ih]
    · simp [h, ih]
theorem spec_sums (L : List (List Int)) (hL : L.length ≤ 14) (h : ∀ l ∈ L, l ≠ [] ∧ ∀ x ∈ l, 0 ≤ x ∧ x ≤ 9) : forS (fun (i_6 : Int) (x_i_6 : (List Int)) (⟨lo9, hi10⟩ : Int × Int) => (m_spec_l27Least x_i_6).bind fun r_8 => (m_spec_l27Most x_i_6).bind fun r_10 => some ((w64 (lo9 + r_8)), (w64 (hi10 + r_10)))) L 0 (0, 0) = some ((L.map lst).sum, (L.map mst).sum) := by
  obtain ⟨s, h1, h2⟩ := forS_ok (xs := L) (s := ((0 : Int), (0 : Int))) (f := fun (i_6 : Int) (x_i_6 : (List Int)) (⟨lo9, hi10⟩ : Int × Int) => (m_spec_l27Least x_i_6).bind fun r_8 => (m_spec_l27Most x_i_6).bind fun r_10 => some ((w64 (lo9 + r_8)), (w64 (hi10 + r_10))))
    (fun n (s : Int × Int) => s = (((L.take n).map lst).sum, ((L.take n).map mst).sum) ∧ 0 ≤ s.1 ∧ s.1 ≤ 9 * (n : Int) ∧ 0 ≤ s.2 ∧ s.2 ≤ 9 * (n : Int)) ⟨rfl, by simp, by simp, by simp, by simp⟩ fun n l ⟨lo, hi⟩ hx ⟨hI, g1, g2, g3, g4⟩ => by
      have hn : n < L.length := (List.getElem?_eq_some_iff.1 hx).1
      obtain ⟨hne, hb⟩ := h l (List.mem_of_getElem? hx)
      obtain ⟨a, e1, m1, _⟩ := least_eq l hne
      obtain ⟨b, e2, m2, _⟩ := most_eq l hne
      have ha := hb a m1
      have hb' := hb b m2
      simp only at g1 g2 g3 g4
      simp only
      rw [e1, Option.bind_some, e2, Option.bind_some, w64_id (by omega), w64_id (by omega)]
      refine ⟨_, rfl, ?_, by simp only; omega, by simp only; omega, by simp only; omega, by simp only; omega⟩
      rw [List.take_add_one, hx]
      simp only [Prod.mk.injEq] at hI
      simp [hI.1, hI.2, lst, mst, e1, e2]
  rw [h1, h2.1, List.take_length]
end Go.Proofs.Ytlcpdlngbofgcaa

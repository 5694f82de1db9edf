/- A sum over choices: the ends are the sums of the blocks' ends. -/
import Derived.Test.YtlcpdlngbofgcaaPR
set_option linter.unusedVariables false
set_option linter.unusedSimpArgs false
namespace Go.Proofs.Ytlcpdlngbofgcaa
open Go Go.Proofs Go.Sep
theorem sum_lo (w mn : List Int → Int) (v : Int → Int) : ∀ {bs : List (List Int)}, (∀ b ∈ bs, (∃ x ∈ b, v x = mn b) ∧ ∀ x ∈ b, mn b ≤ v x) → (∃ c, Choice bs c ∧ (c.map v).sum = (bs.map mn).sum) ∧ ∀ c, Choice bs c → (bs.map mn).sum ≤ (c.map v).sum
  | [], _ => ⟨⟨[], trivial, rfl⟩, fun c hc => by cases c with | nil => exact Int.le_refl _ | cons => exact hc.elim⟩
  | b :: bs, h => by
    obtain ⟨⟨c, h1, h2⟩, h3⟩ := sum_lo w mn v (bs := bs) fun b' hb' => h b' (List.mem_cons_of_mem _ hb')
    obtain ⟨⟨x, hx, hv⟩, hb⟩ := h b (List.mem_cons_self ..)
    refine ⟨⟨x :: c, ⟨hx, h1⟩, by simp [hv, h2]⟩, fun c' hc' => ?_⟩
    cases c' with
    | nil => exact hc'.elim
    | cons y ys =>
      have := hb y hc'.1
      have := h3 ys hc'.2
      simp only [List.map_cons, List.sum_cons]; omega
theorem sum_hi (mx : List Int → Int) (v : Int → Int) : ∀ {bs : List (List Int)}, (∀ b ∈ bs, (∃ x ∈ b, v x = mx b) ∧ ∀ x ∈ b, v x ≤ mx b) → (∃ c, Choice bs c ∧ (c.map v).sum = (bs.map mx).sum) ∧ ∀ c, Choice bs c → (c.map v).sum ≤ (bs.map mx).sum
  | [], _ => ⟨⟨[], trivial, rfl⟩, fun c hc => by cases c with | nil => exact Int.le_refl _ | cons => exact hc.elim⟩
  | b :: bs, h => by
    obtain ⟨⟨c, h1, h2⟩, h3⟩ := sum_hi mx v (bs := bs) fun b' hb' => h b' (List.mem_cons_of_mem _ hb')
    obtain ⟨⟨x, hx, hv⟩, hb⟩ := h b (List.mem_cons_self ..)
    refine ⟨⟨x :: c, ⟨hx, h1⟩, by simp [hv, h2]⟩, fun c' hc' => ?_⟩
    cases c' with
    | nil => exact hc'.elim
    | cons y ys =>
      have := hb y hc'.1
      have := h3 ys hc'.2
      simp only [List.map_cons, List.sum_cons]; omega
theorem sum_ends {bs : List (List Int)} (v : Int → Int) (mn mx : List Int → Int) (h1 : ∀ b ∈ bs, (∃ x ∈ b, v x = mn b) ∧ ∀ x ∈ b, mn b ≤ v x) (h2 : ∀ b ∈ bs, (∃ x ∈ b, v x = mx b) ∧ ∀ x ∈ b, v x ≤ mx b) : Ends bs (fun c => (c.map v).sum) (bs.map mn).sum (bs.map mx).sum :=
  ⟨(sum_lo mn mn v h1).1, (sum_lo mn mn v h1).2, (sum_hi mx v h2).1, (sum_hi mx v h2).2⟩
/-- A sum of few small numbers does not wrap. -/
theorem addW_sum : ∀ (n : Nat) (xs : List Int), xs.length ≤ n → n ≤ 1048576 → (∀ x ∈ xs, 0 ≤ x ∧ x ≤ 1048576) → addW xs = xs.sum ∧ 0 ≤ xs.sum ∧ xs.sum ≤ 1048576 * (xs.length : Int)
  | 0, xs, hl, hn, h => by
    have : xs = [] := List.eq_nil_of_length_eq_zero (by omega)
    subst this
    exact ⟨rfl, by simp, by simp⟩
  | n + 1, xs, hl, hn, h => by
    rcases List.eq_nil_or_concat xs with rfl | ⟨ys, x, rfl⟩
    · exact ⟨rfl, by simp, by simp⟩
    · rw [List.concat_eq_append] at hl h ⊢
      rw [List.length_append, List.length_singleton] at hl
      obtain ⟨h1, h2, h3⟩ := addW_sum n ys (by omega) (by omega) fun y hy => h y (List.mem_append_left _ hy)
      have hx := h x (by simp)
      rw [addW_snoc, h1]
      simp only [List.foldl_cons, List.foldl_nil, List.sum_append, List.sum_singleton, List.length_append, List.length_singleton]
      have hb : (ys.length : Int) ≤ 1048576 := by omega
      rw [w64_id (by omega)]
      exact ⟨rfl, by omega, by omega⟩
end Go.Proofs.Ytlcpdlngbofgcaa

/- RowDifference: the law. -/
import Derived.Test.YtlcpdlngbofgcaaPA
set_option linter.unusedVariables false
set_option linter.unusedSimpArgs false
namespace Go.Proofs.Ytlcpdlngbofgcaa
open Go Go.Proofs Go.Sep
theorem l3Ints_eq (a b : List Int) (u : Nat) (hu : a.length < u) (ha : a.length ≤ 1048576) (hb : b.length ≤ 1048576) : ∃ r, m_spec_l3Ints u a b = some r ∧ (r = 0 ↔ a = b) := by
  unfold m_spec_l3Ints
  obtain ⟨o, h1, h2⟩ := while_ok (f := fun (i5 : Int) => cond ((decide (i5 < (a.length : Int))) && (decide (i5 < (b.length : Int)))) ((getI a i5).bind fun v_6 => (getI b i5).bind fun v_11 => cond (decide (v_6 < v_11)) (some (.ret (-1))) (cond (decide (v_11 < v_6)) (some (.ret 1)) (some (.next (w64 (i5 + 1)))))) (some (.brk i5)))
    (fun i => ∃ n : Nat, i = n ∧ n ≤ a.length ∧ n ≤ b.length ∧ ∀ j, j < n → a[j]? = b[j]?) (fun i => a.length - i.toNat) (fun i => ∃ n : Nat, i = n ∧ n ≤ a.length ∧ n ≤ b.length ∧ (∀ j, j < n → a[j]? = b[j]?) ∧ (n = a.length ∨ n = b.length)) (fun (r : Int) => r ≠ 0 ∧ a ≠ b)
    (fun i ⟨n, hi, hn1, hn2, hI⟩ => by
      subst hi
      by_cases h : n < a.length ∧ n < b.length
      · rw [cond_T' (by simp; omega), getI_lt h.1, Option.bind_some, getI_lt h.2, Option.bind_some]
        have hne : a[n] ≠ b[n] → a ≠ b := fun hx e => by subst e; exact hx rfl
        by_cases c1 : a[n] < b[n]
        · rw [cond_T' (by simpa using c1)]; exact ⟨_, rfl, by decide, hne (by omega)⟩
        · rw [cond_F' (by simpa using c1)]
          by_cases c2 : b[n] < a[n]
          · rw [cond_T' (by simpa using c2)]; exact ⟨_, rfl, by decide, hne (by omega)⟩
          · rw [cond_F' (by simpa using c2), w64_id (by omega)]
            refine ⟨_, rfl, ⟨n + 1, by omega, h.1, h.2, fun j hj => ?_⟩, by have := h.1; omega⟩
            by_cases e : j = n
            · subst e; rw [List.getElem?_eq_getElem h.1, List.getElem?_eq_getElem h.2]; congr 1; omega
            · exact hI j (by omega)
      · rw [cond_F' (by simp; omega)]
        exact ⟨_, rfl, n, rfl, hn1, hn2, hI, by omega⟩)
    u 0 (by simpa using hu) ⟨0, rfl, by omega, by omega, fun j hj => by omega⟩
  rw [h1, Option.bind_some]
  cases o with
  | inr r => exact ⟨r, rfl, by have := h2; constructor <;> intro h; exact (this.1 h).elim; exact (this.2 h).elim⟩
  | inl i =>
    obtain ⟨n, rfl, hn1, hn2, hI, hn⟩ := h2
    simp only [onS]
    by_cases c1 : a.length < b.length
    · rw [cond_T' (by simpa using c1)]; exact ⟨_, rfl, by constructor; intro h; simp at h; intro h; rw [h] at c1; omega⟩
    · rw [cond_F' (by simpa using c1)]
      by_cases c2 : b.length < a.length
      · rw [cond_T' (by simpa using c2)]; exact ⟨_, rfl, by constructor; intro h; simp at h; intro h; rw [h] at c2; omega⟩
      · rw [cond_F' (by simpa using c2)]
        refine ⟨0, rfl, by simp; apply List.ext_getElem?; intro j; by_cases hj : j < n; exact hI j hj; rw [List.getElem?_eq_none (by omega), List.getElem?_eq_none (by omega)]⟩
theorem spec_RowDifference_eq (a b : List (List Int)) (u : Nat) (hu : sizes a < u) (ha : a.length + sizes a ≤ 1048576) (hb : b.length + sizes b ≤ 1048576) : m_spec_RowDifference u a b = some (a.filter fun x => !decide (x ∈ b)) := by
  unfold m_spec_RowDifference
  rw [forS_filter (xs := a) (fun x => !decide (x ∈ b)) fun n x ys hx hy => ?_]
  · rfl
  · have hxl := sizes_mem (List.mem_of_getElem? hx)
    have hn : n < a.length := (List.getElem?_eq_some_iff.1 hx).1
    obtain ⟨s, h1, h2⟩ := forS_ok (xs := b) (s := false) (f := fun (k_3 : Int) (x_k_3 : (List Int)) (met7 : Bool) => cond met7 (some true) ((m_spec_l3Ints u x x_k_3).bind fun r_6 => some (decide (r_6 = 0))))
      (fun n s => s = decide (x ∈ b.take n)) (by simp) fun n y s hy hI => by
        have hyl := sizes_mem (List.mem_of_getElem? hy)
        refine ⟨decide (x ∈ b.take (n + 1)), ?_, rfl⟩
        rw [List.take_add_one, hy]
        cases s with
        | true =>
          have : x ∈ b.take n := of_decide_eq_true hI.symm
          simp [this]
        | false =>
          have : ¬ x ∈ b.take n := of_decide_eq_false hI.symm
          obtain ⟨r, h3, h4⟩ := l3Ints_eq x y u (by omega) (by omega) (by omega)
          rw [cond_F' rfl, h3, Option.bind_some]
          simp [this, h4]
    rw [List.take_length] at h2
    rw [h1, Option.bind_some, h2]
    by_cases hm : x ∈ b
    · rw [cond_F' (by simp [hm])]; simp [hm]
    · rw [cond_T' (by simp [hm]), app_ok (by simp; omega), Option.bind_some, app_ok (by simp; omega)]
      simp [hm]
theorem slices_Equal_eq (a b : List Int) : m_slices_Equal_int_int a b = some (decide (a = b)) := eqIntS_eq a b
theorem indexFunc_eq (xs : List (List Int)) (f : List Int → Option Bool) (p : List Int → Bool) (h : ∀ x ∈ xs, f x = some (p x)) : ∃ r, m_slices_IndexFunc_int_int xs f = some r ∧ (0 ≤ r ↔ ∃ x ∈ xs, p x = true) := by
  unfold m_slices_IndexFunc_int_int
  obtain ⟨o, h1, h2⟩ := forL_ok (xs := xs) (s := ()) (f := fun (t_1 : Int) (x_t_1 : (List Int)) (_ : Unit) => (f x_t_1).bind fun r_3 => cond r_3 (some (.ret (t_1 : Int))) (some (.next ())))
    (fun n _ => ∀ (j : Nat) x, j < n → xs[j]? = some x → p x = false) (fun _ => False) (fun r => 0 ≤ r ∧ ∃ x ∈ xs, p x = true) (fun j x hj => by omega) fun n x s hx hI => by
      have hm := List.mem_of_getElem? hx
      rw [h x hm, Option.bind_some]
      cases hp : p x with
      | true => exact ⟨_, rfl, by omega, x, hm, hp⟩
      | false =>
        refine ⟨_, rfl, fun j y hj hy => ?_⟩
        by_cases e : j = n
        · subst e; rw [hx] at hy; cases hy; exact hp
        · exact hI j y (by omega) hy
  rw [h1, Option.bind_some]
  cases o with
  | inl s =>
    have h3 := h2.resolve_right id
    refine ⟨-1, rfl, by constructor; intro h; omega; rintro ⟨x, hx, hp⟩; obtain ⟨j, hj⟩ := List.getElem?_of_mem hx; rw [h3 j x (List.getElem?_eq_some_iff.1 hj).1 hj] at hp; cases hp⟩
  | inr r => exact ⟨r, rfl, by simp only [SumP] at h2; simp [h2]⟩
theorem impl_RowDifference_eq (a b : List (List Int)) (ha : a.length + sizes a ≤ 1048576) (hb : b.length + sizes b ≤ 1048576) : m_impl_RowDifference a b = some (a.filter fun x => !decide (x ∈ b)) := by
  unfold m_impl_RowDifference
  rw [forS_filter (xs := a) (fun x => !decide (x ∈ b)) fun n x ys hx hy => ?_]
  · rfl
  · have hxl := sizes_mem (List.mem_of_getElem? hx)
    have hn : n < a.length := (List.getElem?_eq_some_iff.1 hx).1
    obtain ⟨r, h1, h2⟩ := indexFunc_eq b (fun x0 => m_impl_RowDifference_1 x0 x) (fun y => decide (y = x)) (fun y _ => by simp [m_impl_RowDifference_1, slices_Equal_eq])
    simp only [m_slices_ContainsFunc_int_int, h1, Option.bind_some]
    have h3 : decide (0 ≤ r) = decide (x ∈ b) := by simp [h2]
    rw [h3]
    by_cases hm : x ∈ b
    · rw [cond_F' (by simp [hm])]; simp [hm]
    · rw [cond_T' (by simp [hm]), app_ok (by simp; omega), Option.bind_some, app_ok (by simp; omega)]
      simp [hm]
theorem sizes_filter (p : List Int → Bool) : ∀ a : List (List Int), sizes (a.filter p) ≤ sizes a
  | [] => Nat.le_refl _
  | x :: a => by
    have := sizes_filter p a
    rw [List.filter_cons]
    split <;> simp only [sizes_cons] <;> omega
theorem law_RowDifference (a b : List (List Int)) (ha : a.length ≤ 9223372036854775807 ∧ ∀ x ∈ a, x.length ≤ 9223372036854775807) (hb : b.length ≤ 9223372036854775807 ∧ ∀ x ∈ b, x.length ≤ 9223372036854775807) : m_laws_FnExactRowDifference (sizes a + 1) a b = some true := by
  unfold m_laws_FnExactRowDifference
  obtain ⟨r1, h1, h2⟩ := szIntSS_inv (r := 0) (a := a) (left := 1048576) (by omega) (by omega) ha.1 ha.2
  rw [h1, Option.bind_some]
  rcases h2 with rfl | ⟨hr1, h2⟩
  · rw [cond_T' (by decide)]
  rw [cond_F' (by simp; omega)]
  obtain ⟨r2, h3, h4⟩ := szIntSS_inv (r := 0) (a := b) (left := r1) (by omega) (by omega) hb.1 hb.2
  rw [h3, Option.bind_some]
  rcases h4 with rfl | ⟨hr2, h4⟩
  · rw [cond_T' (by decide)]
  rw [cond_F' (by simp; omega)]
  have ta := toIntSS_eq a (by omega)
  have tb := toIntSS_eq b (by omega)
  have hs := spec_RowDifference_eq a b (sizes a + 1) (by omega) (by omega) (by omega)
  have hi := impl_RowDifference_eq a b (by omega) (by omega)
  have hf := sizes_filter (fun x => !decide (x ∈ b)) a
  generalize a.filter (fun x => !decide (x ∈ b)) = w at hs hi hf
  simp only [ta, tb, hs, hi, Option.bind_some, eqIntSS_eq, decide_true, Bool.not_true, cond_false]
  rw [markIntSS_eq a 1 (by omega) (by omega), Option.bind_some, markIntSS_eq b _ (by omega) (by omega), Option.bind_some]
  simp only
  rw [cond_F' (by simp; omega), Option.bind_some, cond_F' rfl, markIntSS_eq w 1 (by omega) (by omega), Option.bind_some]
  simp only
  rw [heldIntSS_eq w 1 (by omega) (by omega), Option.bind_some, cond_F' (by simp; omega), cond_F' (by simp), Option.bind_some, cond_F' (by simp; omega), cond_F' (by simp)]
end Go.Proofs.Ytlcpdlngbofgcaa

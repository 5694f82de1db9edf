/- RowDifference: what the functions compute, in plain Lean. -/
import Derived.Test.YtlcpdlngbofgcaaCY
import Derived.Test.YtlcpdlngbofgcaaM0
set_option linter.unusedVariables false
set_option linter.unusedSimpArgs false
namespace Go.Proofs.Ytlcpdlngbofgcaa
open Go Go.Proofs Go.Sep
/-! ### []int -/
theorem szIntS_eq (a : List Int) (left : Int) (h0 : 0 ≤ left) (h1 : left ≤ 1048576) (hl : a.length ≤ 9223372036854775807) : m_laws_szIntS a left = some (if left < a.length then -1 else left - a.length) := by
  unfold m_laws_szIntS
  rw [w64_id (by omega)]
  by_cases h : left < a.length
  · rw [cond_T' (by simp; omega), if_pos h]
  · rw [cond_F' (by simp; omega), if_neg h]
theorem toIntS_eq (a : List Int) (hl : a.length ≤ 1048576) : m_laws_toIntS a = some a := by
  unfold m_laws_toIntS
  rw [mk_ok (by omega) (by omega), Option.bind_some, forS_fill (fun x => x) (by simp) fun n x zs hx hz => ?_]
  · simp
  · have hn : n < zs.length := by have := (List.getElem?_eq_some_iff.1 hx).1; omega
    rw [getI_lt hn]; simp
theorem eqIntS_eq (a b : List Int) : m_laws_eqIntS a b = some (decide (a = b)) := by
  unfold m_laws_eqIntS
  by_cases hl : a.length = b.length
  · rw [cond_F' (by simp [hl])]
    obtain ⟨o, h1, h2⟩ := forL_all (f := fun (i_2 : Int) (x_i_2 : Int) (_ : Unit) => (getI b (i_2 : Int)).bind fun v_4 => cond (decide (x_i_2 ≠ v_4)) (some (.ret false)) (some (.next ()))) (xs := a) (r := false) (fun n x => decide (b[n]? = some x)) (fun n x hx => by
      have hn : n < b.length := by have := (List.getElem?_eq_some_iff.1 hx).1; omega
      rw [getI_lt hn, Option.bind_some, List.getElem?_eq_getElem hn]
      by_cases e : x = b[n]
      · simp [e]
      · simp [e, Ne.symm e])
    rw [h1, Option.bind_some]
    rcases h2 with ⟨rfl, h⟩ | ⟨rfl, n, x, hx, hp⟩
    · simp only [onS, Option.some.injEq]
      symm; simp only [decide_eq_true_eq]
      apply List.ext_getElem?
      intro n
      cases hx : a[n]? with
      | none => rw [List.getElem?_eq_none_iff] at hx; rw [List.getElem?_eq_none (by omega)]
      | some x => have := h n x hx; simp at this; exact this.symm
    · simp only [onS, Option.some.injEq]
      symm; simp only [decide_eq_false_iff_not]
      rintro rfl
      simp [hx] at hp
  · rw [cond_T' (by simp; omega)]
    have : a ≠ b := fun e => hl (by rw [e])
    simp [this]
/-- k, k + 1, .. -/
def marks (k : Int) (n : Nat) : List Int := (List.range n).map fun (i : Nat) => k + (i : Int)
theorem marks_len (k : Int) (n : Nat) : (marks k n).length = n := by simp [marks]
theorem marks_get (k : Int) (n i : Nat) (h : i < n) : (marks k n)[i]? = some (k + i) := by simp [marks, h]
theorem markIntS_eq (a : List Int) (k : Int) (h0 : 0 ≤ k) (h1 : k + a.length ≤ 4611686018427387904) : m_laws_markIntS a k = some (k + a.length, marks k a.length) := by
  unfold m_laws_markIntS
  obtain ⟨s, h2, h3⟩ := forM_ok (m := a.length) (s := (a, k)) (f := fun (i_1 : Int) (⟨a0m, k1⟩ : (List Int) × Int) => (getI a0m (i_1 : Int)).bind fun v_3 => some ((a0m.set ((i_1 : Int)).toNat k1), (w64 (k1 + 1))))
    (fun n s => s.2 = k + n ∧ s.1.length = a.length ∧ ∀ j, j < n → s.1[j]? = some (k + (j : Int))) ⟨by simp, rfl, fun j hj => by omega⟩ fun n s hn ⟨hk, hl, hI⟩ => by
      obtain ⟨xs, c⟩ := s
      simp only at hk hl hI
      refine ⟨(xs.set n c, c + 1), ?_, by simp only; omega, by simpa using hl, fun j hj => ?_⟩
      · show ((getI xs (n : Int)).bind fun v_3 => some ((xs.set (n : Int).toNat c), (w64 (c + 1)))) = _
        rw [getI_lt (by omega), Option.bind_some, w64_id (by omega)]; rfl
      · simp only
        by_cases e : n = j
        · subst e; rw [List.getElem?_set_self (by omega), hk]
        · rw [List.getElem?_set_ne e]; exact hI j (by omega)
  rw [h2, Option.bind_some]
  obtain ⟨xs, c⟩ := s
  obtain ⟨hk, hl, hI⟩ := h3
  simp only at hk hl hI
  show some (c, xs) = _
  rw [hk]
  congr 2
  apply List.ext_getElem?
  intro j
  by_cases hj : j < a.length
  · rw [hI j hj, marks_get _ _ _ hj]
  · rw [List.getElem?_eq_none (by omega), List.getElem?_eq_none (by rw [marks_len]; omega)]
theorem heldIntS_eq (k : Int) (n : Nat) (h0 : 0 ≤ k) (h1 : k + n ≤ 4611686018427387904) : m_laws_heldIntS (marks k n) k = some (k + n) := by
  unfold m_laws_heldIntS
  obtain ⟨o, h2, h3⟩ := forL_ok (xs := marks k n) (s := k) (f := fun (i_1 : Int) (x_i_1 : Int) (k1 : Int) => cond (decide (x_i_1 ≠ k1)) (some (.ret (-1))) (some (.next (w64 (k1 + 1)))))
    (fun j s => s = k + j) (fun _ => False) (fun (_ : Int) => False) (by simp) fun j x s hx hI => by
      have hj : j < n := by have := (List.getElem?_eq_some_iff.1 hx).1; rwa [marks_len] at this
      rw [marks_get _ _ _ hj] at hx
      cases hx
      refine ⟨.next (s + 1), ?_, by simp only [CtlP]; omega⟩
      rw [cond_F' (by simp [hI]), w64_id (by omega)]
  rw [h2, Option.bind_some]
  cases o with
  | inl s => have := h3.resolve_right id; rw [marks_len] at this; simp only [onS, this]
  | inr r => exact h3.elim
/-! ### [][]int -/
def sizes (a : List (List Int)) : Nat := (a.map List.length).sum
theorem sizes_cons (x : List Int) (a : List (List Int)) : sizes (x :: a) = x.length + sizes a := rfl
theorem sizes_take_succ {a : List (List Int)} {n : Nat} {x : List Int} (h : a[n]? = some x) : sizes (a.take (n + 1)) = sizes (a.take n) + x.length := by
  rw [List.take_add_one, h]; simp [sizes]
theorem sizes_take_le (a : List (List Int)) (n : Nat) : sizes (a.take n) ≤ sizes a := by
  have : sizes (a.take n ++ a.drop n) = sizes (a.take n) + sizes (a.drop n) := by simp only [sizes, List.map_append, List.sum_append]
  rw [List.take_append_drop] at this; omega
theorem sizes_mem : ∀ {a : List (List Int)} {x : List Int}, x ∈ a → x.length ≤ sizes a
  | y :: a, x, h => by
    rw [sizes_cons]
    rcases List.mem_cons.1 h with rfl | h
    · omega
    · have := sizes_mem h; omega
theorem szIntSS_inv {a : List (List Int)} {left r : Int} (h0 : 0 ≤ left) (h1 : left ≤ 1048576) (hl : a.length ≤ 9223372036854775807) (hls : ∀ x ∈ a, x.length ≤ 9223372036854775807) : ∃ r, m_laws_szIntSS a left = some r ∧ (r = -1 ∨ (0 ≤ r ∧ r + (a.length + sizes a : Nat) = left)) := by
  unfold m_laws_szIntSS
  rw [w64_id (by omega)]
  by_cases h : left < a.length
  · rw [cond_T' (by simp; omega)]; exact ⟨-1, rfl, .inl rfl⟩
  · rw [cond_F' (by simp; omega)]
    obtain ⟨o, h2, h3⟩ := forL_ok (xs := a) (s := left - a.length) (f := fun (i_2 : Int) (x_i_2 : (List Int)) (left1 : Int) => (m_laws_szIntS x_i_2 left1).bind fun r_4 => cond (decide (r_4 < 0)) (some (.ret (-1))) (some (.next r_4)))
      (fun n s => 0 ≤ s ∧ s + (a.length + sizes (a.take n) : Nat) = left) (fun _ => False) (fun r => r = -1) ⟨by omega, (by have : sizes (a.take 0) = 0 := rfl; omega)⟩ fun n x s hx ⟨hI0, hI⟩ => by
        rw [szIntS_eq x s hI0 (by omega) (hls x (List.mem_of_getElem? hx)), Option.bind_some]
        by_cases hs : s < x.length
        · rw [if_pos hs, cond_T' (by simp)]; exact ⟨_, rfl, rfl⟩
        · rw [if_neg hs, cond_F' (by simp; omega)]
          refine ⟨_, rfl, by omega, ?_⟩
          rw [sizes_take_succ hx]; omega
    rw [h2, Option.bind_some]
    cases o with
    | inl s => have := h3.resolve_right id; rw [List.take_length] at this; exact ⟨s, rfl, .inr this⟩
    | inr r => exact ⟨r, rfl, .inl h3⟩
theorem toIntSS_eq (a : List (List Int)) (hl : a.length + sizes a ≤ 1048576) : m_laws_toIntSS a = some a := by
  have hm : ∀ x ∈ a, x.length ≤ 1048576 := fun x hx => by
    have := sizes_mem hx
    omega
  unfold m_laws_toIntSS
  rw [mk_ok (by omega) (by omega), Option.bind_some, forS_fill (fun x => x) (by simp) fun n x zs hx hz => ?_]
  · simp
  · have hn : n < zs.length := by have := (List.getElem?_eq_some_iff.1 hx).1; omega
    rw [toIntS_eq x (hm x (List.mem_of_getElem? hx)), Option.bind_some, getI_lt hn]; simp
theorem eqIntSS_eq (a b : List (List Int)) : m_laws_eqIntSS a b = some (decide (a = b)) := by
  unfold m_laws_eqIntSS
  by_cases hl : a.length = b.length
  · rw [cond_F' (by simp [hl])]
    obtain ⟨o, h1, h2⟩ := forL_all (f := fun (i_2 : Int) (x_i_2 : (List Int)) (_ : Unit) => (getI b (i_2 : Int)).bind fun v_4 => (m_laws_eqIntS x_i_2 v_4).bind fun r_9 => cond (!r_9) (some (.ret false)) (some (.next ()))) (xs := a) (r := false) (fun n x => decide (b[n]? = some x)) (fun n x hx => by
      have hn : n < b.length := by have := (List.getElem?_eq_some_iff.1 hx).1; omega
      rw [getI_lt hn, Option.bind_some, eqIntS_eq, Option.bind_some, List.getElem?_eq_getElem hn]
      by_cases e : x = b[n]
      · simp [e]
      · simp [e, Ne.symm e])
    rw [h1, Option.bind_some]
    rcases h2 with ⟨rfl, h⟩ | ⟨rfl, n, x, hx, hp⟩
    · simp only [onS, Option.some.injEq]
      symm; simp only [decide_eq_true_eq]
      apply List.ext_getElem?
      intro n
      cases hx : a[n]? with
      | none => rw [List.getElem?_eq_none_iff] at hx; rw [List.getElem?_eq_none (by omega)]
      | some x => have := h n x hx; simp at this; exact this.symm
    · simp only [onS, Option.some.injEq]
      symm; simp only [decide_eq_false_iff_not]
      rintro rfl
      simp [hx] at hp
  · rw [cond_T' (by simp; omega)]
    have : a ≠ b := fun e => hl (by rw [e])
    simp [this]
/-- Rows, marked one after the other. -/
def marksSS : Int → List (List Int) → List (List Int)
  | _, [] => []
  | k, x :: xs => marks k x.length :: marksSS (k + x.length) xs
theorem marksSS_len : ∀ (k : Int) (a : List (List Int)), (marksSS k a).length = a.length
  | k, [] => rfl
  | k, x :: xs => by simp [marksSS, marksSS_len]
theorem marksSS_get : ∀ (a : List (List Int)) (k : Int) (n : Nat) (x : List Int), a[n]? = some x → (marksSS k a)[n]? = some (marks (k + sizes (a.take n)) x.length)
  | [], k, n, x, h => by simp at h
  | y :: a, k, 0, x, h => by simp at h; subst h; simp [marksSS, sizes]
  | y :: a, k, n + 1, x, h => by
    simp only [marksSS, List.getElem?_cons_succ, List.take_succ_cons, sizes_cons]
    rw [marksSS_get a (k + y.length) n x (by simpa using h)]
    congr 2; omega
theorem markIntSS_eq (a : List (List Int)) (k : Int) (h0 : 0 ≤ k) (h1 : k + sizes a ≤ 4611686018427387904) : m_laws_markIntSS a k = some (k + sizes a, marksSS k a) := by
  unfold m_laws_markIntSS
  obtain ⟨s, h2, h3⟩ := forM_ok (m := a.length) (s := (a, k)) (f := fun (i_1 : Int) (⟨a0m, k1⟩ : (List (List Int)) × Int) => (getI a0m (i_1 : Int)).bind fun v_3 => (m_laws_markIntS v_3 k1).bind fun r_8 => some ((a0m.set ((i_1 : Int)).toNat r_8.2), r_8.1))
    (fun n s => s.2 = k + sizes (a.take n) ∧ s.1 = (marksSS k a).take n ++ a.drop n) ⟨by simp [sizes], by simp⟩ fun n s hn ⟨hk, hI⟩ => by
      obtain ⟨xs, c⟩ := s
      simp only at hk hI
      have hx : a[n]? = some a[n] := List.getElem?_eq_getElem hn
      have hxl : (xs)[n]? = some a[n] := by
        rw [hI, List.getElem?_append_right (by simp [marksSS_len]; omega)]
        have : n - ((marksSS k a).take n).length = 0 := by simp [marksSS_len]; omega
        rw [this, List.getElem?_drop]; simp [hx]
      have hle := sizes_take_le a (n + 1)
      rw [sizes_take_succ hx] at hle
      refine ⟨(xs.set n (marks c a[n].length), c + a[n].length), ?_, by simp only; rw [sizes_take_succ hx]; omega, ?_⟩
      · show ((getI xs (n : Int)).bind fun v_3 => (m_laws_markIntS v_3 c).bind fun r_8 => some ((xs.set (n : Int).toNat r_8.2), r_8.1)) = _
        rw [getI_nat, hxl, Option.bind_some, markIntS_eq _ _ (by omega) (by omega)]; rfl
      · simp only
        rw [hI, List.set_append_right _ _ (by simp [marksSS_len]; omega)]
        have h6 : n - ((marksSS k a).take n).length = 0 := by simp [marksSS_len]; omega
        have e : a.drop n = a[n] :: a.drop (n + 1) := List.drop_eq_getElem_cons hn
        rw [h6, e, List.set_cons_zero, List.take_add_one, marksSS_get a k n a[n] hx, hk, Option.toList_some, List.append_assoc]; rfl
  rw [h2, Option.bind_some]
  obtain ⟨xs, c⟩ := s
  obtain ⟨hk, hI⟩ := h3
  simp only at hk hI
  show some (c, xs) = _
  rw [List.take_length] at hk
  rw [List.drop_eq_nil_of_le (Nat.le_refl _), ← marksSS_len k a, List.take_length, List.append_nil] at hI
  rw [hk, hI]
theorem heldIntSS_eq (a : List (List Int)) (k : Int) (h0 : 0 ≤ k) (h1 : k + sizes a ≤ 4611686018427387904) : m_laws_heldIntSS (marksSS k a) k = some (k + sizes a) := by
  unfold m_laws_heldIntSS
  obtain ⟨o, h2, h3⟩ := forL_ok (xs := marksSS k a) (s := k) (f := fun (i_1 : Int) (x_i_1 : (List Int)) (k1 : Int) => (m_laws_heldIntS x_i_1 k1).bind fun r_3 => cond (decide (r_3 < 0)) (some (.ret (-1))) (some (.next r_3)))
    (fun j s => s = k + sizes (a.take j)) (fun _ => False) (fun (_ : Int) => False) (by simp [sizes]) fun j x s hx hI => by
      have hj : j < a.length := by have := (List.getElem?_eq_some_iff.1 hx).1; rwa [marksSS_len] at this
      have hx' : a[j]? = some a[j] := List.getElem?_eq_getElem hj
      rw [marksSS_get a k j a[j] hx'] at hx
      cases hx
      have hle := sizes_take_le a (j + 1)
      rw [sizes_take_succ hx'] at hle
      refine ⟨.next (s + a[j].length), ?_, by simp only [CtlP]; rw [sizes_take_succ hx']; omega⟩
      rw [← hI, heldIntS_eq _ _ (by omega) (by omega), Option.bind_some, cond_F' (by simp; omega)]
  rw [h2, Option.bind_some]
  cases o with
  | inl s => have := h3.resolve_right id; rw [marksSS_len, List.take_length] at this; simp only [onS, this]
  | inr r => exact h3.elim
end Go.Proofs.Ytlcpdlngbofgcaa

/- All choices out of blocks, and the least and greatest of an aggregate over them. -/
import Derived.Test.YtlcpdlngbofgcaaPD
set_option linter.unusedVariables false
set_option linter.unusedSimpArgs false
namespace Go.Proofs.Ytlcpdlngbofgcaa
open Go Go.Proofs Go.Sep
/-- c takes one of each block. -/
def Choice : List (List Int) → List Int → Prop
  | [], [] => True
  | b :: bs, x :: xs => x ∈ b ∧ Choice bs xs
  | _, _ => False
theorem Choice.len : ∀ {bs : List (List Int)} {c : List Int}, Choice bs c → c.length = bs.length
  | [], [], _ => rfl
  | b :: bs, x :: xs, h => by simp [Choice.len h.2]
theorem Choice.get : ∀ {bs : List (List Int)} {c : List Int}, Choice bs c → ∀ (i : Nat) b, bs[i]? = some b → ∃ x, c[i]? = some x ∧ x ∈ b
  | b :: bs, x :: xs, h, 0, b', hb => by simp at hb; subst hb; exact ⟨x, rfl, h.1⟩
  | b :: bs, x :: xs, h, i + 1, b', hb => by simpa using Choice.get h.2 i b' (by simpa using hb)
def prodL (bs : List (List Int)) : Nat := (bs.map List.length).foldr (· * ·) 1
theorem prodL_cons (b : List Int) (bs : List (List Int)) : prodL (b :: bs) = b.length * prodL bs := rfl
theorem prodL_pos : ∀ {bs : List (List Int)}, (∀ b ∈ bs, b ≠ []) → 0 < prodL bs
  | [], _ => by decide
  | b :: bs, h => by
    rw [prodL_cons]
    have h1 : 0 < b.length := List.length_pos_iff.2 (h b (List.mem_cons_self ..))
    exact Nat.mul_pos h1 (prodL_pos fun x hx => h x (List.mem_cons_of_mem _ hx))
/-- The choice of a number: the last block's digit is the lowest. -/
def nth : List (List Int) → Nat → List Int
  | [], _ => []
  | b :: bs, k => b.getD (k / prodL bs % b.length) 0 :: nth bs k
theorem nth_len : ∀ (bs : List (List Int)) (k : Nat), (nth bs k).length = bs.length
  | [], k => rfl
  | b :: bs, k => by simp [nth, nth_len bs k]
theorem nth_choice : ∀ {bs : List (List Int)} (k : Nat), (∀ b ∈ bs, b ≠ []) → Choice bs (nth bs k)
  | [], k, _ => trivial
  | b :: bs, k, h => by
    have h1 : 0 < b.length := List.length_pos_iff.2 (h b (List.mem_cons_self ..))
    refine ⟨?_, nth_choice k fun x hx => h x (List.mem_cons_of_mem _ hx)⟩
    have hlt := Nat.mod_lt (k / prodL bs) h1
    rw [List.getD_eq_getElem?_getD, List.getElem?_eq_getElem hlt]
    exact List.getElem_mem hlt
theorem nth_mod : ∀ (bs : List (List Int)) (k m : Nat), (∀ b ∈ bs, b ≠ []) → nth bs (k + m * prodL bs) = nth bs k
  | [], k, m, _ => rfl
  | b :: bs, k, m, h => by
    have h' : ∀ x ∈ bs, x ≠ [] := fun x hx => h x (List.mem_cons_of_mem _ hx)
    have hp := prodL_pos h'
    have e : k + m * prodL (b :: bs) = k + (m * b.length) * prodL bs := by rw [prodL_cons, Nat.mul_assoc]
    simp only [nth]
    rw [e, nth_mod bs k (m * b.length) h', Nat.add_mul_div_right _ _ hp, Nat.add_mul_mod_self_right]
theorem nth_all : ∀ {bs : List (List Int)} {c : List Int}, Choice bs c → ∃ k, k < prodL bs ∧ nth bs k = c
  | [], [], _ => ⟨0, by decide, rfl⟩
  | b :: bs, x :: xs, h => by
    obtain ⟨k, hk, e⟩ := nth_all h.2
    obtain ⟨j, hj⟩ := List.getElem?_of_mem h.1
    have hjl : j < b.length := (List.getElem?_eq_some_iff.1 hj).1
    have hne : ∀ y ∈ bs, y ≠ [] := fun y hy e0 => by
      obtain ⟨i, hi⟩ := List.getElem?_of_mem hy
      obtain ⟨z, _, hz⟩ := h.2.get i y hi
      rw [e0] at hz; cases hz
    have hp := prodL_pos hne
    refine ⟨k + j * prodL bs, ?_, ?_⟩
    · rw [prodL_cons]
      have : j * prodL bs + prodL bs ≤ b.length * prodL bs := by rw [← Nat.succ_mul]; exact Nat.mul_le_mul_right _ hjl
      omega
    · simp only [nth]
      rw [nth_mod bs k j hne, e, Nat.add_mul_div_right _ _ hp, Nat.div_eq_of_lt hk, Nat.zero_add, Nat.mod_eq_of_lt hjl, List.getD_eq_getElem?_getD, hj]; rfl
/-- The lowest digits first, as the loop takes them: what is left of the number when block i is reached. -/
theorem prodL_append (a b : List (List Int)) : prodL (a ++ b) = prodL a * prodL b := by
  induction a with
  | nil => simp [prodL]
  | cons x a ih => rw [List.cons_append, prodL_cons, prodL_cons, ih, Nat.mul_assoc]
theorem nth_get : ∀ (bs : List (List Int)) (k i : Nat) (b : List Int), bs[i]? = some b → (nth bs k)[i]? = some (b.getD (k / prodL (bs.drop (i + 1)) % b.length) 0)
  | [], k, i, b, h => by simp at h
  | b0 :: bs, k, 0, b, h => by simp at h; subst h; simp [nth]
  | b0 :: bs, k, i + 1, b, h => by simpa [nth] using nth_get bs k i b (by simpa using h)
theorem nthRepair_eq (u : Nat) (bs : List (List Int)) (k : Nat) (hne : ∀ b ∈ bs, b ≠ []) (hk : k ≤ 9223372036854775807) (hl : bs.length ≤ 1048576) (hlb : ∀ b ∈ bs, b.length ≤ 1048576) (hu : bs.length < u) : m_impl_nthRepair u bs (k : Int) = some (nth bs k) := by
  unfold m_impl_nthRepair
  rw [mk_ok (by omega) (by omega), Option.bind_some]
  obtain ⟨o, h1, h2⟩ := while_ok (f := fun (⟨rank1, out5, i6⟩ : Int × (List Int) × Int) => cond (decide (0 ≤ i6)) ((getI bs i6).bind fun v_6 => (gD (v_6.length : Int)).bind fun _u => (getI v_6 (rank1.tmod (v_6.length : Int))).bind fun v_12 => (getI out5 i6).bind fun v_17 => (gD (v_6.length : Int)).bind fun _u => some (Ctl.next (R := List Int) ((w64 (rank1.tdiv (v_6.length : Int))), (out5.set (i6).toNat v_12), (w64 (i6 - 1))))) (some (.brk (rank1, out5, i6))))
    (fun (s : Int × List Int × Int) => ∃ n : Nat, s.2.2 = (n : Int) - 1 ∧ n ≤ bs.length ∧ s.1 = ((k / prodL (bs.drop n) : Nat) : Int) ∧ s.2.1.length = bs.length ∧ ∀ j, n ≤ j → j < bs.length → s.2.1[j]? = (nth bs k)[j]?)
    (fun (s : Int × List Int × Int) => (s.2.2 + 1).toNat) (fun (s : Int × List Int × Int) => s.2.1 = nth bs k) (fun (_ : List Int) => False)
    (fun ⟨rk, out, i⟩ ⟨n, hi, hn, hr, hol, hI⟩ => by
      simp only at hi hr hol hI
      subst hi hr
      by_cases h : 0 < n
      · have e : (n : Int) - 1 = ((n - 1 : Nat) : Int) := by omega
        have hn1 : n - 1 < bs.length := by omega
        have hb := hne _ (List.getElem_mem hn1)
        have hbl := hlb _ (List.getElem_mem hn1)
        have hpos : 0 < bs[n - 1].length := List.length_pos_iff.2 hb
        have hd : gD ((bs[n - 1].length : Nat) : Int) = some () := gD_ok (by omega)
        have hdr : bs.drop (n - 1) = bs[n - 1] :: bs.drop n := by
          have := List.drop_eq_getElem_cons hn1
          rwa [show n - 1 + 1 = n by omega] at this
        have hmod : (((k / prodL (bs.drop n) : Nat) : Int)).tmod ((bs[n - 1].length : Nat) : Int) = ((k / prodL (bs.drop n) % bs[n - 1].length : Nat) : Int) := by
          rw [Int.tmod_eq_emod_of_nonneg (Int.natCast_nonneg _)]; rfl
        obtain ⟨q, hq⟩ : ∃ q, k / prodL (bs.drop n) / bs[n - 1].length = q := ⟨_, rfl⟩
        have hdiv : (((k / prodL (bs.drop n) : Nat) : Int)).tdiv ((bs[n - 1].length : Nat) : Int) = ((q : Nat) : Int) := by
          rw [Int.tdiv_eq_ediv_of_nonneg (Int.natCast_nonneg _), ← hq]; rfl
        have hlt := Nat.mod_lt (k / prodL (bs.drop n)) hpos
        have hkk : q ≤ k := by rw [← hq]; exact Nat.le_trans (Nat.div_le_self ..) (Nat.div_le_self ..)
        simp only
        rw [cond_T' (by simp; omega), e, getI_lt hn1, Option.bind_some, hd, Option.bind_some, hmod, getI_lt hlt, Option.bind_some, getI_lt (show n - 1 < out.length by omega), Option.bind_some, Option.bind_some, hdiv, w64_id (by omega), w64_id (by omega)]
        refine ⟨_, rfl, ⟨n - 1, by simp only, by omega, ?_, by simpa using hol, fun j hj hjl => ?_⟩, by simp only; omega⟩
        · simp only
          rw [hdr, prodL_cons, ← hq, Nat.div_div_eq_div_mul, Nat.mul_comm]
        · simp only [Int.toNat_natCast]
          by_cases ej : n - 1 = j
          · subst ej
            rw [List.getElem?_set_self (by omega), nth_get bs k (n - 1) bs[n - 1] (List.getElem?_eq_getElem hn1), show n - 1 + 1 = n by omega, List.getD_eq_getElem?_getD, List.getElem?_eq_getElem hlt]; rfl
          · rw [List.getElem?_set_ne ej]; exact hI j (by omega) hjl
      · simp only
        rw [cond_F' (by simp; omega)]
        refine ⟨_, rfl, ?_⟩
        simp only [CtlP]
        apply List.ext_getElem?
        intro j
        by_cases hj : j < bs.length
        · exact hI j (by omega) hj
        · rw [List.getElem?_eq_none (by omega), List.getElem?_eq_none (by rw [nth_len]; omega)])
    u ((k : Int), List.replicate bs.length 0, (bs.length : Int) - 1) (by show ((bs.length : Int) - 1 + 1).toNat < u; omega) ⟨bs.length, rfl, Nat.le_refl _, (by show (k : Int) = ((k / prodL (bs.drop bs.length) : Nat) : Int); rw [List.drop_eq_nil_of_le (Nat.le_refl _)]; simp [prodL]), by simp, fun j h1 h2 => by omega⟩
  rw [h1, Option.bind_some]
  cases o with
  | inr r => exact h2.elim
  | inl s => obtain ⟨rk, out, i⟩ := s; simp only [SumP] at h2; subst h2; rfl
theorem countRepairs_eq (bs : List (List Int)) (hne : ∀ b ∈ bs, b ≠ []) (hb : prodL bs ≤ 9223372036854775807) : m_impl_countRepairs bs = some (prodL bs : Int) := by
  unfold m_impl_countRepairs
  obtain ⟨s, h1, h2⟩ := forS_ok (xs := bs) (s := (1 : Int)) (f := fun (t_1 : Int) (x_t_1 : (List Int)) (out3 : Int) => some (w64 (out3 * (x_t_1.length : Int)))) (fun n s => s = ((prodL (bs.take n) : Nat) : Int)) rfl fun n x s hx hI => by
    refine ⟨_, rfl, ?_⟩
    have e : prodL (bs.take (n + 1)) = prodL (bs.take n) * x.length := by
      rw [List.take_add_one, hx, prodL_append]; simp [prodL]
    have hle : prodL (bs.take (n + 1)) ≤ prodL bs := by
      have e2 : prodL bs = prodL (bs.take (n + 1)) * prodL (bs.drop (n + 1)) := by rw [← prodL_append, List.take_append_drop]
      rw [e2]
      exact Nat.le_mul_of_pos_right _ (prodL_pos fun y hy => hne y (List.mem_of_mem_drop hy))
    rw [hI, ← Int.natCast_mul, ← e, w64_id (by omega)]
  rw [h1, Option.bind_some, h2, List.take_length]
end Go.Proofs.Ytlcpdlngbofgcaa

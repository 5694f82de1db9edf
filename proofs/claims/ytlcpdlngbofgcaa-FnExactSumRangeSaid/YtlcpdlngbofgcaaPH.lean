/- The least and the greatest of an aggregate over all choices. -/
import Derived.Test.YtlcpdlngbofgcaaPG
set_option linter.unusedVariables false
set_option linter.unusedSimpArgs false
namespace Go.Proofs.Ytlcpdlngbofgcaa
open Go Go.Proofs Go.Sep
theorem prodL_le : ∀ bs : List (List Int), prodL bs ≤ 2 ^ (bs.map List.length).sum
  | [] => by decide
  | b :: bs => by
    rw [prodL_cons, List.map_cons, List.sum_cons, Nat.pow_add]
    exact Nat.mul_le_mul (Nat.le_of_lt (Nat.lt_two_pow_self)) (prodL_le bs)
/-- What rangeOf hands back: both ends are attained, and nothing lies beyond. -/
structure Ends (bs : List (List Int)) (ag : List Int → Int) (lo hi : Int) : Prop where
  lo_at : ∃ c, Choice bs c ∧ ag c = lo
  lo_le : ∀ c, Choice bs c → lo ≤ ag c
  hi_at : ∃ c, Choice bs c ∧ ag c = hi
  hi_ge : ∀ c, Choice bs c → ag c ≤ hi
theorem Ends.uniq {bs ag lo hi lo' hi'} (h : Ends bs ag lo hi) (h' : Ends bs ag lo' hi') : lo = lo' ∧ hi = hi' := by
  obtain ⟨c1, a1, b1⟩ := h.lo_at
  obtain ⟨c2, a2, b2⟩ := h'.lo_at
  obtain ⟨c3, a3, b3⟩ := h.hi_at
  obtain ⟨c4, a4, b4⟩ := h'.hi_at
  have := h'.lo_le c1 a1; have := h.lo_le c2 a2; have := h'.hi_ge c3 a3; have := h.hi_ge c4 a4
  omega
theorem rangeOf_eq (u : Nat) (d : Database) (bs : List (List Int)) (hb : m_impl_blocks d = some bs) (hne : ∀ b ∈ bs, b ≠ []) (hs : (bs.map List.length).sum ≤ 14) (hl : bs.length ≤ 14) (hu : 1048576 < u) {agg : List Int → Option Int} (ag : List Int → Int) (hag : ∀ c, Choice bs c → agg c = some (ag c)) : ∃ lo hi, m_impl_rangeOf u d agg = some (lo, hi) ∧ Ends bs ag lo hi := by
  have hp : prodL bs ≤ 16384 := Nat.le_trans (prodL_le bs) (Nat.le_trans (Nat.pow_le_pow_right (by decide) hs) (by decide))
  have hlb : ∀ b ∈ bs, b.length ≤ 1048576 := fun b hb => by
    have : ∀ {l : List (List Int)}, b ∈ l → b.length ≤ (l.map List.length).sum := fun {l} => by
      induction l with
      | nil => intro h; cases h
      | cons x l ih =>
        intro h
        rw [List.map_cons, List.sum_cons]
        rcases List.mem_cons.1 h with rfl | h
        · omega
        · have := ih h; omega
    have := this hb; omega
  have hpos := prodL_pos hne
  have hn : ∀ k : Nat, k ≤ 1048576 → m_impl_nthRepair u bs (k : Int) = some (nth bs k) := fun k hk => nthRepair_eq u bs k hne (by omega) (by omega) hlb (by omega)
  have ha : ∀ k : Nat, agg (nth bs k) = some (ag (nth bs k)) := fun k => hag _ (nth_choice k hne)
  unfold m_impl_rangeOf
  have h0 := hn 0 (by omega)
  rw [hb, Option.bind_some, show (0 : Int) = ((0 : Nat) : Int) from rfl, h0, Option.bind_some, ha, Option.bind_some, countRepairs_eq bs hne (by omega), Option.bind_some, gN_ok (by omega), Option.bind_some]
  obtain ⟨s, h1, h2⟩ := forM_ok (m := prodL bs) (s := (ag (nth bs 0), ag (nth bs 0))) (f := fun (t_9 : Int) (⟨least7, most8⟩ : Int × Int) => (m_impl_nthRepair u bs (t_9 : Int)).bind fun r_12 => (agg r_12).bind fun r_14 => some ((if r_14 < least7 then r_14 else least7), (if most8 < r_14 then r_14 else most8)))
    (fun n (s : Int × Int) => ((∃ k, ag (nth bs k) = s.1) ∧ ∀ k, k = 0 ∨ k < n → s.1 ≤ ag (nth bs k)) ∧ ((∃ k, ag (nth bs k) = s.2) ∧ ∀ k, k = 0 ∨ k < n → ag (nth bs k) ≤ s.2))
    ⟨⟨⟨0, rfl⟩, fun k hk => by rcases hk with rfl | hk; exact Int.le_refl _; omega⟩, ⟨0, rfl⟩, fun k hk => by rcases hk with rfl | hk; exact Int.le_refl _; omega⟩
    fun n ⟨lo, hi⟩ hnlt ⟨⟨⟨k1, e1⟩, hlo⟩, ⟨k2, e2⟩, hhi⟩ => by
      simp only at e1 hlo e2 hhi
      simp only
      rw [hn n (by omega), Option.bind_some, ha, Option.bind_some]
      refine ⟨_, rfl, ⟨?_, fun k hk => ?_⟩, ?_, fun k hk => ?_⟩
      · simp only; split
        · exact ⟨n, rfl⟩
        · exact ⟨k1, e1⟩
      · simp only
        by_cases e : k = n
        · subst e; split <;> omega
        · have := hlo k (by omega); split <;> omega
      · simp only; split
        · exact ⟨n, rfl⟩
        · exact ⟨k2, e2⟩
      · simp only
        by_cases e : k = n
        · subst e; split <;> omega
        · have := hhi k (by omega); split <;> omega
  rw [show ((0 : Nat) : Int) = (0 : Int) from rfl, h1, Option.bind_some]
  obtain ⟨lo, hi⟩ := s
  obtain ⟨⟨⟨k1, e1⟩, hlo⟩, ⟨k2, e2⟩, hhi⟩ := h2
  simp only at e1 hlo e2 hhi
  refine ⟨lo, hi, rfl, ⟨⟨_, nth_choice k1 hne, e1⟩, fun c hc => ?_, ⟨_, nth_choice k2 hne, e2⟩, fun c hc => ?_⟩⟩
  · obtain ⟨k, hk, rfl⟩ := nth_all hc; exact hlo k (.inr hk)
  · obtain ⟨k, hk, rfl⟩ := nth_all hc; exact hhi k (.inr hk)
end Go.Proofs.Ytlcpdlngbofgcaa

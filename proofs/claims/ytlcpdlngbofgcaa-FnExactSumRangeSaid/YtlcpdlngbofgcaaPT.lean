/- SumRange: both sides agree. -/
import Derived.Test.YtlcpdlngbofgcaaPS
set_option linter.unusedVariables false
set_option linter.unusedSimpArgs false
namespace Go.Proofs.Ytlcpdlngbofgcaa
open Go Go.Proofs Go.Sep
/-- What one index adds, as a number. -/
def pickS (d : Database) (r c x : Int) : Int := (pickV d r c x).sum
/-- A block's members add their values if the block is of the relation, and nothing else. -/
theorem block_pick {d : Database} {r c : Int} (hok : ColOK d r c) (hs : DbS d) {b : List Int} (hb : b ∈ blocksOf d) :
    (relF d (b.headD 0) = r → ∀ x ∈ b, pickV d r c x = [valF d c x] ∧ 0 ≤ valF d c x ∧ valF d c x ≤ 9) ∧ (relF d (b.headD 0) ≠ r → ∀ x ∈ b, pickV d r c x = []) := by
  have key : ∀ x ∈ b, ∃ j : Nat, ∃ hj : j < d.facts.length, x = (j : Int) ∧ d.facts[j].relation = relF d (b.headD 0) := fun x hx => by
    obtain ⟨i, j, hi, hj, rfl, hh, hk⟩ := blocksOf_mem hb hx
    have hhd : b.headD 0 = (i : Int) := by cases b with | nil => cases hx | cons y ys => simpa using hh
    rw [keyN_at hj, keyN_at hi] at hk
    exact ⟨j, hj, rfl, by rw [hhd, relF_at hi]; exact congrArg Prod.fst hk⟩
  refine ⟨fun hr x hx => ?_, fun hr x hx => ?_⟩
  · obtain ⟨j, hj, rfl, he⟩ := key x hx
    have := valF_at hok hj (he.trans hr) (hs.2.2.2 _ (List.getElem_mem hj))
    exact this.2
  · obtain ⟨j, hj, rfl, he⟩ := key x hx
    have : d.facts[j].relation ≠ r := fun e => hr (he.symm.trans e)
    simp only [pickV, Int.toNat_natCast, List.getElem?_eq_getElem hj, if_neg this]
theorem pick_small {d : Database} {r c : Int} (hok : ColOK d r c) (hs : DbS d) {ch : List Int} (hc : Choice (blocksOf d) ch) : (∀ x ∈ ch.flatMap (pickV d r c), 0 ≤ x ∧ x ≤ 9) ∧ (ch.flatMap (pickV d r c)).length ≤ 14 := by
  have hone : ∀ x ∈ ch, (pickV d r c x).length ≤ 1 ∧ ∀ y ∈ pickV d r c x, 0 ≤ y ∧ y ≤ 9 := fun x hx => by
    obtain ⟨b, h1, h2⟩ := hc.mem x hx
    have h3 := block_pick hok hs h1
    by_cases hr : relF d (b.headD 0) = r
    · have := h3.1 hr x h2
      rw [this.1]; exact ⟨by simp, fun y hy => by simp at hy; subst hy; exact this.2⟩
    · rw [h3.2 hr x h2]; exact ⟨by simp, fun y hy => by cases hy⟩
  refine ⟨fun x hx => ?_, ?_⟩
  · obtain ⟨y, h1, h2⟩ := List.mem_flatMap.1 hx
    exact (hone y h1).2 x h2
  · have hl := hc.len
    have h1 := blocksOf_len d
    have h2 := hok.1.few
    have : ∀ {l : List Int}, (∀ x ∈ l, (pickV d r c x).length ≤ 1) → (l.flatMap (pickV d r c)).length ≤ l.length := fun {l} => by
      induction l with
      | nil => intro _; simp
      | cons x l ih =>
        intro h
        have h1 := h x (List.mem_cons_self ..)
        have h2 := ih fun y hy => h y (List.mem_cons_of_mem _ hy)
        simp only [List.flatMap_cons, List.length_append, List.length_cons]; omega
    have := this (l := ch) fun x hx => (hone x hx).1
    omega
theorem flat_sum (d : Database) (r c : Int) : ∀ ch : List Int, (ch.flatMap (pickV d r c)).sum = (ch.map (pickS d r c)).sum
  | [] => rfl
  | x :: ch => by simp only [List.flatMap_cons, List.sum_append, List.map_cons, List.sum_cons, flat_sum d r c ch, pickS]
end Go.Proofs.Ytlcpdlngbofgcaa

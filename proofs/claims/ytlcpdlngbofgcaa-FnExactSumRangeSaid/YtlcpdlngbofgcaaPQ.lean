/- The range of an aggregate of a column, the program's side. -/
import Derived.Test.YtlcpdlngbofgcaaPP
import Derived.Test.YtlcpdlngbofgcaaPH
set_option linter.unusedVariables false
set_option linter.unusedSimpArgs false
namespace Go.Proofs.Ytlcpdlngbofgcaa
open Go Go.Proofs Go.Sep
theorem Choice.mem : ∀ {bs : List (List Int)} {c : List Int}, Choice bs c → ∀ x ∈ c, ∃ b ∈ bs, x ∈ b
  | [], [], _, x, hx => by cases hx
  | [], _ :: _, h, x, hx => h.elim
  | _ :: _, [], h, x, hx => h.elim
  | b :: bs, y :: ys, h, x, hx => by
    rcases List.mem_cons.1 hx with rfl | hx
    · exact ⟨b, List.mem_cons_self .., h.1⟩
    · obtain ⟨b', h1, h2⟩ := Choice.mem h.2 x hx
      exact ⟨b', List.mem_cons_of_mem _ h1, h2⟩
theorem choice_column {d : Database} {r c : Int} (hok : ColOK d r c) (hs : DbS d) {ch : List Int} (hc : Choice (blocksOf d) ch) : m_impl_columnOf d ch r c = some (ch.flatMap (pickV d r c)) := by
  have hl := hc.len
  have hb := blocksOf_len d
  have := hok.1.few
  refine columnOf_eq hok hs ch (by omega) fun x hx => ?_
  obtain ⟨b, h1, h2⟩ := hc.mem x hx
  obtain ⟨_, j, _, hj, rfl, _⟩ := blocksOf_mem h1 h2
  omega
theorem columnRange_ok {u : Nat} {d : Database} {r c : Int} (hok : ColOK d r c) (hs : DbS d) (hu : 1048577 < u) {agg : List Int → Option Int} (ag : List Int → Int) (hag : ∀ ch, Choice (blocksOf d) ch → agg (ch.flatMap (pickV d r c)) = some (ag (ch.flatMap (pickV d r c)))) :
    ∃ lo hi, m_impl_columnRange u d r c false agg = some (lo, hi, true) ∧ Ends (blocksOf d) (fun ch => ag (ch.flatMap (pickV d r c))) lo hi := by
  have hfew := hok.1.few
  obtain ⟨lo, hi, h1, h2⟩ := rangeOf_eq u d (blocksOf d) (impl_blocks_eq hok.1) blocksOf_ne (by rw [blocksOf_sum]; exact hfew) (Nat.le_trans (blocksOf_len d) hfew) (by omega) (agg := fun x0 => m_impl_columnRange_2 x0 agg d r c) (fun ch => ag (ch.flatMap (pickV d r c))) fun ch hc => by
    simp only [m_impl_columnRange_2]
    rw [choice_column hok hs hc, Option.bind_some, hag ch hc]; rfl
  refine ⟨lo, hi, ?_, h2⟩
  obtain ⟨b, h3, h4⟩ := isColumn_eq d r c
  have hb : b = true := h4.2 hok
  subst hb
  unfold m_impl_columnRange
  rw [h3, Option.bind_some]
  simp only [Bool.not_true, cond_false, Option.bind_some]
  rw [h1]; rfl
theorem columnRange_no {u : Nat} {d : Database} {r c : Int} (hno : ¬ ColOK d r c) {ne : Bool} {agg : List Int → Option Int} : m_impl_columnRange u d r c ne agg = some (0, 0, false) := by
  obtain ⟨b, h3, h4⟩ := isColumn_eq d r c
  have hb : b = false := by cases b with | false => rfl | true => exact (hno (h4.1 rfl)).elim
  subst hb
  unfold m_impl_columnRange
  rw [h3, Option.bind_some]; rfl
end Go.Proofs.Ytlcpdlngbofgcaa

/- SumRange: the law. -/
import Derived.Test.YtlcpdlngbofgcaaPU
set_option linter.unusedVariables false
set_option linter.unusedSimpArgs false
namespace Go.Proofs.Ytlcpdlngbofgcaa
open Go Go.Proofs Go.Sep
theorem Ends.congr {bs : List (List Int)} {ag ag' : List Int → Int} {lo hi : Int} (h : Ends bs ag lo hi) (e : ∀ c, Choice bs c → ag c = ag' c) : Ends bs ag' lo hi := by
  obtain ⟨c1, a1, b1⟩ := h.lo_at
  obtain ⟨c2, a2, b2⟩ := h.hi_at
  exact ⟨⟨c1, a1, by rw [← e c1 a1]; exact b1⟩, fun c hc => by rw [← e c hc]; exact h.lo_le c hc, ⟨c2, a2, by rw [← e c2 a2]; exact b2⟩, fun c hc => by rw [← e c hc]; exact h.hi_ge c hc⟩
def isR (d : Database) (r : Int) (b : List Int) : Bool := decide (relF d (b.headD 0) = r)
theorem sums_ends {d : Database} {r c : Int} (hok : ColOK d r c) (hs : DbS d) : Ends (blocksOf d) (fun ch => addW (ch.flatMap (pickV d r c))) ((valsOf d r c).map lst).sum ((valsOf d r c).map mst).sum := by
  have e1 : ((valsOf d r c).map lst).sum = ((blocksOf d).map fun b => if isR d r b = true then lst (b.map (valF d c)) else 0).sum := by
    rw [← sum_filter (isR d r) (fun b => lst (b.map (valF d c))), valsOf, List.map_map]; rfl
  have e2 : ((valsOf d r c).map mst).sum = ((blocksOf d).map fun b => if isR d r b = true then mst (b.map (valF d c)) else 0).sum := by
    rw [← sum_filter (isR d r) (fun b => mst (b.map (valF d c))), valsOf, List.map_map]; rfl
  rw [e1, e2]
  refine (sum_ends (pickS d r c) _ _ (fun b hb => ?_) (fun b hb => ?_)).congr fun ch hc => ?_
  · have hp := block_pick hok hs hb
    by_cases hr : relF d (b.headD 0) = r
    · have hi : isR d r b = true := by simp only [isR, hr, decide_true]
      obtain ⟨m, g1, g2, g3⟩ := least_eq (b.map (valF d c)) (by simpa using blocksOf_ne b hb)
      have hv : ∀ x ∈ b, pickS d r c x = valF d c x := fun x hx => by rw [pickS, (hp.1 hr x hx).1]; simp
      rw [if_pos hi, lst, g1]
      obtain ⟨x, hx, hxm⟩ := List.mem_map.1 g2
      exact ⟨⟨x, hx, by rw [hv x hx, hxm]; rfl⟩, fun y hy => by rw [hv y hy]; exact g3 _ (List.mem_map.2 ⟨y, hy, rfl⟩)⟩
    · have hi : ¬ isR d r b = true := by simp only [isR, decide_eq_true_eq]; exact hr
      have hv : ∀ x ∈ b, pickS d r c x = 0 := fun x hx => by rw [pickS, hp.2 hr x hx]; rfl
      obtain ⟨x, hx⟩ := List.exists_mem_of_ne_nil b (blocksOf_ne b hb)
      rw [if_neg hi]
      exact ⟨⟨x, hx, hv x hx⟩, fun y hy => by rw [hv y hy]; exact Int.le_refl _⟩
  · have hp := block_pick hok hs hb
    by_cases hr : relF d (b.headD 0) = r
    · have hi : isR d r b = true := by simp only [isR, hr, decide_true]
      obtain ⟨m, g1, g2, g3⟩ := most_eq (b.map (valF d c)) (by simpa using blocksOf_ne b hb)
      have hv : ∀ x ∈ b, pickS d r c x = valF d c x := fun x hx => by rw [pickS, (hp.1 hr x hx).1]; simp
      rw [if_pos hi, mst, g1]
      obtain ⟨x, hx, hxm⟩ := List.mem_map.1 g2
      exact ⟨⟨x, hx, by rw [hv x hx, hxm]; rfl⟩, fun y hy => by rw [hv y hy]; exact g3 _ (List.mem_map.2 ⟨y, hy, rfl⟩)⟩
    · have hi : ¬ isR d r b = true := by simp only [isR, decide_eq_true_eq]; exact hr
      have hv : ∀ x ∈ b, pickS d r c x = 0 := fun x hx => by rw [pickS, hp.2 hr x hx]; rfl
      obtain ⟨x, hx⟩ := List.exists_mem_of_ne_nil b (blocksOf_ne b hb)
      rw [if_neg hi]
      exact ⟨⟨x, hx, hv x hx⟩, fun y hy => by rw [hv y hy]; exact Int.le_refl _⟩
  · have h := pick_small hok hs hc
    rw [← flat_sum, (addW_sum 14 _ h.2 (by omega) fun x hx => by have := h.1 x hx; omega).1]
theorem law_SumRange (d : Database) (r c : Int) (hd : DbM d) : m_laws_FnExactSumRange 1048578 d r c = some true := by
  unfold m_laws_FnExactSumRange
  obtain ⟨z, h1, h2⟩ := szDatabase_b d hd 1048576 (by omega) (by omega)
  rw [h1, Option.bind_some]
  rcases h2 with rfl | ⟨h2, _, hs⟩
  · rw [cond_T' (by decide)]
  rw [cond_F' (by simp; omega)]
  have key : ∃ w, m_spec_SumRange 1048578 d r c = some w ∧ m_impl_SumRange 1048578 d r c = some w := by
    unfold m_spec_SumRange m_impl_SumRange
    obtain ⟨b, g1, g2⟩ := l27Ok_eq 1048578 d hs (by omega) r c
    rw [g1, Option.bind_some]
    cases b with
    | false =>
      have hno : ¬ ColOK d r c := fun h => by have := g2.2 h; cases this
      rw [columnRange_no hno]; exact ⟨_, rfl, rfl⟩
    | true =>
      have hok := g2.1 rfl
      obtain ⟨lo, hi, k1, k2⟩ := columnRange_ok (u := 1048578) hok hs (by omega) (agg := fun x0 => m_impl_sumOf x0) addW fun ch _ => sumOf_eq _
      obtain ⟨rfl, rfl⟩ := k2.uniq (sums_ends hok hs)
      have hfew := hok.1.few
      have hbl := blocksOf_len d
      have hv := spec_sums (valsOf d r c) (by rw [valsOf, List.length_map]; exact Nat.le_trans (List.length_filter_le ..) (by omega)) fun l hl => by
        simp only [valsOf, List.mem_map, List.mem_filter, decide_eq_true_eq] at hl
        obtain ⟨b, ⟨hb, hr⟩, rfl⟩ := hl
        refine ⟨by simpa using blocksOf_ne b hb, fun x hx => ?_⟩
        obtain ⟨y, hy, rfl⟩ := List.mem_map.1 hx
        exact ((block_pick hok hs hb).1 hr y hy).2
      rw [cond_nt, l27Vals_eq hok hs (by omega), Option.bind_some, hv, Option.bind_some, k1, Option.bind_some]
      exact ⟨_, rfl, rfl⟩
  obtain ⟨w, k1, k2⟩ := key
  rw [toDatabase_id d hs, Option.bind_some, k1, Option.bind_some, Option.bind_some, k2, Option.bind_some, cond_F' (by simp), Option.bind_some, eqDatabase_self, Option.bind_some, cond_nt]
end Go.Proofs.Ytlcpdlngbofgcaa

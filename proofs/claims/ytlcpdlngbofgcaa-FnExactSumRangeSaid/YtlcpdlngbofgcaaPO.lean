/- Columns of relations, for both sides. -/
import Derived.Test.YtlcpdlngbofgcaaPN
set_option linter.unusedVariables false
set_option linter.unusedSimpArgs false
namespace Go.Proofs.Ytlcpdlngbofgcaa
open Go Go.Proofs Go.Sep
/-- A column of a relation of a valid database. -/
def ColOK (d : Database) (r c : Int) : Prop := DbOK d ∧ ∃ (n : Nat) (rel : Relation), r = n ∧ d.relations[n]? = some rel ∧ 0 ≤ c ∧ c ≤ w64 (rel.arity - 1)
theorem col_tail (d : Database) (r c : Int) (b : Bool) (hb : b = true ↔ DbOK d) : ∃ t, (cond b ((some ((decide (0 ≤ r)) && (decide (r ≤ (d.relations.length : Int) - 1)))).bind fun r_7 => cond r_7 ((getI d.relations r).bind fun v_10 => (some ((decide (0 ≤ c)) && (decide (c ≤ w64 (v_10.arity - 1))))).bind fun r_15 => some r_15) (some false)) (some false)) = some t ∧ (t = true ↔ ColOK d r c) := by
  cases b with
  | false => exact ⟨false, rfl, by simp; intro h; simp at hb; exact hb h.1⟩
  | true =>
    have hd : DbOK d := hb.1 rfl
    rw [cond_T' rfl, Option.bind_some]
    by_cases h : 0 ≤ r ∧ r ≤ (d.relations.length : Int) - 1
    · rw [cond_T' (by simp [h])]
      obtain ⟨n, hn⟩ : ∃ n : Nat, r = n := ⟨r.toNat, by omega⟩
      have hnl : n < d.relations.length := by omega
      rw [hn, getI_lt hnl, Option.bind_some, Option.bind_some]
      refine ⟨_, rfl, ?_⟩
      simp only [Bool.and_eq_true, decide_eq_true_eq]
      constructor
      · intro hc; exact ⟨hd, n, _, rfl, List.getElem?_eq_getElem hnl, hc.1, hc.2⟩
      · rintro ⟨_, n', rel, h1, h2, h3, h4⟩
        have : n' = n := by omega
        subst this
        rw [List.getElem?_eq_getElem hnl] at h2; cases h2
        exact ⟨h3, h4⟩
    · rw [cond_F' (by simp; omega)]
      refine ⟨false, rfl, by simp; rintro ⟨_, n', rel, h1, h2, _⟩; have := (List.getElem?_eq_some_iff.1 h2).1; omega⟩
theorem isColumn_eq (d : Database) (r c : Int) : ∃ b, m_impl_isColumn d r c = some b ∧ (b = true ↔ ColOK d r c) := by
  obtain ⟨b, h1, h2⟩ := impl_IsValidDatabase_eq d
  obtain ⟨t, h3, h4⟩ := col_tail d r c b h2
  unfold m_impl_isColumn m_impl_within
  rw [h1, Option.bind_some]
  exact ⟨t, by rw [h3]; rfl, h4⟩
theorem l27Ok_eq (u : Nat) (d : Database) (hd : DbS d) (hu : 1048577 < u) (r c : Int) : ∃ b, m_spec_l27Ok u d r c = some b ∧ (b = true ↔ ColOK d r c) := by
  obtain ⟨b, h1, h2⟩ := spec_IsValidDatabase_eq u d hd hu
  obtain ⟨t, h3, h4⟩ := col_tail d r c b h2
  unfold m_spec_l27Ok m_spec_l1In
  rw [h1, Option.bind_some]
  exact ⟨t, by rw [h3]; rfl, h4⟩
/-- What one index adds. -/
def pickV (d : Database) (r c : Int) (x : Int) : List Int := match d.facts[x.toNat]? with
  | some f => if f.relation = r then (match f.values[c.toNat]? with | some v => [v] | none => []) else []
  | none => []
def addW (xs : List Int) : Int := xs.foldl (fun s x => w64 (s + x)) 0
theorem addW_snoc (xs ys : List Int) : addW (xs ++ ys) = ys.foldl (fun s x => w64 (s + x)) (addW xs) := by simp [addW]
theorem sumOf_eq (xs : List Int) : m_impl_sumOf xs = some (addW xs) := by
  unfold m_impl_sumOf
  obtain ⟨s, h1, h2⟩ := forS_ok (xs := xs) (s := 0) (f := fun (t_1 : Int) (x_t_1 : Int) (sum3 : Int) => some (w64 (sum3 + x_t_1))) (fun n s => s = addW (xs.take n)) rfl fun n x s hx hI => by
    refine ⟨_, rfl, ?_⟩
    rw [List.take_add_one, hx, addW_snoc, hI]; rfl
  rw [h1, Option.bind_some, h2, List.take_length]
theorem val_at {d : Database} {r c : Int} (hok : ColOK d r c) {x : Int} {f : Fact} (hf : getI d.facts x = some f) (hr : f.relation = r) (hs : f.values.length ≤ 1048576) : ∃ v, getI f.values c = some v ∧ pickV d r c x = [v] := by
  obtain ⟨m, rfl, hm⟩ := getI_inv hf
  obtain ⟨hd, n, rel, h1, h2, h3, h4⟩ := hok
  obtain ⟨n', rel', g1, g2, g3, g4⟩ := hd.fact m f hm
  have : n' = n := by omega
  subst this
  rw [h2] at g2; cases g2
  rw [w64_id (by omega)] at h4
  obtain ⟨k, rfl⟩ : ∃ k : Nat, c = k := ⟨c.toNat, by omega⟩
  have hk : k < f.values.length := by omega
  refine ⟨f.values[k], getI_lt hk, ?_⟩
  simp only [pickV, Int.toNat_natCast, hm, if_pos hr, List.getElem?_eq_getElem hk]
theorem columnOf_eq {d : Database} {r c : Int} (hok : ColOK d r c) (hd : DbS d) (l : List Int) (hl : l.length ≤ 1048576) (hx : ∀ x ∈ l, 0 ≤ x ∧ x < (d.facts.length : Int)) : m_impl_columnOf d l r c = some (l.flatMap (pickV d r c)) := by
  unfold m_impl_columnOf
  obtain ⟨s, h1, h2⟩ := forS_ok (xs := l) (s := ([] : List Int)) (f := fun (t_1 : Int) (x_t_1 : Int) (out9 : (List Int)) => (getI d.facts x_t_1).bind fun v_3 => cond (decide (v_3.relation = r)) ((getI v_3.values c).bind fun v_9 => (app 8 out9 ([v_9] : (List Int))).bind fun us_14 => some us_14) (some out9))
    (fun n s => s.length ≤ n ∧ s = (l.take n).flatMap (pickV d r c)) ⟨by simp, rfl⟩ fun n x s hx' ⟨hs, hI⟩ => by
      have hn : n < l.length := (List.getElem?_eq_some_iff.1 hx').1
      have hb := hx x (List.mem_of_getElem? hx')
      obtain ⟨m, rfl⟩ : ∃ m : Nat, x = m := ⟨x.toNat, by omega⟩
      have hm : m < d.facts.length := by omega
      have hg : getI d.facts (m : Int) = some d.facts[m] := getI_lt hm
      have hv := hd.2.2.2 _ (List.getElem_mem hm)
      rw [hg, Option.bind_some, List.take_add_one, hx']
      by_cases hr : d.facts[m].relation = r
      · obtain ⟨v, h3, h4⟩ := val_at hok hg hr hv
        rw [cond_T' (by simpa using hr), h3, Option.bind_some, app_ok (by simp; omega), Option.bind_some]
        exact ⟨_, rfl, by simp; omega, by simp [h4, hI]⟩
      · rw [cond_F' (by simpa using hr)]
        refine ⟨_, rfl, by omega, ?_⟩
        have : pickV d r c m = [] := by simp only [pickV, Int.toNat_natCast, List.getElem?_eq_getElem hm, if_neg hr]
        simp [this, hI]
  rw [h1, Option.bind_some, h2.2, List.take_length]
end Go.Proofs.Ytlcpdlngbofgcaa

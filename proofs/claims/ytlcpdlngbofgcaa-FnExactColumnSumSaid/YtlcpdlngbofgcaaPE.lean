/- ColumnSum: both sides, and the law. -/
import Derived.Test.YtlcpdlngbofgcaaPD
set_option linter.unusedVariables false
set_option linter.unusedSimpArgs false
namespace Go.Proofs.Ytlcpdlngbofgcaa
open Go Go.Proofs Go.Sep
/-- A column of a relation of a valid database. -/
def ColOK (d : Database) (r c : Int) : Prop := DbOK d ∧ ∃ (n : Nat) (rel : Relation), r = n ∧ d.relations[n]? = some rel ∧ 0 ≤ c ∧ c ≤ w64 (rel.arity - 1)
theorem col_tail (d : Database) (r c : Int) (b : Bool) (hb : b = true ↔ DbOK d) : ∃ t, (cond b ((some ((decide (0 ≤ r)) && (decide (r ≤ (d.relations.length : Int) - 1)))).bind fun r_7 => cond r_7 ((getI d.relations r).bind fun v_10 => (some ((decide (0 ≤ c)) && (decide (c ≤ w64 (v_10.arity - 1))))).bind fun r_15 => some r_15) (some false)) (some false)) = some t ∧ (t = true ↔ ColOK d r c) := by
  cases b with
  | false => exact ⟨false, rfl, by simp; intro h; simp at hb; exact hb h.1⟩
  | true =>
    have hd : DbOK d := hb.1 rfl
    rw [cond_T' rfl, Option.bind_some]
    by_cases h : 0 ≤ r ∧ r ≤ (d.relations.length : Int) - 1
    · rw [cond_T' (by simp [h])]
      obtain ⟨n, hn⟩ : ∃ n : Nat, r = n := ⟨r.toNat, by omega⟩
      have hnl : n < d.relations.length := by omega
      rw [hn, getI_lt hnl, Option.bind_some, Option.bind_some]
      refine ⟨_, rfl, ?_⟩
      simp only [Bool.and_eq_true, decide_eq_true_eq]
      constructor
      · intro hc; exact ⟨hd, n, _, rfl, List.getElem?_eq_getElem hnl, hc.1, hc.2⟩
      · rintro ⟨_, n', rel, h1, h2, h3, h4⟩
        have : n' = n := by omega
        subst this
        rw [List.getElem?_eq_getElem hnl] at h2; cases h2
        exact ⟨h3, h4⟩
    · rw [cond_F' (by simp; omega)]
      refine ⟨false, rfl, by simp; rintro ⟨_, n', rel, h1, h2, _⟩; have := (List.getElem?_eq_some_iff.1 h2).1; omega⟩
theorem isColumn_eq (d : Database) (r c : Int) : ∃ b, m_impl_isColumn d r c = some b ∧ (b = true ↔ ColOK d r c) := by
  obtain ⟨b, h1, h2⟩ := impl_IsValidDatabase_eq d
  obtain ⟨t, h3, h4⟩ := col_tail d r c b h2
  unfold m_impl_isColumn m_impl_within
  rw [h1, Option.bind_some]
  exact ⟨t, by rw [h3]; rfl, h4⟩
theorem l27Ok_eq (u : Nat) (d : Database) (hd : DbS d) (hu : 1048577 < u) (r c : Int) : ∃ b, m_spec_l27Ok u d r c = some b ∧ (b = true ↔ ColOK d r c) := by
  obtain ⟨b, h1, h2⟩ := spec_IsValidDatabase_eq u d hd hu
  obtain ⟨t, h3, h4⟩ := col_tail d r c b h2
  unfold m_spec_l27Ok m_spec_l1In
  rw [h1, Option.bind_some]
  exact ⟨t, by rw [h3]; rfl, h4⟩
theorem areIndices_tot (l : List Int) (n : Int) (h0 : 0 ≤ n) (h1 : n ≤ 1048576) : ∃ b, m_impl_areIndices l n = some b ∧ (b = true → ∀ x ∈ l, 0 ≤ x ∧ x < n) := by
  unfold m_impl_areIndices m_impl_within
  obtain ⟨o, h1, h2⟩ := forL_ok (xs := l) (s := ()) (f := fun (t_1 : Int) (x_t_1 : Int) (_ : Unit) => ((some ((decide (0 ≤ x_t_1)) && (decide (x_t_1 ≤ w64 (n - 1))))).bind fun r_5 => cond (!r_5) (some true) (cond (decide (0 < (t_1 : Int))) ((getI l ((t_1 : Int) - 1)).bind fun v_9 => some (decide (x_t_1 ≤ v_9))) (some false))).bind fun (t31 : Bool) => cond t31 (some (.ret false)) (some (.next ())))
    (fun m _ => ∀ (j : Nat) x, j < m → l[j]? = some x → 0 ≤ x ∧ x < n) (fun _ => False) (fun (r : Bool) => r = false) (fun j x hj => by omega) fun m x s hx hI => by
      have hm : m < l.length := (List.getElem?_eq_some_iff.1 hx).1
      rw [w64_id (x := n - 1) (by omega), Option.bind_some]
      by_cases hr : 0 ≤ x ∧ x ≤ n - 1
      · have e : (decide (0 ≤ x) && decide (x ≤ n - 1)) = true := by simp [hr]
        rw [e, cond_nt]
        have key : ∃ t, cond (decide (0 < (m : Int))) ((getI l ((m : Int) - 1)).bind fun v_9 => some (decide (x ≤ v_9))) (some false) = some t := by
          by_cases h0 : 0 < m
          · have e : (m : Int) - 1 = ((m - 1 : Nat) : Int) := by omega
            rw [cond_T' (by simpa using h0), e, getI_lt (show m - 1 < l.length by omega)]; exact ⟨_, rfl⟩
          · rw [cond_F' (by simpa using h0)]; exact ⟨_, rfl⟩
        obtain ⟨t, ht⟩ := key
        rw [ht, Option.bind_some]
        cases t with
        | true => exact ⟨_, rfl, rfl⟩
        | false =>
          refine ⟨_, rfl, fun j y hj hy => ?_⟩
          by_cases e : j = m
          · subst e; rw [hx] at hy; cases hy; omega
          · exact hI j y (by omega) hy
      · have e : (decide (0 ≤ x) && decide (x ≤ n - 1)) = false := by simp; omega
        rw [e, cond_nf, Option.bind_some]; exact ⟨_, rfl, rfl⟩
  rw [h1, Option.bind_some]
  cases o with
  | inl s =>
    refine ⟨true, rfl, fun _ x hx => ?_⟩
    obtain ⟨j, hj⟩ := List.getElem?_of_mem hx
    exact (h2.resolve_right id) j x (List.getElem?_eq_some_iff.1 hj).1 hj
  | inr r => exact ⟨r, rfl, fun h => by rw [h2] at h; cases h⟩
theorem l4Set_eq (d : Database) (l : List Int) (hd : d.facts.length ≤ 1048576) : m_spec_l4Set d l = m_impl_areIndices l (d.facts.length : Int) := by
  unfold m_spec_l4Set m_impl_areIndices m_impl_within m_spec_l1In
  rw [w64_id (x := (d.facts.length : Int) - 1) (by omega)]
/-- What one index adds. -/
def pickV (d : Database) (r c : Int) (x : Int) : List Int := match d.facts[x.toNat]? with
  | some f => if f.relation = r then (match f.values[c.toNat]? with | some v => [v] | none => []) else []
  | none => []
def addW (xs : List Int) : Int := xs.foldl (fun s x => w64 (s + x)) 0
theorem addW_snoc (xs ys : List Int) : addW (xs ++ ys) = ys.foldl (fun s x => w64 (s + x)) (addW xs) := by simp [addW]
theorem sumOf_eq (xs : List Int) : m_impl_sumOf xs = some (addW xs) := by
  unfold m_impl_sumOf
  obtain ⟨s, h1, h2⟩ := forS_ok (xs := xs) (s := 0) (f := fun (t_1 : Int) (x_t_1 : Int) (sum3 : Int) => some (w64 (sum3 + x_t_1))) (fun n s => s = addW (xs.take n)) rfl fun n x s hx hI => by
    refine ⟨_, rfl, ?_⟩
    rw [List.take_add_one, hx, addW_snoc, hI]; rfl
  rw [h1, Option.bind_some, h2, List.take_length]
theorem val_at {d : Database} {r c : Int} (hok : ColOK d r c) {x : Int} {f : Fact} (hf : getI d.facts x = some f) (hr : f.relation = r) (hs : f.values.length ≤ 1048576) : ∃ v, getI f.values c = some v ∧ pickV d r c x = [v] := by
  obtain ⟨m, rfl, hm⟩ := getI_inv hf
  obtain ⟨hd, n, rel, h1, h2, h3, h4⟩ := hok
  obtain ⟨n', rel', g1, g2, g3, g4⟩ := hd.fact m f hm
  have : n' = n := by omega
  subst this
  rw [h2] at g2; cases g2
  rw [w64_id (by omega)] at h4
  obtain ⟨k, rfl⟩ : ∃ k : Nat, c = k := ⟨c.toNat, by omega⟩
  have hk : k < f.values.length := by omega
  refine ⟨f.values[k], getI_lt hk, ?_⟩
  simp only [pickV, Int.toNat_natCast, hm, if_pos hr, List.getElem?_eq_getElem hk]
theorem columnOf_eq {d : Database} {r c : Int} (hok : ColOK d r c) (hd : DbS d) (l : List Int) (hl : l.length ≤ 1048576) (hx : ∀ x ∈ l, 0 ≤ x ∧ x < (d.facts.length : Int)) : m_impl_columnOf d l r c = some (l.flatMap (pickV d r c)) := by
  unfold m_impl_columnOf
  obtain ⟨s, h1, h2⟩ := forS_ok (xs := l) (s := ([] : List Int)) (f := fun (t_1 : Int) (x_t_1 : Int) (out9 : (List Int)) => (getI d.facts x_t_1).bind fun v_3 => cond (decide (v_3.relation = r)) ((getI v_3.values c).bind fun v_9 => (app 8 out9 ([v_9] : (List Int))).bind fun us_14 => some us_14) (some out9))
    (fun n s => s.length ≤ n ∧ s = (l.take n).flatMap (pickV d r c)) ⟨by simp, rfl⟩ fun n x s hx' ⟨hs, hI⟩ => by
      have hn : n < l.length := (List.getElem?_eq_some_iff.1 hx').1
      have hb := hx x (List.mem_of_getElem? hx')
      obtain ⟨m, rfl⟩ : ∃ m : Nat, x = m := ⟨x.toNat, by omega⟩
      have hm : m < d.facts.length := by omega
      have hg : getI d.facts (m : Int) = some d.facts[m] := getI_lt hm
      have hv := hd.2.2.2 _ (List.getElem_mem hm)
      rw [hg, Option.bind_some, List.take_add_one, hx']
      by_cases hr : d.facts[m].relation = r
      · obtain ⟨v, h3, h4⟩ := val_at hok hg hr hv
        rw [cond_T' (by simpa using hr), h3, Option.bind_some, app_ok (by simp; omega), Option.bind_some]
        exact ⟨_, rfl, by simp; omega, by simp [h4, hI]⟩
      · rw [cond_F' (by simpa using hr)]
        refine ⟨_, rfl, by omega, ?_⟩
        have : pickV d r c m = [] := by simp only [pickV, Int.toNat_natCast, List.getElem?_eq_getElem hm, if_neg hr]
        simp [this, hI]
  rw [h1, Option.bind_some, h2.2, List.take_length]
theorem spec_ColumnSum_eq (u : Nat) (d : Database) (hd : DbS d) (hu : 1048577 < u) (l : List Int) (hl : l.length ≤ 1048576) (r c : Int) : ∃ z, m_spec_ColumnSum u d l r c = some z ∧ (l = [] → z = 0) ∧ (∀ b1 b2, m_impl_isColumn d r c = some b1 → m_impl_areIndices l (d.facts.length : Int) = some b2 → z = if b1 = true ∧ b2 = true then addW (l.flatMap (pickV d r c)) else 0) := by
  obtain ⟨b1, hb1, hb1'⟩ := isColumn_eq d r c
  obtain ⟨b1s, hs1, hs1'⟩ := l27Ok_eq u d hd hu r c
  have eb : b1s = b1 := by rw [Bool.eq_iff_iff, hs1', hb1']
  subst eb
  obtain ⟨b2, hb2, hb2'⟩ := areIndices_tot l (d.facts.length : Int) (by omega) (by have := hd.2.1; omega)
  have hs2 := l4Set_eq d l hd.2.1
  rw [hb2] at hs2
  unfold m_spec_ColumnSum
  obtain ⟨o, h1, h2⟩ := while_ok (f := fun (⟨n9, i10⟩ : Int × Int) => (cond (decide (i10 < (l.length : Int))) ((m_spec_l27Ok u d r c).bind fun r_5 => cond r_5 ((m_spec_l4Set d l).bind fun r_8 => some r_8) (some false)) (some false)).bind fun (t25 : Bool) => cond t25 ((getI l i10).bind fun v_11 => (getI d.facts v_11).bind fun v_16 => cond (decide (v_16.relation = r)) ((getI v_16.values c).bind fun v_22 => some (Ctl.next (R := Int) ((w64 (n9 + v_22)), (w64 (i10 + 1))))) (some (.next (n9, (w64 (i10 + 1)))))) (some (.brk (n9, i10))))
    (fun (s : Int × Int) => ∃ n : Nat, s.2 = (n : Int) ∧ n ≤ l.length ∧ s.1 = addW ((l.take n).flatMap (pickV d r c)) ∧ (n = 0 ∨ (b1s = true ∧ b2 = true))) (fun (s : Int × Int) => l.length - s.2.toNat)
    (fun (s : Int × Int) => s.1 = if b1s = true ∧ b2 = true then addW (l.flatMap (pickV d r c)) else 0) (fun (_ : Int) => False)
    (fun ⟨s, i⟩ ⟨n, hi, hn1, hI, h0⟩ => by
      simp only at hi hI
      subst hi
      simp only [hs1, hs2, Option.bind_some]
      by_cases h : n < l.length
      · rw [cond_T' (by simpa using h)]
        by_cases hb : b1s = true ∧ b2 = true
        · obtain ⟨e1, e2⟩ := hb
          subst e1 e2
          simp only [cond_true, Option.bind_some]
          rw [getI_lt h, Option.bind_some]
          have hx := hb2' rfl l[n] (List.getElem_mem h)
          obtain ⟨m, hm'⟩ : ∃ m : Nat, l[n] = m := ⟨l[n].toNat, by omega⟩
          have hm : m < d.facts.length := by omega
          have hg : getI d.facts l[n] = some d.facts[m] := by rw [hm']; exact getI_lt hm
          have hv := hd.2.2.2 _ (List.getElem_mem hm)
          have ht : l.take (n + 1) = l.take n ++ [l[n]] := by rw [List.take_add_one, List.getElem?_eq_getElem h]; rfl
          rw [hg, Option.bind_some]
          by_cases hr : d.facts[m].relation = r
          · obtain ⟨v, h3, h4⟩ := val_at (hb1'.1 rfl) hg hr hv
            rw [cond_T' (by simpa using hr), h3, Option.bind_some, w64_id (x := (n : Int) + 1) (by omega)]
            refine ⟨_, rfl, ⟨n + 1, by simp, h, ?_, .inr (by simp)⟩, by simp only; omega⟩
            simp only
            rw [ht, List.flatMap_append, addW_snoc, hI]; simp [h4]
          · rw [cond_F' (by simpa using hr), w64_id (x := (n : Int) + 1) (by omega)]
            have h4 : pickV d r c l[n] = [] := by simp only [pickV, hm', Int.toNat_natCast, List.getElem?_eq_getElem hm, if_neg hr]
            refine ⟨_, rfl, ⟨n + 1, by simp, h, ?_, .inr (by simp)⟩, by simp only; omega⟩
            simp only
            rw [ht, List.flatMap_append, addW_snoc, hI]; simp [h4]
        · have hn0 : n = 0 := h0.resolve_right hb
          subst hn0
          have e : cond b1s (some b2) (some false) = some false := by cases b1s <;> cases b2 <;> simp at hb ⊢
          rw [e, Option.bind_some]
          exact ⟨_, rfl, by simp only [CtlP]; rw [if_neg hb, hI]; rfl⟩
      · rw [cond_F' (by simpa using h), Option.bind_some]
        have en : n = l.length := by omega
        refine ⟨_, rfl, ?_⟩
        simp only [CtlP]
        rcases h0 with h0 | h0
        · have : l = [] := List.eq_nil_of_length_eq_zero (by omega)
          subst this
          rw [hI]; simp [addW]
        · rw [if_pos h0, hI, en, List.take_length])
    u (0, 0) (by simp; omega) ⟨0, rfl, by omega, rfl, .inl rfl⟩
  rw [h1, Option.bind_some]
  cases o with
  | inr z => exact h2.elim
  | inl s =>
    obtain ⟨z, i⟩ := s
    simp only [SumP] at h2
    refine ⟨z, rfl, fun hl0 => ?_, fun c1 c2 hc1 hc2 => ?_⟩
    · subst hl0; rw [h2]; simp [addW]
    · rw [hb1] at hc1; cases hc1; rw [hb2] at hc2; cases hc2; exact h2
theorem impl_ColumnSum_eq (d : Database) (hd : DbS d) (l : List Int) (hl : l.length ≤ 1048576) (r c : Int) {b1 b2 : Bool} (hb1 : m_impl_isColumn d r c = some b1) (hb2 : m_impl_areIndices l (d.facts.length : Int) = some b2) : m_impl_ColumnSum d l r c = some (if b1 = true ∧ b2 = true then addW (l.flatMap (pickV d r c)) else 0) := by
  obtain ⟨b1', h1, h1'⟩ := isColumn_eq d r c
  rw [hb1] at h1; cases h1
  obtain ⟨b2', h2, h2'⟩ := areIndices_tot l (d.facts.length : Int) (by omega) (by have := hd.2.1; omega)
  rw [hb2] at h2; cases h2
  unfold m_impl_ColumnSum
  rw [hb1, hb2]
  cases b1 with
  | false => rfl
  | true =>
    cases b2 with
    | false => rfl
    | true =>
      simp only [Option.bind_some, Bool.not_true, cond_false, and_self, if_true]
      rw [columnOf_eq (h1'.1 rfl) hd l hl (h2' rfl), Option.bind_some, sumOf_eq]; rfl
theorem law_ColumnSum (d : Database) (l : List Int) (r c : Int) (hd : DbM d) : m_laws_FnExactColumnSum 1048578 d l r c = some true := by
  unfold m_laws_FnExactColumnSum
  by_cases hl : 1048576 < l.length
  · rw [cond_T' (by simp; omega)]
  rw [cond_F' (by simp; omega)]
  obtain ⟨z, h1, h2⟩ := szDatabase_b d hd 1048576 (by omega) (by omega)
  rw [h1, Option.bind_some]
  rcases h2 with rfl | ⟨h2, _, h3⟩
  · rw [cond_T' (by decide)]
  rw [cond_F' (by simp; omega)]
  obtain ⟨b1, hb1, _⟩ := isColumn_eq d r c
  obtain ⟨b2, hb2, _⟩ := areIndices_tot l (d.facts.length : Int) (by omega) (by have := h3.2.1; omega)
  obtain ⟨w, hw, _, hw'⟩ := spec_ColumnSum_eq 1048578 d h3 (by omega) l (by omega) r c
  have hi := impl_ColumnSum_eq d h3 l (by omega) r c hb1 hb2
  rw [← hw' b1 b2 hb1 hb2] at hi
  rw [toDatabase_id d h3, Option.bind_some, toIntS_id l (by omega), Option.bind_some, hw, Option.bind_some, Option.bind_some, Option.bind_some, hi, Option.bind_some, cond_F' (by simp), Option.bind_some, eqDatabase_self, Option.bind_some, cond_nt, Option.bind_some, eqIntS_self, Option.bind_some, cond_nt]
end Go.Proofs.Ytlcpdlngbofgcaa

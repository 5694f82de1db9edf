/- Keys of facts, for both sides. -/
import Derived.Test.YtlcpdlngbofgcaaPD
set_option linter.unusedVariables false
set_option linter.unusedSimpArgs false
namespace Go.Proofs.Ytlcpdlngbofgcaa
open Go Go.Proofs Go.Sep
/-- What a valid relation's numbers are. -/
def RelOK (r : Relation) : Prop := 0 ≤ r.keyLength ∧ r.keyLength ≤ r.arity ∧ 1 ≤ r.arity ∧ r.arity ≤ 3
theorem validRelation_ok {r : Relation} (h : m_impl_IsValidRelation r = some true) : RelOK r := by
  unfold m_impl_IsValidRelation m_impl_within at h
  obtain ⟨t, h1, h2⟩ := bind_inv h
  have h2 : t = true := by simpa using h2
  subst h2
  by_cases hs : (r.name.size : Int) = 1
  · rw [cond_T' (by simpa using hs)] at h1
    obtain ⟨b1, _, h3⟩ := bind_inv h1
    cases hd : decide (97 ≤ b1) with
    | false => rw [hd] at h3; simp at h3
    | true =>
      rw [hd, cond_T' rfl] at h3
      obtain ⟨b2, _, h4⟩ := bind_inv h3
      cases hd2 : decide (b2 ≤ 122) with
      | false => rw [hd2] at h4; simp at h4
      | true =>
        rw [hd2, cond_T' rfl] at h4
        simp only [Option.bind_some] at h4
        by_cases ha : 1 ≤ r.arity ∧ r.arity ≤ 3
        · rw [cond_T' (by simp [ha])] at h4
          simp only [Option.some.injEq, Bool.and_eq_true, decide_eq_true_eq] at h4
          exact ⟨h4.1, h4.2, ha.1, ha.2⟩
        · rw [cond_F' (by simp; omega)] at h4; simp at h4
  · rw [cond_F' (by simpa using hs)] at h1; simp at h1
theorem validRelations_ok {l : List Relation} (h : m_impl_AreValidRelations l = some true) : ∀ r ∈ l, RelOK r := by
  unfold m_impl_AreValidRelations at h
  obtain ⟨o, h1, h2⟩ := forL_ok (xs := l) (s := ()) (f := fun (t_1 : Int) (x_t_1 : Relation) (_ : Unit) => ((m_impl_IsValidRelation x_t_1).bind fun r_5 => cond (!r_5) (some true) (cond (decide (0 < (t_1 : Int))) ((getI l ((t_1 : Int) - 1)).bind fun v_9 => some (!ltS v_9.name x_t_1.name)) (some false))).bind fun (t29 : Bool) => cond t29 (some (.ret false)) (some (.next ())))
    (fun n _ => ∀ (j : Nat) r, j < n → l[j]? = some r → RelOK r) (fun _ => False) (fun (r : Bool) => r = false) (fun j r hj => by omega) fun n x s hx hI => by
      obtain ⟨b, hb⟩ := validRelation_tot x
      have hn : n < l.length := (List.getElem?_eq_some_iff.1 hx).1
      rw [hb, Option.bind_some]
      cases b with
      | false => exact ⟨_, rfl, rfl⟩
      | true =>
        have key : ∃ t, (cond (decide (0 < (n : Int))) ((getI l ((n : Int) - 1)).bind fun v_9 => some (!ltS v_9.name x.name)) (some false)) = some t := by
          by_cases h0 : 0 < n
          · have e : (n : Int) - 1 = ((n - 1 : Nat) : Int) := by omega
            rw [cond_T' (by simpa using h0), e, getI_lt (show n - 1 < l.length by omega)]; exact ⟨_, rfl⟩
          · rw [cond_F' (by simpa using h0)]; exact ⟨_, rfl⟩
        obtain ⟨t, ht⟩ := key
        rw [cond_nt, ht, Option.bind_some]
        cases t with
        | true => exact ⟨_, rfl, rfl⟩
        | false =>
          refine ⟨_, rfl, fun j r hj hr => ?_⟩
          by_cases e : j = n
          · subst e; rw [hx] at hr; cases hr; exact validRelation_ok hb
          · exact hI j r (by omega) hr
  rw [h1, Option.bind_some] at h
  cases o with
  | inl s =>
    intro r hr
    obtain ⟨j, hj⟩ := List.getElem?_of_mem hr
    exact (h2.resolve_right id) j r (List.getElem?_eq_some_iff.1 hj).1 hj
  | inr r =>
    simp only [SumP] at h2
    subst h2; simp [onS] at h
/-- The key of a fact: its relation and the first values. -/
def keyLen (l : List Relation) (f : Fact) : Nat := match l[f.relation.toNat]? with
  | some r => r.keyLength.toNat
  | none => 0
def keyF (l : List Relation) (f : Fact) : Int × List Int := (f.relation, f.values.take (keyLen l f))
theorem cut_key {xs : List Int} {k : Int} (h0 : 0 ≤ k) (h1 : k ≤ (xs.length : Int)) : cutI xs 0 k = some (xs.take k.toNat) := by
  unfold cutI
  rw [if_pos (by omega)]; simp
theorem keyLen_eq {l : List Relation} {f : Fact} {n : Nat} {r : Relation} (h1 : f.relation = n) (h2 : l[n]? = some r) : keyLen l f = r.keyLength.toNat := by
  simp only [keyLen, h1, Int.toNat_natCast, h2]
theorem impl_sameKey_eq {l : List Relation} (hl : m_impl_AreValidRelations l = some true) {a b : Fact} (ha : FactOK l a) (hb : FactOK l b) : m_impl_sameKey l a b = some (decide (keyF l a = keyF l b)) := by
  unfold m_impl_sameKey
  by_cases hr : a.relation = b.relation
  · obtain ⟨n, r, h1, h2, h3, h4⟩ := ha
    obtain ⟨n', r', g1, g2, g3, g4⟩ := hb
    have : n' = n := by omega
    subst this
    rw [h2] at g2; cases g2
    have hok := validRelations_ok hl r (List.mem_of_getElem? h2)
    rw [cond_F' (by simp [hr]), h1, getI_nat, h2, Option.bind_some, cut_key hok.1 (by have := hok.2.1; omega), Option.bind_some, cut_key hok.1 (by have := hok.2.1; omega), Option.bind_some]
    have he : m_slices_Equal_Sint_int (a.values.take r.keyLength.toNat) (b.values.take r.keyLength.toNat) = some (decide (a.values.take r.keyLength.toNat = b.values.take r.keyLength.toNat)) := by
      unfold m_slices_Equal_Sint_int
      generalize a.values.take r.keyLength.toNat = x
      generalize b.values.take r.keyLength.toNat = y
      by_cases hl : x.length = y.length
      · rw [cond_F' (by simp [hl])]
        obtain ⟨o, h1, h2⟩ := forL_all (f := fun (i_2 : Int) (x_i_2 : Int) (_ : Unit) => (getI y (i_2 : Int)).bind fun v_4 => cond (decide (x_i_2 ≠ v_4)) (some (.ret false)) (some (.next ()))) (xs := x) (r := false) (fun n z => decide (y[n]? = some z)) (fun n z hx => by
          have hn : n < y.length := by have := (List.getElem?_eq_some_iff.1 hx).1; omega
          rw [getI_lt hn, Option.bind_some, List.getElem?_eq_getElem hn]
          by_cases e : z = y[n]
          · simp [e]
          · simp [e, Ne.symm e])
        rw [h1, Option.bind_some]
        rcases h2 with ⟨rfl, h⟩ | ⟨rfl, n, z, hx, hp⟩
        · simp only [onS, Option.some.injEq]
          symm; simp only [decide_eq_true_eq]
          apply List.ext_getElem?
          intro n
          cases hx : x[n]? with
          | none => rw [List.getElem?_eq_none_iff] at hx; rw [List.getElem?_eq_none (by omega)]
          | some z => have := h n z hx; simp at this; exact this.symm
        · simp only [onS, Option.some.injEq]
          symm; simp only [decide_eq_false_iff_not]
          rintro rfl
          simp [hx] at hp
      · rw [cond_T' (by simp; omega)]
        have : x ≠ y := fun e => hl (by rw [e])
        simp [this]
    rw [he, Option.bind_some]
    simp only [keyF, keyLen_eq h1 h2, keyLen_eq g1 h2, hr, Prod.mk.injEq, true_and]
  · rw [cond_T' (by simp [hr])]
    have : keyF l a ≠ keyF l b := fun e => hr (congrArg Prod.fst e)
    simp [this]
end Go.Proofs.Ytlcpdlngbofgcaa

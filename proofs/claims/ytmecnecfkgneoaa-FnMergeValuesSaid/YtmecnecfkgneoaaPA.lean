import Derived.Test.YtmecnecfkgneoaaCRC
import Derived.Test.YtmecnecfkgneoaaM0
import Derived.Test.YtmecnecfkgneoaaCRD
set_option linter.unusedVariables false
set_option linter.unusedSimpArgs false
namespace Go.Proofs.Ytmecnecfkgneoaa
open Go Go.Proofs Go.Sep
theorem cond_nt {α : Type} {x y : α} : cond (!true) x y = y := rfl
def DbS (d : Database) : Prop := d.relations.length ≤ 1048576 ∧ d.facts.length ≤ 1048576 ∧ (∀ r ∈ d.relations, r.name.size ≤ 1048576) ∧ ∀ f ∈ d.facts, f.values.length ≤ 1048576
theorem cmpL_drop {a b : List Int} {i : Nat} (h1 : i < a.length) (h2 : i < b.length) : cmpL (a.drop i) (b.drop i) = if a[i] < b[i] then -1 else if b[i] < a[i] then 1 else cmpL (a.drop (i + 1)) (b.drop (i + 1)) := by
 rw [List.drop_eq_getElem_cons h1, List.drop_eq_getElem_cons h2]; rfl
theorem cmpL_nil_r (a : List Int) : cmpL a [] = if a.length = 0 then 0 else 1 := by cases a <;> simp [cmpL]
theorem cmpL_nil_l (b : List Int) : cmpL [] b = if b.length = 0 then 0 else -1 := by cases b <;> simp [cmpL]
theorem cmp_Compare_eq (x y : Int) : m_cmp_Compare_int x y = some (if x < y then -1 else if y < x then 1 else 0) := by
 unfold m_cmp_Compare_int m_cmp_isNaN_int
 simp only [Option.bind_some, ne_eq, not_true_eq_false, decide_false, cond_false]
 by_cases h1 : x < y
 ·simp [h1]
 ·by_cases h2 : y < x <;> simp [h1, h2]
theorem slices_Compare_from (a b : List Int) : ∀ (k i : Nat), i + k = a.length → (forL (R := Int) (fun (t_1 : Int) (x_t_1 : Int) (_ : Unit) => cond (decide ((b.length : Int) ≤ (t_1 : Int))) (some (.ret 1)) ((getI b (t_1 : Int)).bind fun v_4 => (m_cmp_Compare_int x_t_1 v_4).bind fun r_9 => cond (decide (r_9 ≠ 0)) (some (.ret r_9)) (some (.next ())))) (a.drop i) (i : Int) ()).bind (fun O2_ => onS O2_ (fun (_ : Unit) => cond (decide ((a.length : Int) < (b.length : Int))) (some (-1)) (some 0)) (fun r => some r)) = some (cmpL (a.drop i) (b.drop i))
 | 0, i, hk => by
  rw [List.drop_eq_nil_of_le (show a.length ≤ i by omega), cmpL_nil_l]
  simp only [forL, Option.bind_some, onS, List.length_drop]
  by_cases h : a.length < b.length
  ·rw [cond_T' (by simpa using h), if_neg (by omega)]
  ·rw [cond_F' (by simpa using h), if_pos (by omega)]
 | k + 1, i, hk => by
  have hi : i < a.length := by omega
  rw [List.drop_eq_getElem_cons hi]
  simp only [forL]
  by_cases hb : b.length ≤ i
  ·rw [cond_T' (by simpa using hb), List.drop_eq_nil_of_le hb]; rfl
  ·rw [cond_F' (by simpa using hb), getI_lt (show i < b.length by omega), Option.bind_some, cmp_Compare_eq, Option.bind_some]
   rw [← List.drop_eq_getElem_cons hi, cmpL_drop hi (by omega)]
   by_cases h1 : a[i] < b[i]
   ·simp [h1, onS]
   ·by_cases h2 : b[i] < a[i]
    ·simp [h1, h2, onS]
    ·simp only [h1, h2, if_false, ne_eq, not_true_eq_false, decide_false, cond_false, Option.bind_some]
     exact slices_Compare_from a b k (i + 1) (by omega)
theorem slices_Compare_eq (a b : List Int) : m_slices_Compare_Sint_int a b = some (cmpL a b) := slices_Compare_from a b a.length 0 (by omega)
theorem l3Ints_cmp (a b : List Int) (u : Nat) (hu : a.length < u) (ha : a.length ≤ 1048576) (hb : b.length ≤ 9223372036854775807) : m_spec_l3Ints u a b = some (cmpL a b) := by
 unfold m_spec_l3Ints
 obtain ⟨o, h1, h2⟩ := while_ok (f := fun (i5 : Int) => cond ((decide (i5 < (a.length : Int))) && (decide (i5 < (b.length : Int)))) ((getI a i5).bind fun v_6 => (getI b i5).bind fun v_11 => cond (decide (v_6 < v_11)) (some (.ret (-1))) (cond (decide (v_11 < v_6)) (some (.ret 1)) (some (.next (w64 (i5 + 1)))))) (some (.brk i5)))
  (fun i => ∃ n : Nat, i = n ∧ n ≤ a.length ∧ n ≤ b.length ∧ cmpL a b = cmpL (a.drop n) (b.drop n)) (fun i => a.length - i.toNat) (fun i => ∃ n : Nat, i = n ∧ n ≤ a.length ∧ n ≤ b.length ∧ cmpL a b = cmpL (a.drop n) (b.drop n) ∧ (n = a.length ∨ n = b.length)) (fun (r : Int) => r = cmpL a b)
  (fun i ⟨n, hi, hn1, hn2, hI⟩ => by
   subst hi
   by_cases h : n < a.length ∧ n < b.length
   ·rw [cond_T' (by simp; omega), getI_lt h.1, Option.bind_some, getI_lt h.2, Option.bind_some]
    rw [cmpL_drop h.1 h.2] at hI
    by_cases c1 : a[n] < b[n]
    ·rw [cond_T' (by simpa using c1)]; exact ⟨_, rfl, by rw [if_pos c1] at hI; exact hI.symm⟩
    ·rw [cond_F' (by simpa using c1)]
     rw [if_neg c1] at hI
     by_cases c2 : b[n] < a[n]
     ·rw [cond_T' (by simpa using c2)]; exact ⟨_, rfl, by rw [if_pos c2] at hI; exact hI.symm⟩
     ·rw [cond_F' (by simpa using c2), w64_id (by omega)]
      rw [if_neg c2] at hI
      exact ⟨_, rfl, ⟨n + 1, by omega, h.1, h.2, hI⟩, by have := h.1; omega⟩
   ·rw [cond_F' (by simp; omega)]
    exact ⟨_, rfl, n, rfl, hn1, hn2, hI, by omega⟩)
  u 0 (by simpa using hu) ⟨0, rfl, by omega, by omega, rfl⟩
 rw [h1, Option.bind_some]
 cases o with
 | inr r => simp only [onS]; rw [h2]
 | inl i =>
  obtain ⟨n, rfl, hn1, hn2, hI, hn⟩ := h2
  simp only [onS]
  rw [hI]
  by_cases c1 : a.length < b.length
  ·have e : n = a.length := by omega
   rw [cond_T' (by simpa using c1), e, List.drop_eq_nil_of_le (Nat.le_refl _), cmpL_nil_l, if_neg (by simp; omega)]
  ·rw [cond_F' (by simpa using c1)]
   by_cases c2 : b.length < a.length
   ·have e : n = b.length := by omega
    rw [cond_T' (by simpa using c2), e, List.drop_eq_nil_of_le (Nat.le_refl b.length), cmpL_nil_r, if_neg (by simp; omega)]
   ·have e : n = a.length := by omega
    rw [cond_F' (by simpa using c2), e, List.drop_eq_nil_of_le (Nat.le_refl _), cmpL_nil_l, if_pos (by simp; omega)]
theorem validRelation_tot (r : Relation) : ∃ b, m_impl_IsValidRelation r = some b := by
 unfold m_impl_IsValidRelation m_impl_within
 by_cases h : r.name.size = 1
 ·have hb : ∃ z, getB r.name 0 = some z := by
   have h0 : 0 < r.name.size := by omega
   exact ⟨((r.name[0]'h0).toNat : Int), by unfold getB; rw [if_pos (by omega)]; simp [h0]⟩
  obtain ⟨z, hz⟩ := hb
  rw [cond_T' (by simp [h])]
  simp only [hz, Option.bind_some]
  cases decide (97 ≤ z) <;> cases decide (z ≤ 122) <;> simp only [cond_true, cond_false, Option.bind_some] <;> first | exact ⟨_, rfl⟩ | skip
  cases (decide (1 ≤ r.arity) && decide (r.arity ≤ 3)) <;> exact ⟨_, rfl⟩
 ·rw [cond_F' (by simp; omega)]; exact ⟨_, rfl⟩
theorem validRelations_tot (l : List Relation) : ∃ b, m_impl_AreValidRelations l = some b := by
 unfold m_impl_AreValidRelations
 obtain ⟨o, h1, h2⟩ := forL_ok (xs := l) (s := ()) (f := fun (t_1 : Int) (x_t_1 : Relation) (_ : Unit) => ((m_impl_IsValidRelation x_t_1).bind fun r_5 => cond (!r_5) (some true) (cond (decide (0 < (t_1 : Int))) ((getI l ((t_1 : Int) - 1)).bind fun v_9 => some (!ltS v_9.name x_t_1.name)) (some false))).bind fun (t29 : Bool) => cond t29 (some (.ret false)) (some (.next ())))
  (fun _ _ => True) (fun _ => False) (fun (_ : Bool) => True) trivial fun n x s hx _ => by
   obtain ⟨b, hb⟩ := validRelation_tot x
   have hn : n < l.length := (List.getElem?_eq_some_iff.1 hx).1
   rw [hb, Option.bind_some]
   have key : ∃ t, cond (!b) (some true) (cond (decide (0 < (n : Int))) ((getI l ((n : Int) - 1)).bind fun v_9 => some (!ltS v_9.name x.name)) (some false)) = some t := by
    cases b with
    | false => exact ⟨_, rfl⟩
    | true =>
     by_cases h0 : 0 < n
     ·have e : (n : Int) - 1 = ((n - 1 : Nat) : Int) := by omega
      rw [cond_nt, cond_T' (by simpa using h0), e, getI_lt (show n - 1 < l.length by omega)]; exact ⟨_, rfl⟩
     ·rw [cond_nt, cond_F' (by simpa using h0)]; exact ⟨_, rfl⟩
   obtain ⟨t, ht⟩ := key
   rw [ht, Option.bind_some]
   cases t <;> exact ⟨_, rfl, trivial⟩
 rw [h1, Option.bind_some]
 cases o <;> exact ⟨_, rfl⟩
theorem spec_validRelations (l : List Relation) : m_spec_AreValidRelations l = m_impl_AreValidRelations l := rfl
def FactOK (l : List Relation) (f : Fact) : Prop := ∃ (n : Nat) (r : Relation), f.relation = n ∧ l[n]? = some r ∧ (f.values.length : Int) = r.arity ∧ ∀ v ∈ f.values, 0 ≤ v ∧ v ≤ 9
theorem areValues_eq (l : List Int) : ∃ b, m_impl_areValues l = some b ∧ (b = true ↔ ∀ v ∈ l, 0 ≤ v ∧ v ≤ 9) := by
 unfold m_impl_areValues m_slices_ContainsFunc_Sint_int m_slices_IndexFunc_Sint_int
 obtain ⟨o, h1, h2⟩ := forL_ok (xs := l) (s := ()) (f := fun (t_1 : Int) (x_t_1 : Int) (_ : Unit) => (m_impl_areValues_1 x_t_1).bind fun r_3 => cond r_3 (some (.ret (t_1 : Int))) (some (.next ())))
  (fun n _ => ∀ (j : Nat) x, j < n → l[j]? = some x → 0 ≤ x ∧ x ≤ 9) (fun _ => False) (fun r => 0 ≤ r ∧ ∃ x ∈ l, ¬ (0 ≤ x ∧ x ≤ 9)) (fun j x hj => by omega) fun n x s hx hI => by
   simp only [m_impl_areValues_1, m_impl_within, Option.bind_some]
   by_cases hp : 0 ≤ x ∧ x ≤ 9
   ·rw [cond_F' (by simp [hp])]
    refine ⟨_, rfl, fun j y hj hy => ?_⟩
    by_cases e : j = n
    ·subst e; rw [hx] at hy; cases hy; exact hp
    ·exact hI j y (by omega) hy
   ·rw [cond_T' (by simp; omega)]
    exact ⟨_, rfl, by omega, x, List.mem_of_getElem? hx, hp⟩
 rw [h1]
 cases o with
 | inl s =>
  refine ⟨_, rfl, ?_⟩
  have := h2.resolve_right id
  refine ⟨fun _ v hv => ?_, fun _ => by simp⟩
  obtain ⟨j, hj⟩ := List.getElem?_of_mem hv
  exact this j v (List.getElem?_eq_some_iff.1 hj).1 hj
 | inr r =>
  refine ⟨_, rfl, ?_⟩
  obtain ⟨h3, x, hx, hp⟩ := h2
  refine ⟨fun h => by simp at h; omega, fun h => (hp (h x hx)).elim⟩
theorem isFact_eq (l : List Relation) (f : Fact) : ∃ b, m_impl_isFact l f = some b ∧ (b = true ↔ FactOK l f) := by
 unfold m_impl_isFact m_impl_within
 simp only [Option.bind_some]
 by_cases h : 0 ≤ f.relation ∧ f.relation ≤ (l.length : Int) - 1
 ·rw [cond_T' (by simp [h])]
  obtain ⟨n, hn⟩ : ∃ n : Nat, f.relation = n := ⟨f.relation.toNat, by omega⟩
  have hnl : n < l.length := by omega
  rw [hn, getI_lt hnl, Option.bind_some]
  by_cases ha : (f.values.length : Int) = l[n].arity
  ·rw [cond_T' (by simpa using ha)]
   obtain ⟨b, h1, h2⟩ := areValues_eq f.values
   rw [h1]
   refine ⟨b, rfl, h2.trans ⟨fun hv => ⟨n, l[n], hn, List.getElem?_eq_getElem hnl, ha, hv⟩, fun ⟨_, _, _, _, _, hv⟩ => hv⟩⟩
  ·rw [cond_F' (by simpa using ha)]
   refine ⟨false, rfl, by simp, fun ⟨n', r, h3, h4, h5, _⟩ => ?_⟩
   have : n' = n := by omega
   subst this
   rw [List.getElem?_eq_getElem hnl] at h4; cases h4
   exact (ha h5).elim
 ·rw [cond_F' (by simp; omega)]
  refine ⟨false, rfl, by simp, fun ⟨n', r, h3, h4, _⟩ => ?_⟩
  have := (List.getElem?_eq_some_iff.1 h4).1
  omega
theorem spec_isFact_eq (u : Nat) (l : List Relation) (f : Fact) (hu : f.values.length < u) (hf : f.values.length ≤ 1048576) : ∃ b, m_spec_IsValidFact u l f = some b ∧ (b = true ↔ m_impl_AreValidRelations l = some true ∧ FactOK l f) := by
 unfold m_spec_IsValidFact m_spec_l1In
 rw [spec_validRelations]
 obtain ⟨bl, hbl⟩ := validRelations_tot l
 rw [hbl, Option.bind_some]
 cases bl with
 | false => exact ⟨false, rfl, by simp⟩
 | true =>
  rw [cond_nt]
  simp only [Option.bind_some]
  by_cases h : 0 ≤ f.relation ∧ f.relation ≤ (l.length : Int) - 1
  ·rw [cond_F' (by simp [h])]
   obtain ⟨n, hn⟩ : ∃ n : Nat, f.relation = n := ⟨f.relation.toNat, by omega⟩
   have hnl : n < l.length := by omega
   rw [hn, getI_lt hnl, Option.bind_some, Option.bind_some]
   by_cases ha : (f.values.length : Int) = l[n].arity
   ·rw [cond_F' (by simpa using ha)]
    obtain ⟨o, h1, h2⟩ := while_ok (f := fun (i5 : Int) => cond (decide (i5 < (f.values.length : Int))) ((getI f.values i5).bind fun v_18 => (some ((decide (0 ≤ v_18)) && (decide (v_18 ≤ 9)))).bind fun r_23 => cond (!r_23) (some (.ret false)) (some (.next (w64 (i5 + 1))))) (some (.brk i5)))
     (fun i => ∃ n : Nat, i = n ∧ n ≤ f.values.length ∧ ∀ (j : Nat) x, j < n → f.values[j]? = some x → 0 ≤ x ∧ x ≤ 9) (fun i => f.values.length - i.toNat) (fun i => ∀ v ∈ f.values, 0 ≤ v ∧ v ≤ 9) (fun (r : Bool) => r = false ∧ ¬ ∀ v ∈ f.values, 0 ≤ v ∧ v ≤ 9)
     (fun i ⟨n, hi, hn1, hI⟩ => by
      subst hi
      by_cases h : n < f.values.length
      ·rw [cond_T' (by simpa using h), getI_lt h, Option.bind_some, Option.bind_some]
       by_cases hp : 0 ≤ f.values[n] ∧ f.values[n] ≤ 9
       ·rw [cond_F' (by simp [hp]), w64_id (by omega)]
        refine ⟨_, rfl, ⟨n + 1, by omega, h, fun j x hj hx => ?_⟩, by omega⟩
        by_cases e : j = n
        ·subst e; rw [List.getElem?_eq_getElem h] at hx; cases hx; exact hp
        ·exact hI j x (by omega) hx
       ·rw [cond_T' (by simp; omega)]
        exact ⟨_, rfl, rfl, fun hv => hp (hv _ (List.getElem_mem h))⟩
      ·rw [cond_F' (by simpa using h)]
       refine ⟨_, rfl, fun v hv => ?_⟩
       obtain ⟨j, hj⟩ := List.getElem?_of_mem hv
       have := (List.getElem?_eq_some_iff.1 hj).1
       exact hI j v (by omega) hj)
     u 0 (by simpa using hu) ⟨0, rfl, by omega, fun j x hj => by omega⟩
    simp only [Option.bind_some] at h1
    rw [h1, Option.bind_some]
    cases o with
    | inl i => exact ⟨true, rfl, by simp; exact ⟨n, l[n], hn, List.getElem?_eq_getElem hnl, ha, h2⟩⟩
    | inr r =>
     obtain ⟨rfl, h3⟩ := h2
     exact ⟨false, rfl, by simp; rintro ⟨_, _, _, _, _, hv⟩; exact h3 hv⟩
   ·rw [cond_T' (by simpa using ha)]
    refine ⟨false, rfl, by simp, fun ⟨_, n', r, h3, h4, h5, _⟩ => ?_⟩
    have : n' = n := by omega
    subst this
    rw [List.getElem?_eq_getElem hnl] at h4; cases h4
    exact (ha h5).elim
  ·rw [cond_T' (by simp; omega)]
   refine ⟨false, rfl, by simp, fun ⟨_, n', r, h3, h4, _⟩ => ?_⟩
   have := (List.getElem?_eq_some_iff.1 h4).1
   omega
def cmpF (a b : Fact) : Int := if a.relation < b.relation then -1 else if b.relation < a.relation then 1 else cmpL a.values b.values
theorem impl_CompareFacts_eq (a b : Fact) : m_impl_CompareFacts a b = some (cmpF a b) := by
 unfold m_impl_CompareFacts m_impl_compare cmpF
 rw [slices_Compare_eq]
 by_cases h1 : a.relation < b.relation
 ·rw [cond_T' (by simp; omega), cond_T' (by simpa using h1), if_pos h1]; rfl
 ·by_cases h2 : b.relation < a.relation
  ·rw [cond_T' (by simp; omega), cond_F' (by simpa using h1), cond_T' (by simpa using h2), if_neg h1, if_pos h2]; rfl
  ·rw [cond_F' (by simp; omega), if_neg h1, if_neg h2]; rfl
theorem spec_CompareFacts_eq (u : Nat) (a b : Fact) (hu : a.values.length < u) (ha : a.values.length ≤ 1048576) (hb : b.values.length ≤ 1048576) : m_spec_CompareFacts u a b = some (cmpF a b) := by
 unfold m_spec_CompareFacts cmpF
 rw [l3Ints_cmp _ _ u hu ha (by omega)]
 by_cases h1 : a.relation < b.relation
 ·rw [cond_T' (by simpa using h1), if_pos h1]
 ·by_cases h2 : b.relation < a.relation
  ·rw [cond_F' (by simpa using h1), cond_T' (by simpa using h2), if_neg h1, if_pos h2]
  ·rw [cond_F' (by simpa using h1), cond_F' (by simpa using h2), if_neg h1, if_neg h2]; rfl
structure DbOK (d : Database) : Prop where
  rels : m_impl_AreValidRelations d.relations = some true
  few : d.facts.length ≤ 14
  fact : ∀ (n : Nat) f, d.facts[n]? = some f → FactOK d.relations f
  sorted : ∀ (n : Nat) f g, d.facts[n]? = some f → d.facts[n + 1]? = some g → cmpF f g < 0
theorem round_eq (d : Database) {n : Nat} (hn : n < d.facts.length) (b : Bool) (p : Prop) (hb : b = true ↔ p) : ∃ t, cond (!b) (some true) (cond (decide (0 < (n : Int))) ((getI d.facts ((n : Int) - 1)).bind fun v_15 => some (decide (0 ≤ cmpF v_15 d.facts[n]))) (some false)) = some t ∧ (t = false ↔ p ∧ ∀ m f, m + 1 = n → d.facts[m]? = some f → cmpF f d.facts[n] < 0) := by
 cases b with
 | false => exact ⟨true, rfl, by simp at hb; simp [hb]⟩
 | true =>
  have hp : p := hb.1 rfl
  by_cases h0 : 0 < n
  ·have e : (n : Int) - 1 = ((n - 1 : Nat) : Int) := by omega
   rw [cond_nt, cond_T' (by simpa using h0), e, getI_lt (show n - 1 < d.facts.length by omega)]
   refine ⟨_, rfl, ?_⟩
   simp only [decide_eq_false_iff_not, hp, true_and]
   constructor
   ·intro h m f hm hf
    have : m = n - 1 := by omega
    subst this
    rw [List.getElem?_eq_getElem (by omega)] at hf; cases hf; omega
   ·intro h
    have := h (n - 1) d.facts[n - 1] (by omega) (List.getElem?_eq_getElem (by omega)); omega
  ·rw [cond_nt, cond_F' (by simpa using h0)]
   exact ⟨_, rfl, by simp [hp]; intro m f hm; omega⟩
theorem impl_IsValidDatabase_eq (d : Database) : ∃ b, m_impl_IsValidDatabase d = some b ∧ (b = true ↔ DbOK d) := by
 unfold m_impl_IsValidDatabase
 obtain ⟨bl, hbl⟩ := validRelations_tot d.relations
 rw [hbl, Option.bind_some]
 cases bl with
 | false => exact ⟨false, rfl, by simp; intro h; have := h.rels; rw [hbl] at this; cases this⟩
 | true =>
  rw [cond_nt, Option.bind_some]
  by_cases hf : d.facts.length ≤ 14
  ·rw [cond_F' (by simp; omega)]
   obtain ⟨o, h1, h2⟩ := forL_ok (xs := d.facts) (s := ()) (f := fun (t_7 : Int) (x_t_7 : Fact) (_ : Unit) => ((m_impl_isFact d.relations x_t_7).bind fun r_11 => cond (!r_11) (some true) (cond (decide (0 < (t_7 : Int))) ((getI d.facts ((t_7 : Int) - 1)).bind fun v_15 => (m_impl_CompareFacts v_15 x_t_7).bind fun r_20 => some (decide (0 ≤ r_20))) (some false))).bind fun (t42 : Bool) => cond t42 (some (.ret false)) (some (.next ())))
    (fun n _ => ∀ (j : Nat) (h : j < d.facts.length), j < n → FactOK d.relations d.facts[j] ∧ ∀ m f, m + 1 = j → d.facts[m]? = some f → cmpF f d.facts[j] < 0) (fun _ => False) (fun r => r = false ∧ ¬ DbOK d) (fun j _ hj => by omega) fun n x s hx hI => by
     have hn : n < d.facts.length := (List.getElem?_eq_some_iff.1 hx).1
     rw [List.getElem?_eq_getElem hn] at hx; cases hx
     obtain ⟨b, h3, h4⟩ := isFact_eq d.relations d.facts[n]
     rw [h3, Option.bind_some]
     simp only [impl_CompareFacts_eq, Option.bind_some]
     obtain ⟨t, h5, h6⟩ := round_eq d hn b _ h4
     rw [h5, Option.bind_some]
     cases t with
     | false =>
      refine ⟨_, rfl, fun j hj hjn => ?_⟩
      by_cases e : j = n
      ·subst e; exact h6.1 rfl
      ·exact hI j hj (by omega)
     | true =>
      refine ⟨_, rfl, rfl, fun hok => ?_⟩
      have := h6.2 ⟨hok.fact n _ (List.getElem?_eq_getElem hn), fun m f hm hf => hok.sorted m f _ hf (by rw [hm]; exact List.getElem?_eq_getElem hn)⟩
      cases this
   rw [h1, Option.bind_some]
   cases o with
   | inl s =>
    have h3 := h2.resolve_right id
    refine ⟨true, rfl, fun _ => ⟨hbl, hf, fun n f hn => ?_, fun n f g hn hg => ?_⟩, fun _ => rfl⟩
    ·obtain ⟨hl, rfl⟩ := List.getElem?_eq_some_iff.1 hn; exact (h3 n hl hl).1
    ·obtain ⟨hl, rfl⟩ := List.getElem?_eq_some_iff.1 hg; exact (h3 (n + 1) hl hl).2 n f rfl hn
   | inr r => obtain ⟨rfl, h3⟩ := h2; exact ⟨false, rfl, by simp [h3]⟩
  ·rw [cond_T' (by simp; omega)]
   exact ⟨false, rfl, by simp; intro h; exact hf h.few⟩
theorem spec_IsValidDatabase_eq (u : Nat) (d : Database) (hd : DbS d) (hu : 1048577 < u) : ∃ b, m_spec_IsValidDatabase u d = some b ∧ (b = true ↔ DbOK d) := by
 unfold m_spec_IsValidDatabase
 have hfl := hd.2.1
 obtain ⟨o, h1, h2⟩ := while_ok (f := fun (i3 : Int) => cond (decide (i3 < (d.facts.length : Int))) (((getI d.facts i3).bind fun v_5 => (m_spec_IsValidFact u d.relations v_5).bind fun r_10 => cond (!r_10) (some true) (cond (decide (0 < i3)) ((getI d.facts (w64 (i3 - 1))).bind fun v_14 => (m_spec_CompareFacts u v_14 v_5).bind fun r_19 => some (decide (0 ≤ r_19))) (some false))).bind fun (t38 : Bool) => cond t38 (some (.ret false)) (some (.next (w64 (i3 + 1))))) (some (.brk i3)))
  (fun i => ∃ n : Nat, i = n ∧ n ≤ d.facts.length ∧ ∀ (j : Nat) (h : j < d.facts.length), j < n → FactOK d.relations d.facts[j] ∧ ∀ m f, m + 1 = j → d.facts[m]? = some f → cmpF f d.facts[j] < 0) (fun i => d.facts.length - i.toNat)
  (fun i => ∀ (j : Nat) (h : j < d.facts.length), FactOK d.relations d.facts[j] ∧ ∀ m f, m + 1 = j → d.facts[m]? = some f → cmpF f d.facts[j] < 0) (fun (r : Bool) => r = false ∧ ¬ DbOK d)
  (fun i ⟨n, hi, hn1, hI⟩ => by
   subst hi
   by_cases h : n < d.facts.length
   ·have hv := hd.2.2.2 _ (List.getElem_mem h)
    rw [cond_T' (by simpa using h), getI_lt h, Option.bind_some]
    obtain ⟨b, h3, h4⟩ := spec_isFact_eq u d.relations d.facts[n] (by omega) hv
    rw [h3, Option.bind_some, w64_id (x := (n : Int) - 1) (by omega)]
    have e : ((getI d.facts ((n : Int) - 1)).bind fun v_14 => (m_spec_CompareFacts u v_14 d.facts[n]).bind fun r_19 => some (decide (0 ≤ r_19))) = (getI d.facts ((n : Int) - 1)).bind fun v_15 => some (decide (0 ≤ cmpF v_15 d.facts[n])) := by
     cases hg : getI d.facts ((n : Int) - 1) with
     | none => rfl
     | some f =>
      obtain ⟨m, _, hm⟩ := getI_inv hg
      have hv2 := hd.2.2.2 f (List.mem_of_getElem? hm)
      rw [Option.bind_some, Option.bind_some, spec_CompareFacts_eq u f _ (by omega) hv2 hv]; rfl
    rw [e]
    obtain ⟨t, h5, h6⟩ := round_eq d h b _ h4
    rw [h5, Option.bind_some]
    cases t with
    | false =>
     rw [cond_F' rfl, w64_id (by omega)]
     refine ⟨_, rfl, ⟨n + 1, by omega, h, fun j hj hjn => ?_⟩, by omega⟩
     by_cases e : j = n
     ·subst e; have := h6.1 rfl; exact ⟨this.1.2, this.2⟩
     ·exact hI j hj (by omega)
    | true =>
     refine ⟨_, rfl, rfl, fun hok => ?_⟩
     have := h6.2 ⟨⟨hok.rels, hok.fact n _ (List.getElem?_eq_getElem h)⟩, fun m f hm hf => hok.sorted m f _ hf (by rw [hm]; exact List.getElem?_eq_getElem h)⟩
     cases this
   ·rw [cond_F' (by simpa using h)]
    exact ⟨_, rfl, fun j hj => hI j hj (by omega)⟩)
  u 0 (by simp; omega) ⟨0, rfl, by omega, fun j _ hj => by omega⟩
 rw [h1, Option.bind_some]
 cases o with
 | inr r => obtain ⟨rfl, h3⟩ := h2; exact ⟨false, rfl, by simp [h3]⟩
 | inl i =>
  simp only [onS, spec_validRelations]
  obtain ⟨bl, hbl⟩ := validRelations_tot d.relations
  rw [hbl, Option.bind_some]
  cases bl with
  | false => exact ⟨false, rfl, by simp; intro h; have := h.rels; rw [hbl] at this; cases this⟩
  | true =>
   refine ⟨_, rfl, ?_⟩
   simp only [decide_eq_true_eq]
   refine ⟨fun hf => ⟨hbl, by omega, fun n f hn => ?_, fun n f g hn hg => ?_⟩, fun h => by have := h.few; omega⟩
   ·obtain ⟨hl, rfl⟩ := List.getElem?_eq_some_iff.1 hn; exact (h2 n hl).1
   ·obtain ⟨hl, rfl⟩ := List.getElem?_eq_some_iff.1 hg; exact (h2 (n + 1) hl).2 n f rfl hn
end Go.Proofs.Ytmecnecfkgneoaa
set_option linter.unusedVariables false
set_option linter.unusedSimpArgs false
namespace Go.Proofs.Ytmecnecfkgneoaa
open Go Go.Proofs Go.Sep
def Choice : List (List Int) → List Int → Prop
 | [], [] => True
 | b :: bs, x :: xs => x ∈ b ∧ Choice bs xs
 | _, _ => False
theorem Choice.get : ∀ {bs : List (List Int)} {c : List Int}, Choice bs c → ∀ (i : Nat) b, bs[i]? = some b → ∃ x, c[i]? = some x ∧ x ∈ b
 | b :: bs, x :: xs, h, 0, b', hb => by simp at hb; subst hb; exact ⟨x, rfl, h.1⟩
 | b :: bs, x :: xs, h, i + 1, b', hb => by simpa using Choice.get h.2 i b' (by simpa using hb)
end Go.Proofs.Ytmecnecfkgneoaa
set_option linter.unusedVariables false
set_option linter.unusedSimpArgs false
namespace Go.Proofs.Ytmecnecfkgneoaa
open Go Go.Proofs Go.Sep
def keyLen (l : List Relation) (f : Fact) : Nat := match l[f.relation.toNat]? with
 | some r => r.keyLength.toNat
 | none => 0
def keyF (l : List Relation) (f : Fact) : Int × List Int := (f.relation, f.values.take (keyLen l f))
end Go.Proofs.Ytmecnecfkgneoaa
set_option linter.unusedVariables false
set_option linter.unusedSimpArgs false
namespace Go.Proofs.Ytmecnecfkgneoaa
open Go Go.Proofs Go.Sep
theorem cmpL_zero : ∀ (a b : List Int), cmpL a b = 0 ↔ a = b
 | [], [] => by simp [cmpL]
 | [], y :: b => by simp [cmpL]
 | x :: a, [] => by simp [cmpL]
 | x :: a, y :: b => by
  simp only [cmpL, List.cons.injEq]
  by_cases h1 : x < y
  ·rw [if_pos h1]; constructor
   ·intro h; omega
   ·intro h; omega
  ·by_cases h2 : y < x
   ·rw [if_neg h1, if_pos h2]; constructor
    ·intro h; omega
    ·intro h; omega
   ·rw [if_neg h1, if_neg h2, cmpL_zero a b]
    constructor
    ·intro h; exact ⟨by omega, h⟩
    ·intro h; exact h.2
theorem cmpL_trans : ∀ (a b c : List Int), cmpL a b ≤ 0 → cmpL b c ≤ 0 → cmpL a c ≤ 0
 | [], b, c, h1, h2 => by rw [cmpL_nil_l]; split <;> omega
 | x :: a, [], c, h1, h2 => by simp [cmpL] at h1
 | x :: a, y :: b, [], h1, h2 => by simp [cmpL] at h2
 | x :: a, y :: b, z :: c, h1, h2 => by
  simp only [cmpL] at h1 h2 ⊢
  by_cases c1 : x < z
  ·rw [if_pos c1]; omega
  ·rw [if_neg c1]
   by_cases c2 : x < y
   ·have : z < y := by omega
    rw [if_neg (by omega), if_pos this] at h2; omega
   ·rw [if_neg c2] at h1
    by_cases c3 : y < x
    ·rw [if_pos c3] at h1; omega
    ·rw [if_neg c3] at h1
     have : y = x := by omega
     subst this
     rw [if_neg c1] at h2
     by_cases c4 : z < y
     ·rw [if_pos c4] at h2; omega
     ·rw [if_neg c4] at h2 ⊢
      exact cmpL_trans a b c h1 h2
theorem cmpF_trans {a b c : Fact} (h1 : cmpF a b ≤ 0) (h2 : cmpF b c ≤ 0) : cmpF a c ≤ 0 := by
 unfold cmpF at *
 by_cases c1 : a.relation < c.relation
 ·rw [if_pos c1]; omega
 ·rw [if_neg c1]
  by_cases c2 : a.relation < b.relation
  ·rw [if_neg (by omega), if_pos (by omega)] at h2; omega
  ·rw [if_neg c2] at h1
   by_cases c3 : b.relation < a.relation
   ·rw [if_pos c3] at h1; omega
   ·rw [if_neg c3] at h1
    rw [if_neg (by omega)] at h2
    by_cases c4 : c.relation < b.relation
    ·rw [if_pos c4] at h2; omega
    ·rw [if_neg c4] at h2
     rw [if_neg (by omega)]
     exact cmpL_trans _ _ _ h1 h2
end Go.Proofs.Ytmecnecfkgneoaa
set_option linter.unusedVariables false
set_option linter.unusedSimpArgs false
namespace Go.Proofs.Ytmecnecfkgneoaa
open Go Go.Proofs Go.Sep
theorem cmpSc_rel (a b : Relation) : cmpSc [.s a.name b.name, .i a.arity b.arity, .i a.keyLength b.keyLength] = decide (a = b) := by
 cases a; cases b
 simp [cmpSc, Sc2.eq, Bool.eq_iff_iff]
theorem cmpF_zero (a b : Fact) : cmpF a b = 0 ↔ a = b := by
 unfold cmpF
 cases a; cases b
 simp only [Fact.mk.injEq]
 constructor
 ·intro h
  split at h
  ·cases h
  ·split at h
   ·cases h
   ·exact ⟨by omega, (cmpL_zero _ _).1 h⟩
 ·rintro ⟨rfl, rfl⟩
  rw [if_neg (by omega), if_neg (by omega)]
  exact (cmpL_zero _ _).2 rfl
theorem spec_EqualDatabases_eq {u : Nat} {a b : Database} (ha : DbS a) (hb : DbS b) (hu : 1048577 < u) : m_spec_EqualDatabases u a b = some (decide (a = b)) := by
 unfold m_spec_EqualDatabases
 refine Ok.to (.cond (fun h => .ret ?_) fun h => ?_)
 ·have : a ≠ b := fun e => by subst e; simp at h
  simp [this]
 ·simp only [Bool.or_eq_false_iff, decide_eq_false_iff_not, ne_eq, Decidable.not_not] at h
  have hr : a.relations.length = b.relations.length := by omega
  have hf : a.facts.length = b.facts.length := by omega
  have h1 := ha.1
  have h2 := ha.2.1
  refine .while (fun (i : Int) => ∃ n : Nat, i = (n : Int) ∧ n ≤ a.relations.length ∧ ∀ j, j < n → a.relations[j]? = b.relations[j]?) (fun i => a.relations.length - i.toNat) (fun _ => a.relations = b.relations) (fun r => r = false ∧ a ≠ b) (by omega) ⟨0, rfl, by omega, by omega⟩ (fun i ⟨n, e1, e2, e3⟩ => ?_) (fun i hrel => ?_) (fun r hr => .ret (by rw [hr.1]; simp [hr.2]))
  ·subst e1
   refine .cond (fun hc => ?_) fun hc => .brk ?_
   ·have hn : n < a.relations.length := by simpa using hc
    refine .get rfl hn (.get rfl (by omega) ?_)
    rw [cmpSc_rel]
    refine .cond (fun hd => .out ⟨rfl, fun e => by subst e; simp at hd⟩) fun hd => .next ⟨⟨n + 1, by rw [w64_id (by omega)]; simp, hn, fun j hj => ?_⟩, by rw [w64_id (by omega)]; omega⟩
    have hd' : a.relations[n] = b.relations[n]'(by omega) := by simpa using hd
    by_cases e : j = n
    ·subst e; rw [List.getElem?_eq_getElem hn, List.getElem?_eq_getElem (by omega), hd']
    ·exact e3 j (by omega)
   ·have : n = a.relations.length := by have := of_decide_eq_false hc; omega
    refine List.ext_getElem? fun j => ?_
    rcases Nat.lt_or_ge j a.relations.length with g | g
    ·exact e3 j (by omega)
    ·rw [List.getElem?_eq_none g, List.getElem?_eq_none (by omega)]
  ·refine .while (fun (i : Int) => ∃ n : Nat, i = (n : Int) ∧ n ≤ a.facts.length ∧ ∀ j, j < n → a.facts[j]? = b.facts[j]?) (fun i => a.facts.length - i.toNat) (fun _ => a.facts = b.facts) (fun r => r = false ∧ a ≠ b) (by omega) ⟨0, rfl, by omega, by omega⟩ (fun i ⟨n, e1, e2, e3⟩ => ?_) (fun i hfa => .ret ?_) (fun r hr => .ret (by rw [hr.1]; simp [hr.2]))
   ·subst e1
    refine .cond (fun hc => ?_) fun hc => .brk ?_
    ·have hn : n < a.facts.length := by simpa using hc
     have hva := ha.2.2.2 _ (List.getElem_mem hn)
     have hnb : n < b.facts.length := by omega
     have hvb := hb.2.2.2 _ (List.getElem_mem hnb)
     refine .get rfl hn (.get rfl hnb (.eq (spec_CompareFacts_eq u _ _ (by omega) hva hvb) (.cond (fun hd => .out ⟨rfl, fun e => ?_⟩) fun hd => .next ⟨⟨n + 1, by rw [w64_id (by omega)]; simp, hn, fun j hj => ?_⟩, by rw [w64_id (by omega)]; omega⟩)))
     ·subst e; exact (of_decide_eq_true hd) ((cmpF_zero _ _).2 rfl)
     ·have hd' : a.facts[n] = b.facts[n] := (cmpF_zero _ _).1 (by simpa using hd)
      by_cases e : j = n
      ·subst e; rw [List.getElem?_eq_getElem hn, List.getElem?_eq_getElem hnb, hd']
      ·exact e3 j (by omega)
    ·have : n = a.facts.length := by have := of_decide_eq_false hc; omega
     refine List.ext_getElem? fun j => ?_
     rcases Nat.lt_or_ge j a.facts.length with g | g
     ·exact e3 j (by omega)
     ·rw [List.getElem?_eq_none g, List.getElem?_eq_none (by omega)]
   ·cases a; cases b; simp only at hrel hfa; subst hrel hfa; simp
end Go.Proofs.Ytmecnecfkgneoaa
set_option linter.unusedVariables false
set_option linter.unusedSimpArgs false
namespace Go.Proofs.Ytmecnecfkgneoaa
open Go Go.Proofs Go.Sep
end Go.Proofs.Ytmecnecfkgneoaa
set_option linter.unusedVariables false
set_option linter.unusedSimpArgs false
namespace Go.Proofs.Ytmecnecfkgneoaa
open Go Go.Proofs Go.Sep
end Go.Proofs.Ytmecnecfkgneoaa
set_option linter.unusedVariables false
set_option linter.unusedSimpArgs false
namespace Go.Proofs.Ytmecnecfkgneoaa
open Go Go.Proofs Go.Sep
theorem and_byte (x : Int) : 0 ≤ bitI .and .i64 x 255 ∧ bitI .and .i64 x 255 ≤ 255 := by
 have h : (BitVec.ofInt 64 x &&& BitVec.ofInt 64 255).toNat ≤ 255 := by
  rw [BitVec.toNat_and]
  exact Nat.le_trans Nat.and_le_right (by decide)
 have e : bitI .and .i64 x 255 = w64 (((BitVec.ofInt 64 x &&& BitVec.ofInt 64 255).toNat : Nat) : Int) := rfl
 rw [e, w64_id (by omega)]; omega
def CurOK (c : l1Cur) : Prop := 0 ≤ c.i ∧ c.i ≤ (c.b.length : Int) ∧ c.b.length ≤ 1048576
theorem l1Byte_ok {c : l1Cur} (hc : CurOK c) : Ok (m_spec_l1Byte c) fun r => 0 ≤ r.1 ∧ r.1 ≤ 255 ∧ CurOK r.2 := by
 unfold m_spec_l1Byte
 obtain ⟨h0, h1, h2⟩ := hc
 refine .cond (fun h => ?_) fun h => ?_
 ·have hlt : c.i < (c.b.length : Int) := by simpa using h
  refine .get' h0 hlt fun n hn e => .ret ?_
  have := and_byte (w64 (bitI .and .i64 (bitI .xor .i64 (shrI .i64 (w64 (w64 (c.h * 6364136223846793005) + 1442695040888963407)) 33) (shrI .i64 (w64 (w64 (c.h * 6364136223846793005) + 1442695040888963407)) 45)) 255 + w64 c.b[n]))
  exact ⟨this.1, this.2, by show 0 ≤ w64 (c.i + 1); rw [w64_id (by omega)]; omega, by show w64 (c.i + 1) ≤ _; rw [w64_id (by omega)]; simp only; omega, h2⟩
 ·have := and_byte (bitI .xor .i64 (shrI .i64 (w64 (w64 (c.h * 6364136223846793005) + 1442695040888963407)) 33) (shrI .i64 (w64 (w64 (c.h * 6364136223846793005) + 1442695040888963407)) 45))
  exact .ret ⟨this.1, this.2, h0, h1, h2⟩
theorem tmod_lt {a n : Int} (h0 : 0 ≤ a) (hn : 0 < n) : 0 ≤ a.tmod n ∧ a.tmod n < n := ⟨Int.tmod_nonneg _ h0, Int.tmod_lt_of_pos _ hn⟩
theorem l1Below_ok {c : l1Cur} (hc : CurOK c) (n : Int) : Ok (m_spec_l1Below c n) fun r => CurOK r.2 ∧ 0 ≤ r.1 ∧ (0 < n → r.1 < n) ∧ (n ≤ 0 → r.1 = 0) := by
 unfold m_spec_l1Below
 refine .cond (fun h => .ret ⟨hc, by simp, fun h' => absurd h' (by have h2 := of_decide_eq_true h; omega), fun _ => rfl⟩) fun h => ?_
 have hn : 0 < n := by simpa using h
 refine .cond (fun h2 => ?_) fun h2 => ?_
 ·refine .bind (l1Byte_ok hc) fun r hr => .gD (by omega) (.ret ⟨hr.2.2, (tmod_lt hr.1 hn).1, fun _ => (tmod_lt hr.1 hn).2, fun h => by omega⟩)
 ·refine .bind (l1Byte_ok hc) fun a ha => .bind (l1Byte_ok ha.2.2) fun b hb => .bind (l1Byte_ok hb.2.2) fun d hd => .bind (l1Byte_ok hd.2.2) fun e he => .gD (by omega) (.ret ?_)
  have h0 : 0 ≤ w64 (w64 (w64 (w64 (a.1 * 16777216) + w64 (b.1 * 65536)) + w64 (d.1 * 256)) + e.1) := by
   have := ha.1; have := ha.2.1; have := hb.1; have := hb.2.1; have := hd.1; have := hd.2.1; have := he.1; have := he.2.1
   rw [w64_id (x := a.1 * 16777216) (by omega), w64_id (x := b.1 * 65536) (by omega), w64_id (x := d.1 * 256) (by omega), w64_id (x := a.1 * 16777216 + b.1 * 65536) (by omega), w64_id (x := a.1 * 16777216 + b.1 * 65536 + d.1 * 256) (by omega), w64_id (by omega)]
   omega
  exact ⟨he.2.2, (tmod_lt h0 hn).1, fun _ => (tmod_lt h0 hn).2, fun h => by omega⟩
theorem l1New_ok {u : Nat} {code : List Int} (hl : code.length ≤ 1048576) (hu : 1048577 < u) : Ok (m_spec_l1New u code) CurOK := by
 unfold m_spec_l1New
 refine .while (fun (s : Int × Int) => 0 ≤ s.2 ∧ s.2 ≤ (code.length : Int)) (fun (s : Int × Int) => code.length - s.2.toNat) (fun _ => True) (fun _ => False) (by simp only; omega) ⟨by simp, by simp⟩ (fun ⟨h, i⟩ ⟨h0, h1⟩ => ?_) (fun ⟨h, i⟩ _ => .ret ⟨by simp, by simp, hl⟩) (fun _ h => h.elim)
 simp only at h0 h1 ⊢
 refine .cond (fun hc => ?_) fun _ => .brk trivial
 have hlt : i < (code.length : Int) := by simp only [Bool.and_eq_true, decide_eq_true_eq] at hc; exact hc.1
 refine .get' h0 hlt fun n hn e => .next ⟨⟨?_, ?_⟩, ?_⟩ <;> simp only <;> rw [w64_id (by omega)] <;> omega
end Go.Proofs.Ytmecnecfkgneoaa
set_option linter.unusedVariables false
set_option linter.unusedSimpArgs false
namespace Go.Proofs.Ytmecnecfkgneoaa
open Go Go.Proofs Go.Sep
theorem l1PickInt_ok {c : l1Cur} (hc : CurOK c) (l : List Int) (hl : l ≠ []) : Ok (m_spec_l1PickInt c l) fun r => CurOK r.2 ∧ r.1 ∈ l := by
 have h0 : 0 < l.length := List.length_pos_iff.2 hl
 unfold m_spec_l1PickInt
 refine .bind (l1Below_ok hc _) fun r hr => .get' hr.2.1 (hr.2.2.1 (by omega)) fun n hn e => .ret ⟨hr.1, List.getElem_mem hn⟩
def SigsOK (l : List Relation) : Prop := l.length = 4 ∧ ∀ r ∈ l, r.name.size ≤ 2 ∧ 1 ≤ r.arity ∧ r.arity ≤ 3
theorem l2Sigs_ok {c : l1Cur} (hc : CurOK c) : Ok (m_spec_l2Sigs c) fun r => CurOK r.2 ∧ SigsOK r.1 := by
 unfold m_spec_l2Sigs
 refine .bind (l1PickInt_ok hc _ (by simp)) fun r hr => .bind (l1Below_ok hr.1 2) fun s hs => .ret ⟨hs.1, rfl, fun x hx => ?_⟩
 simp only [List.mem_cons, List.not_mem_nil, or_false] at hx
 rcases hx with rfl | rfl | rfl | rfl <;> refine ⟨?_, ?_, ?_⟩ <;> first | (show ByteArray.size _ ≤ 2; exact Nat.le_of_ble_eq_true rfl) | (simp only; omega)
theorem l3Fact_ok {u : Nat} {c : l1Cur} (hc : CurOK c) {l : List Relation} (hl : l ≠ []) (ha : ∀ r ∈ l, r.arity ≤ 3) (val : Int) (hu : 1048577 < u) : Ok (m_spec_l3Fact u c l val) fun r => CurOK r.2 ∧ r.1.values.length ≤ 3 ∧ ((∀ r ∈ l, 1 ≤ r.arity) → 1 ≤ r.1.values.length) := by
 have h0 : 0 < l.length := List.length_pos_iff.2 hl
 unfold m_spec_l3Fact
 refine .bind (l1Below_ok hc _) fun r hr => ?_
 have hi := hr.2.2.1 (by omega)
 obtain ⟨n, hn⟩ : ∃ n : Nat, r.1 = n := ⟨r.1.toNat, by have := hr.2.1; omega⟩
 have hnl : n < l.length := by omega
 have har := ha _ (List.getElem_mem hnl)
 refine .while (fun (s : l1Cur × List Int) => CurOK s.1 ∧ s.2.length ≤ 3) (fun (s : l1Cur × List Int) => 3 - s.2.length) (fun (s : l1Cur × List Int) => CurOK s.1 ∧ s.2.length ≤ 3 ∧ l[n].arity ≤ (s.2.length : Int)) (fun _ => False) (by simp only [List.length_nil]; omega) ⟨hr.1, by simp⟩ (fun ⟨b, vs⟩ ⟨g1, g2⟩ => ?_) (fun ⟨b, vs⟩ ⟨g1, g2, g3⟩ => .ret ⟨g1, g2, fun h1 => by have := h1 _ (List.getElem_mem hnl); simp only at g3 ⊢; omega⟩) (fun _ h => h.elim)
 simp only at g1 g2 ⊢
 refine .get hn hnl (.cond (fun hlt => ?_) fun hge => .brk ⟨g1, g2, by simpa using hge⟩)
 have hlt' : (vs.length : Int) < l[n].arity := by simpa using hlt
 exact .bind (l1Below_ok g1 _) fun s hs => .app (by simp; omega) (.next ⟨⟨hs.1, by simp; omega⟩, by simp; omega⟩)
def DbD (d : Database) : Prop := d.relations.length ≤ 4 ∧ d.facts.length ≤ 14 ∧ (∀ r ∈ d.relations, r.name.size ≤ 2) ∧ ∀ f ∈ d.facts, f.values.length ≤ 4
theorem DbD.s {d : Database} (h : DbD d) : DbS d := ⟨by have := h.1; omega, by have := h.2.1; omega, fun r hr => by have := h.2.2.1 r hr; omega, fun f hf => by have := h.2.2.2 f hf; omega⟩
theorem l4Copy_eq {u : Nat} {d : Database} (hd : DbS d) (hu : 1048577 < u) : m_spec_l4Copy u d = some d := by
 unfold m_spec_l4Copy
 refine Ok.to (.app (by have := hd.1; simp; omega) ?_)
 refine .while (fun (s : Int × List Fact) => ∃ n : Nat, s.1 = (n : Int) ∧ n ≤ d.facts.length ∧ s.2 = d.facts.take n) (fun (s : Int × List Fact) => d.facts.length - s.1.toNat) (fun (s : Int × List Fact) => s.2 = d.facts) (fun _ => False) (by have := hd.2.1; simp only; omega) ⟨0, rfl, by omega, rfl⟩ (fun ⟨i, fs⟩ ⟨n, h1, h2, h3⟩ => ?_) (fun ⟨i, fs⟩ h => .ret (by simp only at h; subst h; simp)) (fun _ h => h.elim)
 simp only at h1 h3
 subst h1 h3
 simp only
 have hf := hd.2.1
 refine .cond (fun h => ?_) fun h => .brk ?_
 ·have hlt : n < d.facts.length := by simpa using h
  have hv := hd.2.2.2 _ (List.getElem_mem hlt)
  refine .get rfl hlt (.app (by simp; omega) (.app (by simp; omega) (.next ⟨⟨n + 1, by rw [w64_id (by omega)]; simp, hlt, ?_⟩, by simp only; rw [w64_id (by omega)]; omega⟩)))
  simp only [List.nil_append]
  rw [List.take_add_one, List.getElem?_eq_getElem hlt]; rfl
 ·have : ¬ n < d.facts.length := by simpa using h
  simp only
  rw [List.take_of_length_le (by omega)]
theorem FactIndex_tot {u : Nat} {d : Database} (hd : DbS d) {f : Fact} (hf : f.values.length ≤ 1048576) (hu : 1048577 < u) : Ok (m_spec_FactIndex u d f) fun _ => True := by
 unfold m_spec_FactIndex
 refine .while (fun (i : Int) => ∃ n : Nat, i = (n : Int) ∧ n ≤ d.facts.length) (fun i => d.facts.length - i.toNat) (fun _ => True) (fun _ => True) (by have := hd.2.1; omega) ⟨0, rfl, by omega⟩ (fun i ⟨n, h1, h2⟩ => ?_) (fun _ _ => .ret trivial) (fun _ _ => .ret trivial)
 subst h1
 have hfl := hd.2.1
 refine .cond (fun h => ?_) fun h => .brk trivial
 have hlt : n < d.facts.length := by simpa using h
 have hv := hd.2.2.2 _ (List.getElem_mem hlt)
 exact .get rfl hlt (.eq (spec_CompareFacts_eq u _ f (by omega) hv hf) (.cond (fun _ => .out trivial) fun _ => .next ⟨⟨n + 1, by rw [w64_id (by omega)]; simp, hlt⟩, by rw [w64_id (by omega)]; omega⟩))
theorem ContainsFact_tot {u : Nat} {d : Database} (hd : DbS d) {f : Fact} (hf : f.values.length ≤ 1048576) (hu : 1048577 < u) : Ok (m_spec_ContainsFact u d f) fun _ => True := by
 unfold m_spec_ContainsFact
 obtain ⟨b, h1, _⟩ := spec_IsValidDatabase_eq u d hd hu
 refine .bind (P := fun _ => True) (.eq h1 (.cond (fun _ => .bind (FactIndex_tot hd hf hu) fun _ _ => .ret trivial) fun _ => .ret trivial)) fun _ _ => .ret trivial
theorem InsertFact_ok {u : Nat} {d : Database} (hd : DbS d) {f : Fact} (hf : f.values.length ≤ 1048576) (hu : 1048577 < u) : Ok (m_spec_InsertFact u d f) fun r => r.1.relations = d.relations ∧ r.1.facts.length ≤ d.facts.length + 1 ∧ ∀ x ∈ r.1.facts, x ∈ d.facts ∨ x = f := by
 unfold m_spec_InsertFact
 have hfl := hd.2.1
 refine .eq (l4Copy_eq hd hu) (.bind (P := fun _ => True) ?_ fun t _ => ?_)
 ·obtain ⟨b, h1, _⟩ := spec_IsValidDatabase_eq u d hd hu
  obtain ⟨b2, h2, _⟩ := spec_isFact_eq u d.relations f (by omega) hf
  exact .eq h1 (.cond (fun _ => .ret trivial) fun _ => .eq h2 (.cond (fun _ => .ret trivial) fun _ => .bind (ContainsFact_tot hd hf hu) fun _ _ => .cond (fun _ => .ret trivial) fun _ => .ret trivial))
 ·refine .cond (fun _ => .ret ⟨rfl, by simp, fun x hx => .inl hx⟩) fun _ => ?_
  refine .while (fun (i : Int) => ∃ n : Nat, i = (n : Int) ∧ n ≤ d.facts.length) (fun i => d.facts.length - i.toNat) (fun (i : Int) => ∃ n : Nat, i = (n : Int) ∧ n ≤ d.facts.length) (fun _ => False) (by omega) ⟨0, rfl, by omega⟩ (fun i ⟨n, h1, h2⟩ => ?_) (fun i ⟨n, h1, h2⟩ => ?_) (fun _ h => h.elim)
  ·subst h1
   refine .bind (P := fun t => t = true → n < d.facts.length) (.cond (fun h => ?_) fun _ => .ret (fun h => by cases h)) fun t ht => ?_
   ·have hlt : n < d.facts.length := by simpa using h
    have hv := hd.2.2.2 _ (List.getElem_mem hlt)
    exact .get rfl hlt (.eq (spec_CompareFacts_eq u _ f (by omega) hv hf) (.ret fun _ => hlt))
   ·refine .cond (fun h => .next ⟨⟨n + 1, by rw [w64_id (by omega)]; simp, ht h⟩, by have := ht h; rw [w64_id (by omega)]; omega⟩) fun _ => .brk ⟨n, rfl, h2⟩
  ·subst h1
   refine .app (by simp; omega) (.cut rfl rfl h2 (Nat.le_refl _) (.app (by simp; omega) (.cut (i := 0) rfl rfl (Nat.zero_le _) h2 (.app (by simp; omega) (.app (by simp; omega) (.ret ⟨rfl, by simp; omega, fun x hx => ?_⟩))))))
   simp only [List.take_length, List.drop_zero, List.nil_append, List.mem_append, List.mem_singleton, List.cons_append, List.mem_cons] at hx
   rcases hx with h | rfl | h
   ·exact .inl (List.mem_of_mem_take h)
   ·exact .inr rfl
   ·exact .inl (List.mem_of_mem_drop h)
def DbG (n : Nat) (d : Database) : Prop := SigsOK d.relations ∧ d.facts.length ≤ n ∧ ∀ f ∈ d.facts, 1 ≤ f.values.length ∧ f.values.length ≤ 3
theorem DbG.d {n : Nat} {d : Database} (h : DbG n d) (hn : n ≤ 14) : DbD d := ⟨by have := h.1.1; omega, by have := h.2.1; omega, fun r hr => (h.1.2 r hr).1, fun f hf => by have := (h.2.2 f hf).2; omega⟩
theorem SigsOK.ne {l : List Relation} (h : SigsOK l) : l ≠ [] := fun e => by rw [e] at h; have := h.1; simp at this
theorem l4Db_ok {u : Nat} {c : l1Cur} (hc : CurOK c) (hu : 1048577 < u) : Ok (m_spec_l4Db u c) fun r => CurOK r.2 ∧ DbG 12 r.1 := by
 unfold m_spec_l4Db
 refine .bind (l2Sigs_ok hc) fun r1 h1 => .bind (l1PickInt_ok h1.1 _ (by simp)) fun r3 h3 => .bind (l1Below_ok h3.1 11) fun r5 h5 => ?_
 have hb := h5.2.2.1 (by omega)
 have hb0 := h5.2.1
 refine .while (fun (s : Int × l1Cur × List Relation × List Fact) => CurOK s.2.1 ∧ 0 ≤ s.1 ∧ s.1 ≤ 12 ∧ DbG (12 - s.1.toNat) ⟨s.2.2.1, s.2.2.2⟩) (fun (s : Int × l1Cur × List Relation × List Fact) => s.1.toNat) (fun (s : Int × l1Cur × List Relation × List Fact) => CurOK s.2.1 ∧ DbG 12 ⟨s.2.2.1, s.2.2.2⟩) (fun _ => False) (by simp only; rw [w64_id (by omega)]; omega) ⟨h5.1, by simp only; rw [w64_id (by omega)]; omega, by simp only; rw [w64_id (by omega)]; omega, h1.2, by simp, by simp⟩ (fun ⟨n, b, rs, fs⟩ ⟨g1, g2, g3, g4⟩ => ?_) (fun ⟨n, b, rs, fs⟩ h => .ret ⟨h.1, h.2⟩) (fun _ h => h.elim)
 simp only at g1 g2 g3 g4 ⊢
 refine .cond (fun h => ?_) fun h => .brk ⟨g1, g4.1, Nat.le_trans g4.2.1 (by omega), g4.2.2⟩
 have hn : 0 < n := by simpa using h
 refine .bind (l3Fact_ok g1 g4.1.ne (fun r hr => (g4.1.2 r hr).2.2) _ hu) fun r9 h9 => .bind (InsertFact_ok (d := ⟨rs, fs⟩) (DbG.d g4 (by omega)).s (f := r9.1) (by omega) hu) fun r11 h11 => .next ⟨⟨h9.1, ?_, ?_, ?_⟩, ?_⟩
 ·simp only; rw [w64_id (by omega)]; omega
 ·simp only; rw [w64_id (by omega)]; omega
 ·simp only
  rw [w64_id (by omega)]
  refine ⟨by rw [h11.1]; exact g4.1, ?_, fun f hf => ?_⟩
  ·have a1 := h11.2.1; have a2 := g4.2.1; simp only at a1 a2 ⊢; omega
  ·rcases h11.2.2 f hf with h | rfl
   ·exact g4.2.2 f h
   ·exact ⟨h9.2.2 fun r hr => (g4.1.2 r hr).2.1, h9.2.1⟩
 ·simp only; rw [w64_id (by omega)]; omega
theorem l3Any_ok {u : Nat} {c : l1Cur} (hc : CurOK c) {l : List Relation} (hl : SigsOK l) (hu : 1048577 < u) : Ok (m_spec_l3Any u c l) fun r => CurOK r.2 ∧ r.1.values.length ≤ 4 := by
 unfold m_spec_l3Any
 refine .bind (l3Fact_ok hc hl.ne (fun r hr => (hl.2 r hr).2.2) 4 hu) fun r1 h1 => .bind (l1Below_ok h1.1 10) fun r3 h3 => ?_
 have hl3 := h1.2.1
 have hl1 := h1.2.2 fun r hr => (hl.2 r hr).2.1
 refine .cond (fun _ => .bind (l1Below_ok h3.1 6) fun r6 h6 => .ret ⟨h6.1, by simp only; omega⟩) fun _ => .cond (fun _ => .app (by simp; omega) (.ret ⟨h3.1, by simp; omega⟩)) fun _ => .cond (fun _ => .bind (l1PickInt_ok h3.1 _ (by simp)) fun r12 h12 => .get (n := 0) rfl (by omega) (.ret ⟨h12.1, by simp; omega⟩)) fun _ => .ret ⟨h3.1, by simp only; omega⟩
theorem l1Pick_ok {c : l1Cur} (hc : CurOK c) (l : List ByteArray) (hl : l ≠ []) : Ok (m_spec_l1Pick c l) fun r => CurOK r.2 ∧ r.1 ∈ l := by
 have h0 : 0 < l.length := List.length_pos_iff.2 hl
 unfold m_spec_l1Pick
 refine .bind (l1Below_ok hc _) fun r hr => .get' hr.2.1 (hr.2.2.1 (by omega)) fun n hn e => .ret ⟨hr.1, List.getElem_mem hn⟩
theorem l2Any_ok {c : l1Cur} (hc : CurOK c) : Ok (m_spec_l2Any c) fun r => CurOK r.2 ∧ r.1.name.size ≤ 2 := by
 unfold m_spec_l2Any
 refine .bind (l1Pick_ok hc _ (by simp)) fun r1 h1 => .bind (l1Below_ok h1.1 6) fun r3 h3 => .bind (l1Below_ok h3.1 5) fun r5 h5 => .ret ⟨h5.1, ?_⟩
 have := h1.2
 simp only [List.mem_cons, List.not_mem_nil, or_false] at this
 show r1.1.size ≤ 2
 rcases this with h | h | h | h | h | h <;> rw [h] <;> decide
theorem l4Any_ok {u : Nat} {c : l1Cur} (hc : CurOK c) (hu : 1048577 < u) : Ok (m_spec_l4Any u c) fun r => CurOK r.2 ∧ DbD r.1 := by
 unfold m_spec_l4Any
 refine .bind (l4Db_ok hc hu) fun r1 h1 => .bind (l1Below_ok h1.1 14) fun r3 h3 => ?_
 have hg := h1.2
 have hd := hg.d (by omega)
 refine .cond (fun _ => .bind (l3Any_ok h3.1 hg.1 hu) fun r6 h6 => .app (by have := hg.2.1; simp; omega) (.ret ⟨h6.1, hd.1, ?_, hd.2.2.1, fun f hf => ?_⟩)) fun _ => .cond (fun _ => .bind (l1Below_ok h3.1 4) fun r11 h11 => ?_) fun _ => .cond (fun _ => .bind (l1Below_ok h3.1 4) fun r23 h23 => .bind (l2Any_ok h23.1) fun r25 h25 => ?_) fun _ => .ret ⟨h3.1, hd⟩
 ·have := hg.2.1; simp; omega
 ·simp only [List.mem_append, List.mem_singleton] at hf
  rcases hf with hf | rfl
  ·exact hd.2.2.2 f hf
  ·exact h6.2
 ·have h4 := h11.2.2.1 (by omega)
  have h5 := hg.1.1
  obtain ⟨k, hk⟩ : ∃ k : Nat, r11.1 = k := ⟨r11.1.toNat, by have := h11.2.1; omega⟩
  refine .cut (i := 0) rfl hk (Nat.zero_le _) (by omega) (.ret ⟨h11.1, by simp; omega, hd.2.1, fun r hr => hd.2.2.1 r ?_, hd.2.2.2⟩)
  simp only [List.drop_zero] at hr; exact List.mem_of_mem_take hr
 ·have h4 := h23.2.2.1 (by omega)
  have h5 := hg.1.1
  refine .get' h23.2.1 (by omega) fun n hn e => .ret ⟨h25.1, by simp; exact hd.1, hd.2.1, fun r hr => ?_, hd.2.2.2⟩
  rcases List.mem_or_eq_of_mem_set hr with h | rfl
  ·exact hd.2.2.1 r h
  ·exact h25.2
end Go.Proofs.Ytmecnecfkgneoaa
set_option linter.unusedVariables false
set_option linter.unusedSimpArgs false
namespace Go.Sep
section
variable {κ : Type} [DecidableEq κ] (K : Nat → κ)
variable {K}
end
end Go.Sep
set_option linter.unusedVariables false
set_option linter.unusedSimpArgs false
namespace Go.Proofs.Ytmecnecfkgneoaa
open Go Go.Proofs Go.Sep
end Go.Proofs.Ytmecnecfkgneoaa
set_option linter.unusedVariables false
set_option linter.unusedSimpArgs false
namespace Go.Proofs.Ytmecnecfkgneoaa
open Go Go.Proofs Go.Sep
end Go.Proofs.Ytmecnecfkgneoaa
set_option linter.unusedVariables false
set_option linter.unusedSimpArgs false
namespace Go.Proofs.Ytmecnecfkgneoaa
open Go Go.Proofs Go.Sep
end Go.Proofs.Ytmecnecfkgneoaa
set_option linter.unusedVariables false
set_option linter.unusedSimpArgs false
namespace Go.Proofs.Ytmecnecfkgneoaa
open Go Go.Proofs Go.Sep
end Go.Proofs.Ytmecnecfkgneoaa
set_option linter.unusedVariables false
set_option linter.unusedSimpArgs false
namespace Go.Proofs.Ytmecnecfkgneoaa
open Go Go.Proofs Go.Sep
theorem impl_copyDatabase_eq {d : Database} (hd : DbS d) : m_impl_copyDatabase d = some d := by
 unfold m_impl_copyDatabase
 have hf := hd.2.1
 refine Ok.to (.app (by have := hd.1; simp; omega) ?_)
 refine .forS (fun n s => s = d.facts.take n) (by simp) (fun n x s hx hI => ?_) (fun s hI => .ret ?_)
 ·have hn := (List.getElem?_eq_some_iff.1 hx).1
  have hv := hd.2.2.2 _ (List.mem_of_getElem? hx)
  subst hI
  refine .app (by simp; omega) (.app (by simp; omega) (.ret ?_))
  rw [List.take_add_one, hx]; rfl
 ·rw [hI, List.take_length, List.nil_append]
def FirstAt (l : List Fact) (f : Fact) (k : Int) : Prop := (k = -1 ∧ ∀ (j : Nat), l[j]? ≠ some f) ∨ ∃ n : Nat, k = n ∧ l[n]? = some f ∧ ∀ (j : Nat), j < n → l[j]? ≠ some f
theorem FirstAt.uniq {l : List Fact} {f : Fact} {k k' : Int} (h : FirstAt l f k) (h' : FirstAt l f k') : k = k' := by
 rcases h with ⟨rfl, h⟩ | ⟨n, rfl, h1, h2⟩ <;> rcases h' with ⟨rfl, h'⟩ | ⟨m, rfl, h3, h4⟩
 ·rfl
 ·exact (h m h3).elim
 ·exact (h' n h1).elim
 ·rcases Nat.lt_trichotomy n m with g | g | g
  ·exact (h4 n g h1).elim
  ·rw [g]
  ·exact (h2 m g h3).elim
theorem spec_FactIndex_ok {u : Nat} {d : Database} (hd : DbS d) {f : Fact} (hf : f.values.length ≤ 1048576) (hu : 1048577 < u) : Ok (m_spec_FactIndex u d f) (FirstAt d.facts f) := by
 unfold m_spec_FactIndex
 have hfl := hd.2.1
 refine .while (fun (i : Int) => ∃ n : Nat, i = (n : Int) ∧ n ≤ d.facts.length ∧ ∀ (j : Nat), j < n → d.facts[j]? ≠ some f) (fun i => d.facts.length - i.toNat) (fun _ => ∀ (j : Nat), d.facts[j]? ≠ some f) (FirstAt d.facts f) (by omega) ⟨0, rfl, by omega, by omega⟩ (fun i ⟨n, h1, h2, h3⟩ => ?_) (fun _ h => .ret (.inl ⟨rfl, h⟩)) (fun _ h => .ret h)
 subst h1
 refine .cond (fun h => ?_) fun h => .brk fun j hj => ?_
 ·have hlt : n < d.facts.length := by simpa using h
  have hv := hd.2.2.2 _ (List.getElem_mem hlt)
  refine .get rfl hlt (.eq (spec_CompareFacts_eq u _ f (by omega) hv hf) (.cond (fun h4 => .out (.inr ⟨n, rfl, ?_, h3⟩)) fun h4 => .next ⟨⟨n + 1, by rw [w64_id (by omega)]; simp, hlt, fun j hj hjf => ?_⟩, by rw [w64_id (by omega)]; omega⟩))
  ·rw [List.getElem?_eq_getElem hlt, (cmpF_zero _ f).1 (of_decide_eq_true h4)]
  ·by_cases e : j = n
   ·subst e; rw [List.getElem?_eq_getElem hlt] at hjf; cases hjf; exact (of_decide_eq_false h4) ((cmpF_zero _ _).2 rfl)
   ·exact h3 j (by omega) hjf
 ·have : ¬ n < d.facts.length := by simpa using h
  exact h3 j (by have := (List.getElem?_eq_some_iff.1 hj).1; omega) hj
end Go.Proofs.Ytmecnecfkgneoaa
set_option linter.unusedVariables false
set_option linter.unusedSimpArgs false
namespace Go.Proofs.Ytmecnecfkgneoaa
open Go Go.Proofs Go.Sep
theorem cmpL_anti : ∀ a b : List Int, cmpL b a = - cmpL a b
 | [], [] => rfl
 | [], y :: b => by simp [cmpL]
 | x :: a, [] => by simp [cmpL]
 | x :: a, y :: b => by
  simp only [cmpL]
  rw [cmpL_anti a b]
  by_cases h1 : x < y
  ·rw [if_neg (by omega), if_pos h1, if_pos h1]; rfl
  ·by_cases h2 : y < x
   ·rw [if_pos h2, if_neg h1, if_pos h2]
   ·rw [if_neg h2, if_neg h1, if_neg h1, if_neg h2]
theorem cmpF_anti (a b : Fact) : cmpF b a = - cmpF a b := by
 unfold cmpF
 rw [cmpL_anti a.values b.values]
 by_cases h1 : a.relation < b.relation
 ·rw [if_neg (by omega), if_pos h1, if_pos h1]; rfl
 ·by_cases h2 : b.relation < a.relation
  ·rw [if_pos h2, if_neg h1, if_pos h2]
  ·rw [if_neg h2, if_neg h1, if_neg h1, if_neg h2]
theorem cmpF_lt_le {a b c : Fact} (h1 : cmpF a b < 0) (h2 : cmpF b c ≤ 0) : cmpF a c < 0 := by
 have h3 := cmpF_trans (Int.le_of_lt h1) h2
 by_cases e : cmpF a c = 0
 ·have := (cmpF_zero a c).1 e
  subst this
  have := cmpF_anti a b
  omega
 ·omega
structure Red (d x : Database) : Prop where
  rel : x.relations = d.relations
  sub : x.facts.Sublist d.facts
  keys : ∀ f ∈ d.facts, ∃ g ∈ x.facts, keyF d.relations g = keyF d.relations f
theorem Red.trans {a b c : Database} (h : Red a b) (k : Red b c) : Red a c := by
 refine ⟨k.rel.trans h.rel, k.sub.trans h.sub, fun f hf => ?_⟩
 obtain ⟨g, g1, g2⟩ := h.keys f hf
 obtain ⟨x, x1, x2⟩ := k.keys g g1
 rw [h.rel] at x2
 exact ⟨x, x1, x2.trans g2⟩
theorem Red.s {d x : Database} (h : Red d x) (hs : DbS d) : DbS x := ⟨by rw [h.rel]; exact hs.1, Nat.le_trans h.sub.length_le hs.2.1, by rw [h.rel]; exact hs.2.2.1, fun f hf => hs.2.2.2 f (h.sub.mem hf)⟩
end Go.Proofs.Ytmecnecfkgneoaa
set_option linter.unusedVariables false
set_option linter.unusedSimpArgs false
namespace Go.Proofs.Ytmecnecfkgneoaa
open Go Go.Proofs Go.Sep
end Go.Proofs.Ytmecnecfkgneoaa
set_option linter.unusedVariables false
set_option linter.unusedSimpArgs false
namespace Go.Proofs.Ytmecnecfkgneoaa
open Go Go.Proofs Go.Sep
end Go.Proofs.Ytmecnecfkgneoaa
set_option linter.unusedVariables false
set_option linter.unusedSimpArgs false
namespace Go.Proofs.Ytmecnecfkgneoaa
open Go Go.Proofs Go.Sep
end Go.Proofs.Ytmecnecfkgneoaa
set_option linter.unusedVariables false
set_option linter.unusedSimpArgs false
namespace Go.Proofs.Ytmecnecfkgneoaa
open Go Go.Proofs Go.Sep
def AscF (l : List Fact) : Prop := l.Pairwise fun f g => cmpF f g < 0
theorem cmpF_irr (f : Fact) : cmpF f f = 0 := (cmpF_zero f f).2 rfl
theorem AscF.uniq : ∀ {l m : List Fact}, AscF l → AscF m → (∀ x, x ∈ l ↔ x ∈ m) → l = m
 | [], [], _, _, _ => rfl
 | [], b :: m, _, _, h => by have := (h b).2 (List.mem_cons_self ..); simp at this
 | a :: l, [], _, _, h => by have := (h a).1 (List.mem_cons_self ..); simp at this
 | a :: l, b :: m, hl, hm, h => by
  obtain ⟨h1, h2⟩ := List.pairwise_cons.1 hl
  obtain ⟨h3, h4⟩ := List.pairwise_cons.1 hm
  have hab : a = b := by
   rcases List.mem_cons.1 ((h a).1 (List.mem_cons_self ..)) with e | g1
   ·exact e
   ·rcases List.mem_cons.1 ((h b).2 (List.mem_cons_self ..)) with e | g2
    ·exact e.symm
    ·have := h1 b g2; have := h3 a g1; have := cmpF_anti a b; omega
  subst hab
  congr 1
  refine AscF.uniq h2 h4 fun x => ⟨fun hx => ?_, fun hx => ?_⟩
  ·rcases List.mem_cons.1 ((h x).1 (List.mem_cons_of_mem _ hx)) with e | g
   ·subst e; have := h1 x hx; rw [cmpF_irr] at this; omega
   ·exact g
  ·rcases List.mem_cons.1 ((h x).2 (List.mem_cons_of_mem _ hx)) with e | g
   ·subst e; have := h3 x hx; rw [cmpF_irr] at this; omega
   ·exact g
theorem cmpF_ok (l : List Fact) : CmpOK (fun x y => m_impl_CompareFacts x y) l where
 tot := fun x _ y _ => by
  refine ⟨_, impl_CompareFacts_eq x y, ?_⟩
  have : ∀ a b : List Int, -1 ≤ cmpL a b ∧ cmpL a b ≤ 1 := fun a => by
   induction a with
   | nil => intro b; rw [cmpL_nil_l]; split <;> omega
   | cons x a ih =>
    intro b
    cases b with
    | nil => rw [cmpL_nil_r]; split <;> omega
    | cons y b => have := ih b; simp only [cmpL]; split <;> (try split) <;> omega
  have := this x.values y.values
  unfold cmpF
  split <;> (try split) <;> omega
 irr := fun x _ r h => by rw [impl_CompareFacts_eq] at h; cases h; rw [cmpF_irr]; omega
 tr := fun x _ y _ z _ r s t h1 h2 h3 h4 h5 => by
  rw [impl_CompareFacts_eq] at h1 h2 h3; cases h1; cases h2; cases h3
  exact cmpF_lt_le h4 (by omega)
 ntr := fun x _ y _ z _ r s t h1 h2 h3 h4 h5 => by
  rw [impl_CompareFacts_eq] at h1 h2 h3; cases h1; cases h2; cases h3
  have e1 := cmpF_anti x y; have e2 := cmpF_anti y z; have e3 := cmpF_anti x z
  have := cmpF_trans (a := z) (b := y) (c := x) (by omega) (by omega)
  omega
 anti := fun x _ y _ r s h1 h2 h3 h4 => by
  rw [impl_CompareFacts_eq] at h1 h2; cases h1; cases h2
  have := cmpF_anti x y
  exact (cmpF_zero x y).1 (by omega)
theorem sortF (l : List Fact) (hl : l.length < 4611686018427387904) : ∃ so, sortM (fun x y => m_impl_CompareFacts x y) l = some so ∧ so.Perm l ∧ so.Pairwise fun f g => cmpF f g ≤ 0 := by
 have hp : (l.mergeSort fun x y => decide (cmpF x y ≤ 0)).Perm l := List.mergeSort_perm ..
 have hs : (l.mergeSort fun x y => decide (cmpF x y ≤ 0)).Pairwise fun f g => cmpF f g ≤ 0 := by
  have := List.pairwise_mergeSort (le := fun x y => decide (cmpF x y ≤ 0)) (fun a b c h1 h2 => by simp only [decide_eq_true_eq] at h1 h2 ⊢; exact cmpF_trans h1 h2) (fun a b => by have := cmpF_anti a b; simp only [Bool.or_eq_true, decide_eq_true_eq]; omega) l
  simpa using this
 refine ⟨_, sortM_eq hl (cmpF_ok l) ⟨hp, hs.imp fun {x y} h r hr => ?_⟩, hp, hs⟩
 have hr : m_impl_CompareFacts y x = some r := hr
 rw [impl_CompareFacts_eq] at hr; cases hr
 have := cmpF_anti x y; omega
theorem compG_memF : ∀ (l : List Fact) (p x : Fact), x ∈ compG (fun x y => decide (cmpF x y = 0)) p l ∨ x = p ↔ x ∈ l ∨ x = p
 | [], p, x => by simp [compG]
 | y :: l, p, x => by
  have h := compG_memF l y x
  simp only [compG]
  split
  ·rename_i e
   have e := (cmpF_zero _ _).1 (of_decide_eq_true e)
   subst e
   simp only [List.mem_cons]
   constructor
   ·intro g; rcases h.1 g with g | g
    ·exact .inl (.inr g)
    ·exact .inr g
   ·intro g; rcases g with (g | g) | g
    ·exact .inr g
    ·exact h.2 (.inl g)
    ·exact .inr g
  ·simp only [List.mem_cons]
   constructor
   ·intro g; rcases g with (g | g) | g
    ·exact .inl (.inl g)
    ·rcases h.1 (.inl g) with k | k
     ·exact .inl (.inr k)
     ·exact .inl (.inl k)
    ·exact .inr g
   ·intro g; rcases g with (g | g) | g
    ·exact .inl (.inl g)
    ·rcases h.2 (.inl g) with k | k
     ·exact .inl (.inr k)
     ·exact .inl (.inl k)
    ·exact .inr g
theorem compG_ascF : ∀ (l : List Fact) (p : Fact), (p :: l).Pairwise (fun f g => cmpF f g ≤ 0) → AscF (p :: compG (fun x y => decide (cmpF x y = 0)) p l)
 | [], p, _ => by simp [compG, AscF]
 | y :: l, p, h => by
  obtain ⟨h1, h2⟩ := List.pairwise_cons.1 h
  have ih := compG_ascF l y h2
  simp only [compG]
  split
  ·rename_i e
   have e := (cmpF_zero _ _).1 (of_decide_eq_true e)
   subst e
   exact ih
  ·rename_i e
   have hy := h1 y (List.mem_cons_self ..)
   have hne : cmpF p y < 0 := by
    have : cmpF y p ≠ 0 := fun k => e (decide_eq_true k)
    have := cmpF_anti p y; omega
   refine List.pairwise_cons.2 ⟨fun z hz => ?_, ih⟩
   rcases List.mem_cons.1 hz with rfl | hz
   ·exact hne
   ·exact cmpF_lt_le hne (by have := (List.pairwise_cons.1 ih).1 z hz; omega)
theorem compF_F {l : List Fact} (h : l.Pairwise fun f g => cmpF f g ≤ 0) : AscF (compF (fun x y => decide (cmpF x y = 0)) l) ∧ ∀ x, x ∈ compF (fun x y => decide (cmpF x y = 0)) l ↔ x ∈ l := by
 cases l with
 | nil => exact ⟨.nil, fun x => Iff.rfl⟩
 | cons p l =>
  refine ⟨compG_ascF l p h, fun x => ?_⟩
  have := compG_memF l p x
  simp only [compF, List.mem_cons]
  rw [or_comm, this, or_comm]
def repV (a b v : Int) : Int := if v = a then b else v
def repF (a b : Int) (f : Fact) : Fact := ⟨f.relation, f.values.map (repV a b)⟩
theorem repF_ok {l : List Relation} {a b : Int} (hb : 0 ≤ b ∧ b ≤ 9) {f : Fact} (h : FactOK l f) : FactOK l (repF a b f) := by
 obtain ⟨n, r, h1, h2, h3, h4⟩ := h
 refine ⟨n, r, h1, h2, by simpa [repF] using h3, fun v hv => ?_⟩
 simp only [repF, List.mem_map] at hv
 obtain ⟨w, hw, rfl⟩ := hv
 unfold repV
 split
 ·exact hb
 ·exact h4 w hw
theorem getElem?_repl {α : Type} {f : α → α} {xs t : List α} {n : Nat} {x : α} (hl : t.length = xs.length) (hI : ∀ j, t[j]? = if j < n then (xs[j]?).map f else xs[j]?) (hx : xs[n]? = some x) (j : Nat) : (t.set n (f x))[j]? = if j < n + 1 then (xs[j]?).map f else xs[j]? := by
 have hn := (List.getElem?_eq_some_iff.1 hx).1
 by_cases e : j = n
 ·subst e; rw [List.getElem?_set_self (by omega), if_pos (Nat.lt_succ_self _), hx]; rfl
 ·rw [List.getElem?_set_ne (Ne.symm e), hI]
  by_cases h : j < n
  ·rw [if_pos h, if_pos (by omega)]
  ·rw [if_neg h, if_neg (by omega)]
theorem repl_done {α : Type} {f : α → α} {xs t : List α} (hI : ∀ j, t[j]? = if j < xs.length then (xs[j]?).map f else xs[j]?) : t = xs.map f := by
 apply List.ext_getElem?
 intro j
 rw [hI, List.getElem?_map]
 split
 ·rfl
 ·rw [List.getElem?_eq_none (by omega)]; rfl
theorem impl_merge {d : Database} (hs : DbS d) {a b : Int} (hd : DbOK d) (ha : 0 ≤ a ∧ a ≤ 9) (hb : 0 ≤ b ∧ b ≤ 9) : Ok (m_impl_MergeValues d a b) fun r => r.1.relations = d.relations ∧ r.2 = true ∧ AscF r.1.facts ∧ ∀ x, x ∈ r.1.facts ↔ x ∈ d.facts.map (repF a b) := by
 obtain ⟨v, g1, g2⟩ := impl_IsValidDatabase_eq d
 have hv : v = true := g2.2 hd
 subst hv
 unfold m_impl_MergeValues m_impl_within
 refine .eq (impl_copyDatabase_eq hs) (.bind (P := fun t => t = false) (.eq g1 (.cf rfl (.eq rfl (.cf (by simp; omega) (.eq rfl (.ret (by simp; omega))))))) fun t ht => .cf ht ?_)
 refine .forM (fun n t => t.length = d.facts.length ∧ ∀ j, t[j]? = if j < n then (d.facts[j]?).map (repF a b) else d.facts[j]?) ⟨rfl, fun j => by simp⟩ (fun n t hn hI => ?_) fun t hI => ?_
 ·have hx : d.facts[n]? = some d.facts[n] := List.getElem?_eq_getElem hn
  have htn : t[n]? = some d.facts[n] := by rw [hI.2, if_neg (Nat.lt_irrefl n)]; exact hx
  have htl : n < t.length := by omega
  have hte : t[n] = d.facts[n] := by rw [List.getElem?_eq_getElem htl] at htn; simpa using htn
  refine .get rfl htl ?_
  rw [hte]
  generalize d.facts[n] = f at hx
  refine .forM (fun k s => s.length = f.values.length ∧ ∀ j, s[j]? = if j < k then (f.values[j]?).map (repV a b) else f.values[j]?) ⟨rfl, fun j => by simp⟩ (fun k s hk hJ => ?_) fun s hJ => .ret ⟨by simp [hI.1], fun j => ?_⟩
  ·have hy : f.values[k]? = some f.values[k] := List.getElem?_eq_getElem hk
   have hsk : s[k]? = some f.values[k] := by rw [hJ.2, if_neg (Nat.lt_irrefl k)]; exact hy
   have hsl : k < s.length := by omega
   have hse : s[k] = f.values[k] := by rw [List.getElem?_eq_getElem hsl] at hsk; simpa using hsk
   refine .get rfl hsl ?_
   rw [hse]
   generalize f.values[k] = v at hy hsk
   refine .cond (fun h => .ret ⟨by simp [hJ.1], fun j => ?_⟩) fun h => .ret ⟨hJ.1, fun j => ?_⟩
   ·have e : repV a b v = b := if_pos (of_decide_eq_true h)
    have := getElem?_repl (f := repV a b) hJ.1 hJ.2 hy j
    rw [e] at this; exact this
   ·have e : repV a b v = v := if_neg (of_decide_eq_false h)
    have := getElem?_repl (f := repV a b) hJ.1 hJ.2 hy j
    rw [e] at this
    rw [← this]
    by_cases ej : j = k
    ·subst ej; rw [List.getElem?_set_self hsl]; exact hsk
    ·rw [List.getElem?_set_ne (Ne.symm ej)]
  ·have e : s = f.values.map (repV a b) := repl_done hJ.2
   subst e
   exact getElem?_repl (f := repF a b) hI.1 hI.2 hx j
 ·have e : t = d.facts.map (repF a b) := repl_done hI.2
  subst e
  have hf := hs.2.1
  obtain ⟨so, h1, h2, h3⟩ := sortF (d.facts.map (repF a b)) (by simp; omega)
  have h4 : compM (fun x y => m_impl_MergeValues_1 x y) so = some (compF (fun x y => decide (cmpF x y = 0)) so) := compM_eq (fun x _ y _ => by unfold m_impl_MergeValues_1; rw [impl_CompareFacts_eq]; rfl) (by rw [h2.length_eq]; simp; omega)
  obtain ⟨h5, h6⟩ := compF_F h3
  exact .eq h1 (.eq h4 (.ret ⟨rfl, rfl, h5, fun x => (h6 x).trans h2.mem_iff⟩))
theorem spec_contains {u : Nat} {d : Database} (hs : DbS d) {f : Fact} (hf : f.values.length ≤ 1048576) (hu : 1048577 < u) (hd : DbOK d) : m_spec_ContainsFact u d f = some (decide (f ∈ d.facts)) := by
 obtain ⟨b, g3, g4⟩ := spec_IsValidDatabase_eq u d hs hu
 have hb : b = true := g4.2 hd
 subst hb
 obtain ⟨k, i1, i2⟩ := spec_FactIndex_ok hs hf hu
 unfold m_spec_ContainsFact
 refine Ok.to (.bind (P := fun t => t = decide (f ∈ d.facts)) (.eq g3 (.ct rfl (.eq i1 (.ret ?_)))) fun t ht => .ret ht)
 rcases i2 with ⟨rfl, h⟩ | ⟨n, rfl, h, _⟩
 ·rw [decide_eq_false (by omega)]
  refine (decide_eq_false fun hm => ?_).symm
  obtain ⟨j, hj⟩ := List.getElem?_of_mem hm
  exact h j hj
 ·rw [decide_eq_true (by omega)]
  exact (decide_eq_true (List.mem_of_getElem? h)).symm
theorem spec_insert {u : Nat} {d : Database} (hs : DbS d) {f : Fact} (hf : f.values.length ≤ 1048576) (hu : 1048577 < u) (hd : DbOK d) (hfo : FactOK d.relations f) (h14 : d.facts.length < 14) (hasc : AscF d.facts) :
  Ok (m_spec_InsertFact u d f) fun r => r.1.relations = d.relations ∧ r.1.facts.length ≤ d.facts.length + 1 ∧ AscF r.1.facts ∧ ∀ x, x ∈ r.1.facts ↔ x ∈ d.facts ∨ x = f := by
 obtain ⟨b, g3, g4⟩ := spec_IsValidDatabase_eq u d hs hu
 have hb : b = true := g4.2 hd
 subst hb
 obtain ⟨q, i3, i4⟩ := spec_isFact_eq u d.relations f (by omega) hf
 have hq : q = true := i4.2 ⟨hd.rels, hfo⟩
 subst hq
 have hfl := hs.2.1
 unfold m_spec_InsertFact
 refine .eq (l4Copy_eq hs hu) (.bind (P := fun t => t = decide (f ∈ d.facts)) (.eq g3 (.cf rfl (.eq i3 (.cf rfl (.eq (spec_contains hs hf hu hd) (.cond (fun h => .ret h.symm) fun h => .ret ?_)))))) fun t ht => ?_)
 ·rw [h]; exact decide_eq_false (by omega)
 subst ht
 refine .cond (fun h => .ret ⟨rfl, by simp, hasc, fun x => ⟨.inl, fun h1 => h1.elim id fun e => e ▸ of_decide_eq_true h⟩⟩) fun h => ?_
 have hnew := of_decide_eq_false h
 refine .while (fun (i : Int) => ∃ n : Nat, i = (n : Int) ∧ n ≤ d.facts.length ∧ ∀ (j : Nat) x, j < n → d.facts[j]? = some x → cmpF x f < 0) (fun i => d.facts.length - i.toNat) (fun (i : Int) => ∃ n : Nat, i = (n : Int) ∧ n ≤ d.facts.length ∧ (∀ (j : Nat) x, j < n → d.facts[j]? = some x → cmpF x f < 0) ∧ ∀ x, d.facts[n]? = some x → ¬ cmpF x f < 0) (fun _ => False) (by omega) ⟨0, rfl, by omega, fun j x hj => by omega⟩ (fun i ⟨n, h1, h2, h3⟩ => ?_) (fun i ⟨n, h1, h2, h3, h4⟩ => ?_) (fun _ h => h.elim)
 ·subst h1
  by_cases hlt : n < d.facts.length
  ·have hv := hs.2.2.2 _ (List.getElem_mem hlt)
   by_cases hc : cmpF d.facts[n] f < 0
   ·refine .bind (P := fun t => t = true) (.ct (decide_eq_true (by omega)) (.get rfl hlt (.eq (spec_CompareFacts_eq u _ f (by omega) hv hf) (.ret (decide_eq_true hc))))) fun t ht => .ct ht (.next ⟨⟨n + 1, by rw [w64_id (by omega)]; simp, hlt, fun j x hj hx => ?_⟩, by rw [w64_id (by omega)]; omega⟩)
    rcases Nat.lt_succ_iff_lt_or_eq.1 hj with h | rfl
    ·exact h3 j x h hx
    ·rw [List.getElem?_eq_getElem hlt] at hx; cases hx; exact hc
   ·refine .bind (P := fun t => t = false) (.ct (decide_eq_true (by omega)) (.get rfl hlt (.eq (spec_CompareFacts_eq u _ f (by omega) hv hf) (.ret (decide_eq_false hc))))) fun t ht => .cf ht (.brk ⟨n, rfl, h2, h3, fun x hx => ?_⟩)
    rw [List.getElem?_eq_getElem hlt] at hx; cases hx; exact hc
  ·refine .bind (P := fun t => t = false) (.cf (decide_eq_false (by omega)) (.ret rfl)) fun t ht => .cf ht (.brk ⟨n, rfl, h2, h3, fun x hx => ?_⟩)
   rw [List.getElem?_eq_none (by omega)] at hx; cases hx
 ·subst h1
  refine .app (by simp; omega) (.cut (i := n) (j := d.facts.length) rfl rfl h2 (Nat.le_refl _) (.app (by simp; omega) (.cut (i := 0) (j := n) rfl rfl (by omega) h2 (.app (by simp; omega) (.app (by simp; omega) (.ret ?_))))))
  have e : [] ++ (d.facts.take n).drop 0 ++ ([({ relation := f.relation, values := [] ++ f.values } : Fact)] ++ (d.facts.take d.facts.length).drop n) = d.facts.take n ++ f :: d.facts.drop n := by simp
  have hmem : ∀ x, x ∈ d.facts.take n ++ f :: d.facts.drop n ↔ x ∈ d.facts ∨ x = f := fun x => by
   conv => rhs; rw [← List.take_append_drop n d.facts]
   simp only [List.mem_append, List.mem_cons]
   constructor
   ·rintro (h | h | h)
    ·exact .inl (.inl h)
    ·exact .inr h
    ·exact .inl (.inr h)
   ·rintro ((h | h) | h)
    ·exact .inl h
    ·exact .inr (.inr h)
    ·exact .inr (.inl h)
  simp only [e]
  refine ⟨trivial, by simp; omega, ?_, hmem⟩
  have ha := hasc
  unfold AscF at ha
  rw [← List.take_append_drop n d.facts] at ha
  obtain ⟨k1, k2, k3⟩ := List.pairwise_append.1 ha
  have hlow : ∀ x ∈ d.facts.take n, cmpF x f < 0 := fun x hx => by
   obtain ⟨j, hj⟩ := List.getElem?_of_mem hx
   have hjn : j < n := by have := (List.getElem?_eq_some_iff.1 hj).1; simp only [List.length_take] at this; omega
   rw [List.getElem?_take_of_lt hjn] at hj
   exact h3 j x hjn hj
  have hhigh : ∀ x ∈ d.facts.drop n, cmpF f x < 0 := fun x hx => by
   have hnl : n < d.facts.length := by
    rcases Nat.lt_or_ge n d.facts.length with h | h
    ·exact h
    ·rw [List.drop_eq_nil_of_le h] at hx; simp at hx
   have h5 := h4 _ (List.getElem?_eq_getElem hnl)
   have h6 : cmpF d.facts[n] f ≠ 0 := fun h => hnew ((cmpF_zero _ _).1 h ▸ List.getElem_mem hnl)
   have h7 : cmpF f d.facts[n] < 0 := by have := cmpF_anti f d.facts[n]; omega
   rw [List.drop_eq_getElem_cons hnl] at hx k2
   rcases List.mem_cons.1 hx with rfl | hx
   ·exact h7
   ·exact cmpF_lt_le h7 (by have := (List.pairwise_cons.1 k2).1 x hx; omega)
  refine List.pairwise_append.2 ⟨k1, List.pairwise_cons.2 ⟨hhigh, k2⟩, fun x hx y hy => ?_⟩
  rcases List.mem_cons.1 hy with rfl | hy
  ·exact hlow x hx
  ·exact k3 x hx y hy
theorem dbOK_of {d : Database} (h1 : m_impl_AreValidRelations d.relations = some true) (h2 : d.facts.length ≤ 14) (h3 : ∀ f ∈ d.facts, FactOK d.relations f) (h4 : AscF d.facts) : DbOK d := by
 refine ⟨h1, h2, fun n f hf => h3 f (List.mem_of_getElem? hf), fun n f g hf hg => ?_⟩
 obtain ⟨i1, rfl⟩ := List.getElem?_eq_some_iff.1 hf
 obtain ⟨i2, rfl⟩ := List.getElem?_eq_some_iff.1 hg
 exact List.pairwise_iff_getElem.1 h4 n (n + 1) i1 i2 (Nat.lt_succ_self n)
theorem spec_merge {u : Nat} {d : Database} (hs : DbS d) (hu : 1048577 < u) {a b : Int} (hd : DbOK d) (ha : 0 ≤ a ∧ a ≤ 9) (hb : 0 ≤ b ∧ b ≤ 9) : Ok (m_spec_MergeValues u d a b) fun r => r.1.relations = d.relations ∧ r.2 = true ∧ AscF r.1.facts ∧ ∀ x, x ∈ r.1.facts ↔ x ∈ d.facts.map (repF a b) := by
 obtain ⟨v, g1, g2⟩ := spec_IsValidDatabase_eq u d hs hu
 have hv : v = true := g2.2 hd
 subst hv
 have hfl := hs.2.1
 have hfew := hd.few
 unfold m_spec_MergeValues m_spec_l1In
 refine .bind (P := fun t => t = false) (.eq g1 (.cf rfl (.eq rfl (.cf (by simp; omega) (.eq rfl (.ret (by simp; omega))))))) fun t ht => .cf ht (.app (by have := hs.1; simp; omega) ?_)
 refine .while (fun (s : Int × List Relation × List Fact) => ∃ n : Nat, s.1 = (n : Int) ∧ n ≤ d.facts.length ∧ s.2.1 = d.relations ∧ AscF s.2.2 ∧ s.2.2.length ≤ n ∧ ∀ x, x ∈ s.2.2 ↔ x ∈ (d.facts.take n).map (repF a b)) (fun s => d.facts.length - s.1.toNat) (fun s => s.2.1 = d.relations ∧ AscF s.2.2 ∧ ∀ x, x ∈ s.2.2 ↔ x ∈ d.facts.map (repF a b)) (fun _ => False) (by omega) ⟨0, rfl, by omega, by simp, .nil, by simp, fun x => by simp⟩ (fun s ⟨n, h1, h2, h3, h4, h5, h6⟩ => ?_) (fun s ⟨h1, h2, h3⟩ => .ret ⟨h1, rfl, h2, h3⟩) (fun _ h => h.elim)
 obtain ⟨i, rels, facts⟩ := s
 simp only at h1 h3 h4 h5 h6
 subst h1 h3
 refine .cond (fun h => ?_) fun h => .brk ⟨rfl, h4, fun x => ?_⟩
 ·have hn : n < d.facts.length := by have := of_decide_eq_true h; omega
  have hfv := hs.2.2.2 _ (List.getElem_mem hn)
  have hfo := hd.fact n _ (List.getElem?_eq_getElem hn)
  have htake : d.facts.take (n + 1) = d.facts.take n ++ [d.facts[n]] := by rw [List.take_add_one, List.getElem?_eq_getElem hn]; rfl
  refine .get rfl hn ?_
  generalize d.facts[n] = f at hfv hfo htake
  refine .while (fun (s : Int × List Int) => ∃ k : Nat, s.1 = (k : Int) ∧ k ≤ f.values.length ∧ s.2 = (f.values.take k).map (repV a b)) (fun s => f.values.length - s.1.toNat) (fun s => s.2 = f.values.map (repV a b)) (fun _ => False) (by omega) ⟨0, rfl, by omega, by simp⟩ (fun s ⟨k, k1, k2, k3⟩ => ?_) (fun s k3 => ?_) (fun _ h => h.elim)
  ·obtain ⟨k', vals⟩ := s
   simp only at k1 k3
   subst k1 k3
   refine .cond (fun h => ?_) fun h => .brk ?_
   ·have hk : k < f.values.length := by have := of_decide_eq_true h; omega
    have hvt : f.values.take (k + 1) = f.values.take k ++ [f.values[k]] := by rw [List.take_add_one, List.getElem?_eq_getElem hk]; rfl
    refine .get rfl hk ?_
    refine .cond (fun h => .app (by simp; omega) (.next ⟨⟨k + 1, by simp only; rw [w64_id (by omega)]; simp, hk, ?_⟩, by simp only; rw [w64_id (by omega)]; omega⟩)) fun h => .app (by simp; omega) (.next ⟨⟨k + 1, by simp only; rw [w64_id (by omega)]; simp, hk, ?_⟩, by simp only; rw [w64_id (by omega)]; omega⟩)
    ·rw [hvt, List.map_append, List.map_singleton, repV, if_pos (of_decide_eq_true h)]
    ·rw [hvt, List.map_append, List.map_singleton, repV, if_neg (of_decide_eq_false h)]
   ·have : f.values.length ≤ k := by have := of_decide_eq_false h; omega
    simp only [List.take_of_length_le this]
  ·obtain ⟨k', vals⟩ := s
   simp only at k3
   subst k3
   have hmem : ∀ g ∈ facts, FactOK d.relations g ∧ g.values.length ≤ 1048576 := fun g hg => by
    have := (h6 g).1 hg
    simp only [List.mem_map] at this
    obtain ⟨y, hy, rfl⟩ := this
    have hy := List.mem_of_mem_take hy
    obtain ⟨j, hj⟩ := List.getElem?_of_mem hy
    exact ⟨repF_ok hb (hd.fact j y hj), by simpa [repF] using hs.2.2.2 y hy⟩
   have hdb : DbOK ⟨d.relations, facts⟩ := dbOK_of hd.rels (by show facts.length ≤ 14; omega) (fun g hg => (hmem g hg).1) h4
   have hsb : DbS ⟨d.relations, facts⟩ := ⟨hs.1, by show facts.length ≤ 1048576; omega, hs.2.2.1, fun g hg => (hmem g hg).2⟩
   refine .bind (spec_insert (f := repF a b f) hsb (by simpa [repF] using hfv) hu hdb (repF_ok hb hfo) (by show facts.length < 14; omega) h4) fun r ⟨r1, r2, r3, r4⟩ => .next ⟨⟨n + 1, by simp only; rw [w64_id (by omega)]; simp, hn, r1, r3, by have : r.1.facts.length ≤ facts.length + 1 := r2; simp only; omega, fun x => ?_⟩, by simp only; rw [w64_id (by omega)]; omega⟩
   simp only
   rw [r4, htake, List.map_append, List.mem_append, ← h6]
   simp
 ·have : d.facts.length ≤ n := by have := of_decide_eq_false h; omega
  simp only
  rw [h6, List.take_of_length_le this]
theorem merge_ok {u : Nat} {d : Database} (hs : DbS d) (hu : 1048577 < u) (a b : Int) : ∃ y k, m_impl_MergeValues d a b = some (y, k) ∧ m_spec_MergeValues u d a b = some (y, k) ∧ DbS y ∧ ((DbOK d ∧ (0 ≤ a ∧ a ≤ 9) ∧ (0 ≤ b ∧ b ≤ 9)) ∧ k = true ∧ y.relations = d.relations ∧ AscF y.facts ∧ (∀ x, x ∈ y.facts ↔ x ∈ d.facts.map (repF a b)) ∨ ¬ (DbOK d ∧ (0 ≤ a ∧ a ≤ 9) ∧ (0 ≤ b ∧ b ≤ 9)) ∧ k = false ∧ y = d) := by
 by_cases hg : DbOK d ∧ (0 ≤ a ∧ a ≤ 9) ∧ (0 ≤ b ∧ b ≤ 9)
 ·obtain ⟨r, e1, h1, h2, h3, h4⟩ := impl_merge hs hg.1 hg.2.1 hg.2.2
  obtain ⟨r', e1', h1', h2', h3', h4'⟩ := spec_merge hs hu hg.1 hg.2.1 hg.2.2
  have e : r'.1 = r.1 := by
   have : r'.1.facts = r.1.facts := AscF.uniq h3' h3 fun x => (h4' x).trans (h4 x).symm
   have h5 := h1'.trans h1.symm
   obtain ⟨⟨x1, x2⟩, k⟩ := r
   obtain ⟨⟨y1, y2⟩, k'⟩ := r'
   simp only at this h5
   subst this h5
   rfl
  refine ⟨r.1, r.2, e1, by rw [e1', ← e, h2, ← h2'], ⟨by rw [h1]; exact hs.1, ?_, by rw [h1]; exact hs.2.2.1, fun f hf => ?_⟩, .inl ⟨hg, h2, h1, h3, h4⟩⟩
  ·have h14 : r.1.facts.length ≤ (d.facts.map (repF a b)).length := List.Nodup.length_le_of_subset (h3.imp fun {x y} h e => by subst e; rw [cmpF_irr] at h; omega) fun x hx => (h4 x).1 hx
   have := hs.2.1
   simp only [List.length_map] at h14; omega
  ·have := (h4 f).1 hf
   simp only [List.mem_map] at this
   obtain ⟨y, hy, rfl⟩ := this
   simpa [repF] using hs.2.2.2 y hy
 ·have hsp : m_spec_MergeValues u d a b = some (d, false) := by
   obtain ⟨v, g1, g2⟩ := spec_IsValidDatabase_eq u d hs hu
   unfold m_spec_MergeValues m_spec_l1In
   refine Ok.to (.bind (P := fun t => t = true) (.eq g1 (.cond (fun _ => .ret rfl) fun h1 => .eq rfl (.cond (fun _ => .ret rfl) fun h2 => .eq rfl (.ret ?_)))) fun t ht => .ct ht (.eq (l4Copy_eq hs hu) (.ret rfl)))
   have hd : DbOK d := g2.1 (by simpa using h1)
   simp only [Bool.not_eq_true', Bool.and_eq_true, decide_eq_true_eq, Bool.not_eq_false', Bool.and_eq_false_imp, decide_eq_false_iff_not] at h2 ⊢
   intro h3 h4
   exact hg ⟨hd, h2, h3, h4⟩
  have him : m_impl_MergeValues d a b = some (d, false) := by
   obtain ⟨v, g1, g2⟩ := impl_IsValidDatabase_eq d
   unfold m_impl_MergeValues m_impl_within
   refine Ok.to (.eq (impl_copyDatabase_eq hs) (.bind (P := fun t => t = true) (.eq g1 (.cond (fun _ => .ret rfl) fun h1 => .eq rfl (.cond (fun _ => .ret rfl) fun h2 => .eq rfl (.ret ?_)))) fun t ht => .ct ht (.ret rfl)))
   have hd : DbOK d := g2.1 (by simpa using h1)
   simp only [Bool.not_eq_true', Bool.and_eq_true, decide_eq_true_eq, Bool.not_eq_false', Bool.and_eq_false_imp, decide_eq_false_iff_not] at h2 ⊢
   intro h3 h4
   exact hg ⟨hd, h2, h3, h4⟩
  exact ⟨d, false, him, hsp, hs, .inr ⟨hg, rfl, rfl⟩⟩
end Go.Proofs.Ytmecnecfkgneoaa
set_option linter.unusedVariables false
set_option linter.unusedSimpArgs false
namespace Go.Proofs.Ytmecnecfkgneoaa
open Go Go.Proofs Go.Sep
theorem lawsHas_eq (l : List Int) (v : Int) : m_laws_has l v = some (decide (v ∈ l)) := by
 unfold m_laws_has
 refine Ok.to (.forL (fun n _ => ∀ (j : Nat) x, j < n → l[j]? = some x → x ≠ v) (fun _ => False) (fun r => r = true ∧ v ∈ l) (fun j x hj => by omega) (fun n x s hx hI => .cond (fun h => .out ⟨rfl, ?_⟩) fun h => .next fun j y hj hy => ?_) (fun s hs => .ret ?_) (fun r hr => .ret ?_))
 ·have := of_decide_eq_true h
  subst this
  exact List.mem_of_getElem? hx
 ·rcases Nat.lt_succ_iff_lt_or_eq.1 hj with k | rfl
  ·exact hI j y k hy
  ·rw [hx] at hy; cases hy; exact of_decide_eq_false h
 ·refine (decide_eq_false fun hm => ?_).symm
  obtain ⟨j, hj⟩ := List.getElem?_of_mem hm
  exact (hs.resolve_right id) j v (List.getElem?_eq_some_iff.1 hj).1 hj rfl
 ·rw [hr.1]; exact (decide_eq_true hr.2).symm
theorem draw_MergeValues {u : Nat} {code : List Int} (hl : code.length ≤ 1048576) (hu : 1048577 < u) : Ok (m_spec_DrawMergeValues u code) fun r => DbD r.1 := by
 unfold m_spec_DrawMergeValues
 exact .bind (l1New_ok hl hu) fun c hc => .bind (l4Any_ok hc hu) fun r3 h3 => .bind (l1PickInt_ok h3.1 _ (by simp)) fun r5 h5 => .bind (l1PickInt_ok h5.1 _ (by simp)) fun r7 h7 => .ret h3.2
theorem repV_twice (a b v : Int) : repV a b (repV a b v) = repV a b v := by
 unfold repV; split <;> (try split) <;> first | rfl | omega
theorem repF_twice (a b : Int) (f : Fact) : repF a b (repF a b f) = repF a b f := by
 simp only [repF, List.map_map]
 congr 1
 exact List.map_congr_left fun v _ => repV_twice a b v
theorem merged_ok {d y : Database} {a b : Int} (hd : DbOK d) (hb : 0 ≤ b ∧ b ≤ 9) (h1 : y.relations = d.relations) (h2 : AscF y.facts) (h3 : ∀ x, x ∈ y.facts ↔ x ∈ d.facts.map (repF a b)) : DbOK y ∧ y.facts.length ≤ d.facts.length := by
 have hl : y.facts.length ≤ (d.facts.map (repF a b)).length := List.Nodup.length_le_of_subset (h2.imp fun {x y} h e => by subst e; rw [cmpF_irr] at h; omega) fun x hx => (h3 x).1 hx
 rw [List.length_map] at hl
 have := hd.few
 refine ⟨dbOK_of (by rw [h1]; exact hd.rels) (by omega) (fun f hf => ?_) h2, hl⟩
 have := (h3 f).1 hf
 simp only [List.mem_map] at this
 obtain ⟨x, hx, rfl⟩ := this
 obtain ⟨j, hj⟩ := List.getElem?_of_mem hx
 rw [h1]; exact repF_ok hb (hd.fact j x hj)
theorem law_MergeValuesD (code : List Int) (hc : ∀ x ∈ code, 0 ≤ x ∧ x ≤ 255) : m_laws_FnMergeValues 1048578 code = some true := by
 unfold m_laws_FnMergeValues m_laws_big
 refine Ok.to (.bind (Ok.of rfl) fun b hb => ?_)
 subst hb
 refine .cond (fun _ => .ret rfl) fun hbig => ?_
 have hl : code.length ≤ 1048576 := by have := of_decide_eq_false hbig; omega
 refine .bind (draw_MergeValues hl (by omega)) fun r hr => ?_
 obtain ⟨d, a, b⟩ := r
 simp only at hr ⊢
 have hs := hr.s
 obtain ⟨x, k, e1, e2, hx, hk⟩ := merge_ok (u := 1048578) hs (by omega) a b
 refine .eq e1 (.eq e2 (.bind (P := fun t => t = false) (.cf (by simp) (.eq (spec_EqualDatabases_eq hx hx (by omega)) (.ret (by simp)))) fun t ht => .cf ht ?_))
 rcases hk with ⟨⟨hd, ha, hb⟩, rfl, h1, h2, h3⟩ | ⟨_, rfl, rfl⟩
 ·obtain ⟨hxo, hxl⟩ := merged_ok hd hb h1 h2 h3
  obtain ⟨z, k', f1, _, hz, hk'⟩ := merge_ok (u := 1048578) hx (by omega) a b
  have hfix : ∀ f ∈ x.facts, repF a b f = f := fun f hf => by
   have := (h3 f).1 hf
   simp only [List.mem_map] at this
   obtain ⟨y, _, rfl⟩ := this
   exact repF_twice a b y
  have hzx : z = x := by
   rcases hk' with ⟨_, _, g1, g2, g3⟩ | ⟨h, _⟩
   ·have : z.facts = x.facts := AscF.uniq g2 h2 fun f => by
     rw [g3]
     simp only [List.mem_map]
     exact ⟨fun ⟨y, hy, e⟩ => by rw [← e, hfix y hy]; exact hy, fun hf => ⟨f, hf, hfix f hf⟩⟩
    obtain ⟨z1, z2⟩ := z
    obtain ⟨x1, x2⟩ := x
    simp only at this g1
    subst this g1
    rfl
   ·exact absurd ⟨hxo, ha, hb⟩ h
  subst hzx
  refine .cf rfl (.eq f1 ?_)
  simp only
  have hfl := hx.2.1
  refine .while (fun (i : Int) => 0 ≤ i ∧ i ≤ z.facts.length) (fun i => z.facts.length - i.toNat) (fun _ => True) (fun _ => False) (by omega) ⟨by omega, by omega⟩ (fun i ⟨g1, g2⟩ => ?_) (fun i _ => ?_) (fun _ h => h.elim)
  ·refine .cond (fun h => ?_) fun h => .brk trivial
   have hi := of_decide_eq_true h
   refine .bind (P := fun t => t = false) (.cond (fun hab => ?_) fun _ => .ret rfl) fun t ht => .cf ht (.next ⟨⟨by rw [w64_id (by omega)]; omega, by rw [w64_id (by omega)]; omega⟩, by rw [w64_id (by omega)]; omega⟩)
   refine .get' g1 hi fun n hn hin => .eq (lawsHas_eq _ _) (.ret (decide_eq_false fun hm => ?_))
   rw [← hfix _ (List.getElem_mem hn)] at hm
   simp only [repF, List.mem_map] at hm
   obtain ⟨v, _, hv⟩ := hm
   have hab := of_decide_eq_true hab
   unfold repV at hv
   split at hv
   ·exact hab hv.symm
   ·rename_i h; exact h hv
  ·obtain ⟨w, g1, g2⟩ := impl_IsValidDatabase_eq z
   have hw : w = true := g2.2 hxo
   subst hw
   exact .bind (P := fun t => t = true) (.eq (spec_EqualDatabases_eq hx hx (by omega)) (.ct (by simp) (.eq g1 (.ct rfl (.ret (decide_eq_true (by omega))))))) fun t ht => .ret ht
 ·exact .ct rfl (.eq (spec_EqualDatabases_eq hs hs (by omega)) (.ret (by simp)))
end Go.Proofs.Ytmecnecfkgneoaa

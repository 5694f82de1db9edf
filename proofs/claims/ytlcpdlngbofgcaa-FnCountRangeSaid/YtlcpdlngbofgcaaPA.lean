import Derived.Test.YtlcpdlngbofgcaaCRC
import Derived.Test.YtlcpdlngbofgcaaM0
import Derived.Test.YtlcpdlngbofgcaaCRD
set_option linter.unusedVariables false
set_option linter.unusedSimpArgs false
namespace Go.Proofs.Ytlcpdlngbofgcaa
open Go Go.Proofs Go.Sep
theorem cond_nt {α : Type} {x y : α} : cond (!true) x y = y := rfl
def DbS (d : Database) : Prop := d.relations.length ≤ 1048576 ∧ d.facts.length ≤ 1048576 ∧ (∀ r ∈ d.relations, r.name.size ≤ 1048576) ∧ ∀ f ∈ d.facts, f.values.length ≤ 1048576
theorem cmpL_drop {a b : List Int} {i : Nat} (h1 : i < a.length) (h2 : i < b.length) : cmpL (a.drop i) (b.drop i) = if a[i] < b[i] then -1 else if b[i] < a[i] then 1 else cmpL (a.drop (i + 1)) (b.drop (i + 1)) := by
 rw [List.drop_eq_getElem_cons h1, List.drop_eq_getElem_cons h2]; rfl
theorem cmpL_nil_r (a : List Int) : cmpL a [] = if a.length = 0 then 0 else 1 := by cases a <;> simp [cmpL]
theorem cmpL_nil_l (b : List Int) : cmpL [] b = if b.length = 0 then 0 else -1 := by cases b <;> simp [cmpL]
theorem cmp_Compare_eq (x y : Int) : m_cmp_Compare_int x y = some (if x < y then -1 else if y < x then 1 else 0) := by
 unfold m_cmp_Compare_int m_cmp_isNaN_int
 simp only [Option.bind_some, ne_eq, not_true_eq_false, decide_false, cond_false]
 by_cases h1 : x < y
 ·simp [h1]
 ·by_cases h2 : y < x <;> simp [h1, h2]
theorem slices_Compare_from (a b : List Int) : ∀ (k i : Nat), i + k = a.length → (forL (R := Int) (fun (t_1 : Int) (x_t_1 : Int) (_ : Unit) => cond (decide ((b.length : Int) ≤ (t_1 : Int))) (some (.ret 1)) ((getI b (t_1 : Int)).bind fun v_4 => (m_cmp_Compare_int x_t_1 v_4).bind fun r_9 => cond (decide (r_9 ≠ 0)) (some (.ret r_9)) (some (.next ())))) (a.drop i) (i : Int) ()).bind (fun O2_ => onS O2_ (fun (_ : Unit) => cond (decide ((a.length : Int) < (b.length : Int))) (some (-1)) (some 0)) (fun r => some r)) = some (cmpL (a.drop i) (b.drop i))
 | 0, i, hk => by
  rw [List.drop_eq_nil_of_le (show a.length ≤ i by omega), cmpL_nil_l]
  simp only [forL, Option.bind_some, onS, List.length_drop]
  by_cases h : a.length < b.length
  ·rw [cond_T' (by simpa using h), if_neg (by omega)]
  ·rw [cond_F' (by simpa using h), if_pos (by omega)]
 | k + 1, i, hk => by
  have hi : i < a.length := by omega
  rw [List.drop_eq_getElem_cons hi]
  simp only [forL]
  by_cases hb : b.length ≤ i
  ·rw [cond_T' (by simpa using hb), List.drop_eq_nil_of_le hb]; rfl
  ·rw [cond_F' (by simpa using hb), getI_lt (show i < b.length by omega), Option.bind_some, cmp_Compare_eq, Option.bind_some]
   rw [← List.drop_eq_getElem_cons hi, cmpL_drop hi (by omega)]
   by_cases h1 : a[i] < b[i]
   ·simp [h1, onS]
   ·by_cases h2 : b[i] < a[i]
    ·simp [h1, h2, onS]
    ·simp only [h1, h2, if_false, ne_eq, not_true_eq_false, decide_false, cond_false, Option.bind_some]
     exact slices_Compare_from a b k (i + 1) (by omega)
theorem slices_Compare_eq (a b : List Int) : m_slices_Compare_Sint_int a b = some (cmpL a b) := slices_Compare_from a b a.length 0 (by omega)
theorem l3Ints_cmp (a b : List Int) (u : Nat) (hu : a.length < u) (ha : a.length ≤ 1048576) (hb : b.length ≤ 9223372036854775807) : m_spec_l3Ints u a b = some (cmpL a b) := by
 unfold m_spec_l3Ints
 obtain ⟨o, h1, h2⟩ := while_ok (f := fun (i5 : Int) => cond ((decide (i5 < (a.length : Int))) && (decide (i5 < (b.length : Int)))) ((getI a i5).bind fun v_6 => (getI b i5).bind fun v_11 => cond (decide (v_6 < v_11)) (some (.ret (-1))) (cond (decide (v_11 < v_6)) (some (.ret 1)) (some (.next (w64 (i5 + 1)))))) (some (.brk i5)))
  (fun i => ∃ n : Nat, i = n ∧ n ≤ a.length ∧ n ≤ b.length ∧ cmpL a b = cmpL (a.drop n) (b.drop n)) (fun i => a.length - i.toNat) (fun i => ∃ n : Nat, i = n ∧ n ≤ a.length ∧ n ≤ b.length ∧ cmpL a b = cmpL (a.drop n) (b.drop n) ∧ (n = a.length ∨ n = b.length)) (fun (r : Int) => r = cmpL a b)
  (fun i ⟨n, hi, hn1, hn2, hI⟩ => by
   subst hi
   by_cases h : n < a.length ∧ n < b.length
   ·rw [cond_T' (by simp; omega), getI_lt h.1, Option.bind_some, getI_lt h.2, Option.bind_some]
    rw [cmpL_drop h.1 h.2] at hI
    by_cases c1 : a[n] < b[n]
    ·rw [cond_T' (by simpa using c1)]; exact ⟨_, rfl, by rw [if_pos c1] at hI; exact hI.symm⟩
    ·rw [cond_F' (by simpa using c1)]
     rw [if_neg c1] at hI
     by_cases c2 : b[n] < a[n]
     ·rw [cond_T' (by simpa using c2)]; exact ⟨_, rfl, by rw [if_pos c2] at hI; exact hI.symm⟩
     ·rw [cond_F' (by simpa using c2), w64_id (by omega)]
      rw [if_neg c2] at hI
      exact ⟨_, rfl, ⟨n + 1, by omega, h.1, h.2, hI⟩, by have := h.1; omega⟩
   ·rw [cond_F' (by simp; omega)]
    exact ⟨_, rfl, n, rfl, hn1, hn2, hI, by omega⟩)
  u 0 (by simpa using hu) ⟨0, rfl, by omega, by omega, rfl⟩
 rw [h1, Option.bind_some]
 cases o with
 | inr r => simp only [onS]; rw [h2]
 | inl i =>
  obtain ⟨n, rfl, hn1, hn2, hI, hn⟩ := h2
  simp only [onS]
  rw [hI]
  by_cases c1 : a.length < b.length
  ·have e : n = a.length := by omega
   rw [cond_T' (by simpa using c1), e, List.drop_eq_nil_of_le (Nat.le_refl _), cmpL_nil_l, if_neg (by simp; omega)]
  ·rw [cond_F' (by simpa using c1)]
   by_cases c2 : b.length < a.length
   ·have e : n = b.length := by omega
    rw [cond_T' (by simpa using c2), e, List.drop_eq_nil_of_le (Nat.le_refl b.length), cmpL_nil_r, if_neg (by simp; omega)]
   ·have e : n = a.length := by omega
    rw [cond_F' (by simpa using c2), e, List.drop_eq_nil_of_le (Nat.le_refl _), cmpL_nil_l, if_pos (by simp; omega)]
theorem validRelation_tot (r : Relation) : ∃ b, m_impl_IsValidRelation r = some b := by
 unfold m_impl_IsValidRelation m_impl_within
 by_cases h : r.name.size = 1
 ·have hb : ∃ z, getB r.name 0 = some z := by
   have h0 : 0 < r.name.size := by omega
   exact ⟨((r.name[0]'h0).toNat : Int), by unfold getB; rw [if_pos (by omega)]; simp [h0]⟩
  obtain ⟨z, hz⟩ := hb
  rw [cond_T' (by simp [h])]
  simp only [hz, Option.bind_some]
  cases decide (97 ≤ z) <;> cases decide (z ≤ 122) <;> simp only [cond_true, cond_false, Option.bind_some] <;> first | exact ⟨_, rfl⟩ | skip
  cases (decide (1 ≤ r.arity) && decide (r.arity ≤ 3)) <;> exact ⟨_, rfl⟩
 ·rw [cond_F' (by simp; omega)]; exact ⟨_, rfl⟩
theorem validRelations_tot (l : List Relation) : ∃ b, m_impl_AreValidRelations l = some b := by
 unfold m_impl_AreValidRelations
 obtain ⟨o, h1, h2⟩ := forL_ok (xs := l) (s := ()) (f := fun (t_1 : Int) (x_t_1 : Relation) (_ : Unit) => ((m_impl_IsValidRelation x_t_1).bind fun r_5 => cond (!r_5) (some true) (cond (decide (0 < (t_1 : Int))) ((getI l ((t_1 : Int) - 1)).bind fun v_9 => some (!ltS v_9.name x_t_1.name)) (some false))).bind fun (t29 : Bool) => cond t29 (some (.ret false)) (some (.next ())))
  (fun _ _ => True) (fun _ => False) (fun (_ : Bool) => True) trivial fun n x s hx _ => by
   obtain ⟨b, hb⟩ := validRelation_tot x
   have hn : n < l.length := (List.getElem?_eq_some_iff.1 hx).1
   rw [hb, Option.bind_some]
   have key : ∃ t, cond (!b) (some true) (cond (decide (0 < (n : Int))) ((getI l ((n : Int) - 1)).bind fun v_9 => some (!ltS v_9.name x.name)) (some false)) = some t := by
    cases b with
    | false => exact ⟨_, rfl⟩
    | true =>
     by_cases h0 : 0 < n
     ·have e : (n : Int) - 1 = ((n - 1 : Nat) : Int) := by omega
      rw [cond_nt, cond_T' (by simpa using h0), e, getI_lt (show n - 1 < l.length by omega)]; exact ⟨_, rfl⟩
     ·rw [cond_nt, cond_F' (by simpa using h0)]; exact ⟨_, rfl⟩
   obtain ⟨t, ht⟩ := key
   rw [ht, Option.bind_some]
   cases t <;> exact ⟨_, rfl, trivial⟩
 rw [h1, Option.bind_some]
 cases o <;> exact ⟨_, rfl⟩
theorem spec_validRelations (l : List Relation) : m_spec_AreValidRelations l = m_impl_AreValidRelations l := rfl
def FactOK (l : List Relation) (f : Fact) : Prop := ∃ (n : Nat) (r : Relation), f.relation = n ∧ l[n]? = some r ∧ (f.values.length : Int) = r.arity ∧ ∀ v ∈ f.values, 0 ≤ v ∧ v ≤ 9
theorem areValues_eq (l : List Int) : ∃ b, m_impl_areValues l = some b ∧ (b = true ↔ ∀ v ∈ l, 0 ≤ v ∧ v ≤ 9) := by
 unfold m_impl_areValues m_slices_ContainsFunc_Sint_int m_slices_IndexFunc_Sint_int
 obtain ⟨o, h1, h2⟩ := forL_ok (xs := l) (s := ()) (f := fun (t_1 : Int) (x_t_1 : Int) (_ : Unit) => (m_impl_areValues_1 x_t_1).bind fun r_3 => cond r_3 (some (.ret (t_1 : Int))) (some (.next ())))
  (fun n _ => ∀ (j : Nat) x, j < n → l[j]? = some x → 0 ≤ x ∧ x ≤ 9) (fun _ => False) (fun r => 0 ≤ r ∧ ∃ x ∈ l, ¬ (0 ≤ x ∧ x ≤ 9)) (fun j x hj => by omega) fun n x s hx hI => by
   simp only [m_impl_areValues_1, m_impl_within, Option.bind_some]
   by_cases hp : 0 ≤ x ∧ x ≤ 9
   ·rw [cond_F' (by simp [hp])]
    refine ⟨_, rfl, fun j y hj hy => ?_⟩
    by_cases e : j = n
    ·subst e; rw [hx] at hy; cases hy; exact hp
    ·exact hI j y (by omega) hy
   ·rw [cond_T' (by simp; omega)]
    exact ⟨_, rfl, by omega, x, List.mem_of_getElem? hx, hp⟩
 rw [h1]
 cases o with
 | inl s =>
  refine ⟨_, rfl, ?_⟩
  have := h2.resolve_right id
  refine ⟨fun _ v hv => ?_, fun _ => by simp⟩
  obtain ⟨j, hj⟩ := List.getElem?_of_mem hv
  exact this j v (List.getElem?_eq_some_iff.1 hj).1 hj
 | inr r =>
  refine ⟨_, rfl, ?_⟩
  obtain ⟨h3, x, hx, hp⟩ := h2
  refine ⟨fun h => by simp at h; omega, fun h => (hp (h x hx)).elim⟩
theorem isFact_eq (l : List Relation) (f : Fact) : ∃ b, m_impl_isFact l f = some b ∧ (b = true ↔ FactOK l f) := by
 unfold m_impl_isFact m_impl_within
 simp only [Option.bind_some]
 by_cases h : 0 ≤ f.relation ∧ f.relation ≤ (l.length : Int) - 1
 ·rw [cond_T' (by simp [h])]
  obtain ⟨n, hn⟩ : ∃ n : Nat, f.relation = n := ⟨f.relation.toNat, by omega⟩
  have hnl : n < l.length := by omega
  rw [hn, getI_lt hnl, Option.bind_some]
  by_cases ha : (f.values.length : Int) = l[n].arity
  ·rw [cond_T' (by simpa using ha)]
   obtain ⟨b, h1, h2⟩ := areValues_eq f.values
   rw [h1]
   refine ⟨b, rfl, h2.trans ⟨fun hv => ⟨n, l[n], hn, List.getElem?_eq_getElem hnl, ha, hv⟩, fun ⟨_, _, _, _, _, hv⟩ => hv⟩⟩
  ·rw [cond_F' (by simpa using ha)]
   refine ⟨false, rfl, by simp, fun ⟨n', r, h3, h4, h5, _⟩ => ?_⟩
   have : n' = n := by omega
   subst this
   rw [List.getElem?_eq_getElem hnl] at h4; cases h4
   exact (ha h5).elim
 ·rw [cond_F' (by simp; omega)]
  refine ⟨false, rfl, by simp, fun ⟨n', r, h3, h4, _⟩ => ?_⟩
  have := (List.getElem?_eq_some_iff.1 h4).1
  omega
theorem spec_isFact_eq (u : Nat) (l : List Relation) (f : Fact) (hu : f.values.length < u) (hf : f.values.length ≤ 1048576) : ∃ b, m_spec_IsValidFact u l f = some b ∧ (b = true ↔ m_impl_AreValidRelations l = some true ∧ FactOK l f) := by
 unfold m_spec_IsValidFact m_spec_l1In
 rw [spec_validRelations]
 obtain ⟨bl, hbl⟩ := validRelations_tot l
 rw [hbl, Option.bind_some]
 cases bl with
 | false => exact ⟨false, rfl, by simp⟩
 | true =>
  rw [cond_nt]
  simp only [Option.bind_some]
  by_cases h : 0 ≤ f.relation ∧ f.relation ≤ (l.length : Int) - 1
  ·rw [cond_F' (by simp [h])]
   obtain ⟨n, hn⟩ : ∃ n : Nat, f.relation = n := ⟨f.relation.toNat, by omega⟩
   have hnl : n < l.length := by omega
   rw [hn, getI_lt hnl, Option.bind_some, Option.bind_some]
   by_cases ha : (f.values.length : Int) = l[n].arity
   ·rw [cond_F' (by simpa using ha)]
    obtain ⟨o, h1, h2⟩ := while_ok (f := fun (i5 : Int) => cond (decide (i5 < (f.values.length : Int))) ((getI f.values i5).bind fun v_18 => (some ((decide (0 ≤ v_18)) && (decide (v_18 ≤ 9)))).bind fun r_23 => cond (!r_23) (some (.ret false)) (some (.next (w64 (i5 + 1))))) (some (.brk i5)))
     (fun i => ∃ n : Nat, i = n ∧ n ≤ f.values.length ∧ ∀ (j : Nat) x, j < n → f.values[j]? = some x → 0 ≤ x ∧ x ≤ 9) (fun i => f.values.length - i.toNat) (fun i => ∀ v ∈ f.values, 0 ≤ v ∧ v ≤ 9) (fun (r : Bool) => r = false ∧ ¬ ∀ v ∈ f.values, 0 ≤ v ∧ v ≤ 9)
     (fun i ⟨n, hi, hn1, hI⟩ => by
      subst hi
      by_cases h : n < f.values.length
      ·rw [cond_T' (by simpa using h), getI_lt h, Option.bind_some, Option.bind_some]
       by_cases hp : 0 ≤ f.values[n] ∧ f.values[n] ≤ 9
       ·rw [cond_F' (by simp [hp]), w64_id (by omega)]
        refine ⟨_, rfl, ⟨n + 1, by omega, h, fun j x hj hx => ?_⟩, by omega⟩
        by_cases e : j = n
        ·subst e; rw [List.getElem?_eq_getElem h] at hx; cases hx; exact hp
        ·exact hI j x (by omega) hx
       ·rw [cond_T' (by simp; omega)]
        exact ⟨_, rfl, rfl, fun hv => hp (hv _ (List.getElem_mem h))⟩
      ·rw [cond_F' (by simpa using h)]
       refine ⟨_, rfl, fun v hv => ?_⟩
       obtain ⟨j, hj⟩ := List.getElem?_of_mem hv
       have := (List.getElem?_eq_some_iff.1 hj).1
       exact hI j v (by omega) hj)
     u 0 (by simpa using hu) ⟨0, rfl, by omega, fun j x hj => by omega⟩
    simp only [Option.bind_some] at h1
    rw [h1, Option.bind_some]
    cases o with
    | inl i => exact ⟨true, rfl, by simp; exact ⟨n, l[n], hn, List.getElem?_eq_getElem hnl, ha, h2⟩⟩
    | inr r =>
     obtain ⟨rfl, h3⟩ := h2
     exact ⟨false, rfl, by simp; rintro ⟨_, _, _, _, _, hv⟩; exact h3 hv⟩
   ·rw [cond_T' (by simpa using ha)]
    refine ⟨false, rfl, by simp, fun ⟨_, n', r, h3, h4, h5, _⟩ => ?_⟩
    have : n' = n := by omega
    subst this
    rw [List.getElem?_eq_getElem hnl] at h4; cases h4
    exact (ha h5).elim
  ·rw [cond_T' (by simp; omega)]
   refine ⟨false, rfl, by simp, fun ⟨_, n', r, h3, h4, _⟩ => ?_⟩
   have := (List.getElem?_eq_some_iff.1 h4).1
   omega
def cmpF (a b : Fact) : Int := if a.relation < b.relation then -1 else if b.relation < a.relation then 1 else cmpL a.values b.values
theorem impl_CompareFacts_eq (a b : Fact) : m_impl_CompareFacts a b = some (cmpF a b) := by
 unfold m_impl_CompareFacts m_impl_compare cmpF
 rw [slices_Compare_eq]
 by_cases h1 : a.relation < b.relation
 ·rw [cond_T' (by simp; omega), cond_T' (by simpa using h1), if_pos h1]; rfl
 ·by_cases h2 : b.relation < a.relation
  ·rw [cond_T' (by simp; omega), cond_F' (by simpa using h1), cond_T' (by simpa using h2), if_neg h1, if_pos h2]; rfl
  ·rw [cond_F' (by simp; omega), if_neg h1, if_neg h2]; rfl
theorem spec_CompareFacts_eq (u : Nat) (a b : Fact) (hu : a.values.length < u) (ha : a.values.length ≤ 1048576) (hb : b.values.length ≤ 1048576) : m_spec_CompareFacts u a b = some (cmpF a b) := by
 unfold m_spec_CompareFacts cmpF
 rw [l3Ints_cmp _ _ u hu ha (by omega)]
 by_cases h1 : a.relation < b.relation
 ·rw [cond_T' (by simpa using h1), if_pos h1]
 ·by_cases h2 : b.relation < a.relation
  ·rw [cond_F' (by simpa using h1), cond_T' (by simpa using h2), if_neg h1, if_pos h2]
  ·rw [cond_F' (by simpa using h1), cond_F' (by simpa using h2), if_neg h1, if_neg h2]; rfl
structure DbOK (d : Database) : Prop where
  rels : m_impl_AreValidRelations d.relations = some true
  few : d.facts.length ≤ 14
  fact : ∀ (n : Nat) f, d.facts[n]? = some f → FactOK d.relations f
  sorted : ∀ (n : Nat) f g, d.facts[n]? = some f → d.facts[n + 1]? = some g → cmpF f g < 0
theorem round_eq (d : Database) {n : Nat} (hn : n < d.facts.length) (b : Bool) (p : Prop) (hb : b = true ↔ p) : ∃ t, cond (!b) (some true) (cond (decide (0 < (n : Int))) ((getI d.facts ((n : Int) - 1)).bind fun v_15 => some (decide (0 ≤ cmpF v_15 d.facts[n]))) (some false)) = some t ∧ (t = false ↔ p ∧ ∀ m f, m + 1 = n → d.facts[m]? = some f → cmpF f d.facts[n] < 0) := by
 cases b with
 | false => exact ⟨true, rfl, by simp at hb; simp [hb]⟩
 | true =>
  have hp : p := hb.1 rfl
  by_cases h0 : 0 < n
  ·have e : (n : Int) - 1 = ((n - 1 : Nat) : Int) := by omega
   rw [cond_nt, cond_T' (by simpa using h0), e, getI_lt (show n - 1 < d.facts.length by omega)]
   refine ⟨_, rfl, ?_⟩
   simp only [decide_eq_false_iff_not, hp, true_and]
   constructor
   ·intro h m f hm hf
    have : m = n - 1 := by omega
    subst this
    rw [List.getElem?_eq_getElem (by omega)] at hf; cases hf; omega
   ·intro h
    have := h (n - 1) d.facts[n - 1] (by omega) (List.getElem?_eq_getElem (by omega)); omega
  ·rw [cond_nt, cond_F' (by simpa using h0)]
   exact ⟨_, rfl, by simp [hp]; intro m f hm; omega⟩
theorem impl_IsValidDatabase_eq (d : Database) : ∃ b, m_impl_IsValidDatabase d = some b ∧ (b = true ↔ DbOK d) := by
 unfold m_impl_IsValidDatabase
 obtain ⟨bl, hbl⟩ := validRelations_tot d.relations
 rw [hbl, Option.bind_some]
 cases bl with
 | false => exact ⟨false, rfl, by simp; intro h; have := h.rels; rw [hbl] at this; cases this⟩
 | true =>
  rw [cond_nt, Option.bind_some]
  by_cases hf : d.facts.length ≤ 14
  ·rw [cond_F' (by simp; omega)]
   obtain ⟨o, h1, h2⟩ := forL_ok (xs := d.facts) (s := ()) (f := fun (t_7 : Int) (x_t_7 : Fact) (_ : Unit) => ((m_impl_isFact d.relations x_t_7).bind fun r_11 => cond (!r_11) (some true) (cond (decide (0 < (t_7 : Int))) ((getI d.facts ((t_7 : Int) - 1)).bind fun v_15 => (m_impl_CompareFacts v_15 x_t_7).bind fun r_20 => some (decide (0 ≤ r_20))) (some false))).bind fun (t42 : Bool) => cond t42 (some (.ret false)) (some (.next ())))
    (fun n _ => ∀ (j : Nat) (h : j < d.facts.length), j < n → FactOK d.relations d.facts[j] ∧ ∀ m f, m + 1 = j → d.facts[m]? = some f → cmpF f d.facts[j] < 0) (fun _ => False) (fun r => r = false ∧ ¬ DbOK d) (fun j _ hj => by omega) fun n x s hx hI => by
     have hn : n < d.facts.length := (List.getElem?_eq_some_iff.1 hx).1
     rw [List.getElem?_eq_getElem hn] at hx; cases hx
     obtain ⟨b, h3, h4⟩ := isFact_eq d.relations d.facts[n]
     rw [h3, Option.bind_some]
     simp only [impl_CompareFacts_eq, Option.bind_some]
     obtain ⟨t, h5, h6⟩ := round_eq d hn b _ h4
     rw [h5, Option.bind_some]
     cases t with
     | false =>
      refine ⟨_, rfl, fun j hj hjn => ?_⟩
      by_cases e : j = n
      ·subst e; exact h6.1 rfl
      ·exact hI j hj (by omega)
     | true =>
      refine ⟨_, rfl, rfl, fun hok => ?_⟩
      have := h6.2 ⟨hok.fact n _ (List.getElem?_eq_getElem hn), fun m f hm hf => hok.sorted m f _ hf (by rw [hm]; exact List.getElem?_eq_getElem hn)⟩
      cases this
   rw [h1, Option.bind_some]
   cases o with
   | inl s =>
    have h3 := h2.resolve_right id
    refine ⟨true, rfl, fun _ => ⟨hbl, hf, fun n f hn => ?_, fun n f g hn hg => ?_⟩, fun _ => rfl⟩
    ·obtain ⟨hl, rfl⟩ := List.getElem?_eq_some_iff.1 hn; exact (h3 n hl hl).1
    ·obtain ⟨hl, rfl⟩ := List.getElem?_eq_some_iff.1 hg; exact (h3 (n + 1) hl hl).2 n f rfl hn
   | inr r => obtain ⟨rfl, h3⟩ := h2; exact ⟨false, rfl, by simp [h3]⟩
  ·rw [cond_T' (by simp; omega)]
   exact ⟨false, rfl, by simp; intro h; exact hf h.few⟩
theorem spec_IsValidDatabase_eq (u : Nat) (d : Database) (hd : DbS d) (hu : 1048577 < u) : ∃ b, m_spec_IsValidDatabase u d = some b ∧ (b = true ↔ DbOK d) := by
 unfold m_spec_IsValidDatabase
 have hfl := hd.2.1
 obtain ⟨o, h1, h2⟩ := while_ok (f := fun (i3 : Int) => cond (decide (i3 < (d.facts.length : Int))) (((getI d.facts i3).bind fun v_5 => (m_spec_IsValidFact u d.relations v_5).bind fun r_10 => cond (!r_10) (some true) (cond (decide (0 < i3)) ((getI d.facts (w64 (i3 - 1))).bind fun v_14 => (m_spec_CompareFacts u v_14 v_5).bind fun r_19 => some (decide (0 ≤ r_19))) (some false))).bind fun (t38 : Bool) => cond t38 (some (.ret false)) (some (.next (w64 (i3 + 1))))) (some (.brk i3)))
  (fun i => ∃ n : Nat, i = n ∧ n ≤ d.facts.length ∧ ∀ (j : Nat) (h : j < d.facts.length), j < n → FactOK d.relations d.facts[j] ∧ ∀ m f, m + 1 = j → d.facts[m]? = some f → cmpF f d.facts[j] < 0) (fun i => d.facts.length - i.toNat)
  (fun i => ∀ (j : Nat) (h : j < d.facts.length), FactOK d.relations d.facts[j] ∧ ∀ m f, m + 1 = j → d.facts[m]? = some f → cmpF f d.facts[j] < 0) (fun (r : Bool) => r = false ∧ ¬ DbOK d)
  (fun i ⟨n, hi, hn1, hI⟩ => by
   subst hi
   by_cases h : n < d.facts.length
   ·have hv := hd.2.2.2 _ (List.getElem_mem h)
    rw [cond_T' (by simpa using h), getI_lt h, Option.bind_some]
    obtain ⟨b, h3, h4⟩ := spec_isFact_eq u d.relations d.facts[n] (by omega) hv
    rw [h3, Option.bind_some, w64_id (x := (n : Int) - 1) (by omega)]
    have e : ((getI d.facts ((n : Int) - 1)).bind fun v_14 => (m_spec_CompareFacts u v_14 d.facts[n]).bind fun r_19 => some (decide (0 ≤ r_19))) = (getI d.facts ((n : Int) - 1)).bind fun v_15 => some (decide (0 ≤ cmpF v_15 d.facts[n])) := by
     cases hg : getI d.facts ((n : Int) - 1) with
     | none => rfl
     | some f =>
      obtain ⟨m, _, hm⟩ := getI_inv hg
      have hv2 := hd.2.2.2 f (List.mem_of_getElem? hm)
      rw [Option.bind_some, Option.bind_some, spec_CompareFacts_eq u f _ (by omega) hv2 hv]; rfl
    rw [e]
    obtain ⟨t, h5, h6⟩ := round_eq d h b _ h4
    rw [h5, Option.bind_some]
    cases t with
    | false =>
     rw [cond_F' rfl, w64_id (by omega)]
     refine ⟨_, rfl, ⟨n + 1, by omega, h, fun j hj hjn => ?_⟩, by omega⟩
     by_cases e : j = n
     ·subst e; have := h6.1 rfl; exact ⟨this.1.2, this.2⟩
     ·exact hI j hj (by omega)
    | true =>
     refine ⟨_, rfl, rfl, fun hok => ?_⟩
     have := h6.2 ⟨⟨hok.rels, hok.fact n _ (List.getElem?_eq_getElem h)⟩, fun m f hm hf => hok.sorted m f _ hf (by rw [hm]; exact List.getElem?_eq_getElem h)⟩
     cases this
   ·rw [cond_F' (by simpa using h)]
    exact ⟨_, rfl, fun j hj => hI j hj (by omega)⟩)
  u 0 (by simp; omega) ⟨0, rfl, by omega, fun j _ hj => by omega⟩
 rw [h1, Option.bind_some]
 cases o with
 | inr r => obtain ⟨rfl, h3⟩ := h2; exact ⟨false, rfl, by simp [h3]⟩
 | inl i =>
  simp only [onS, spec_validRelations]
  obtain ⟨bl, hbl⟩ := validRelations_tot d.relations
  rw [hbl, Option.bind_some]
  cases bl with
  | false => exact ⟨false, rfl, by simp; intro h; have := h.rels; rw [hbl] at this; cases this⟩
  | true =>
   refine ⟨_, rfl, ?_⟩
   simp only [decide_eq_true_eq]
   refine ⟨fun hf => ⟨hbl, by omega, fun n f hn => ?_, fun n f g hn hg => ?_⟩, fun h => by have := h.few; omega⟩
   ·obtain ⟨hl, rfl⟩ := List.getElem?_eq_some_iff.1 hn; exact (h2 n hl).1
   ·obtain ⟨hl, rfl⟩ := List.getElem?_eq_some_iff.1 hg; exact (h2 (n + 1) hl).2 n f rfl hn
end Go.Proofs.Ytlcpdlngbofgcaa
set_option linter.unusedVariables false
set_option linter.unusedSimpArgs false
namespace Go.Proofs.Ytlcpdlngbofgcaa
open Go Go.Proofs Go.Sep
theorem and_byte (x : Int) : 0 ≤ bitI .and .i64 x 255 ∧ bitI .and .i64 x 255 ≤ 255 := by
 have h : (BitVec.ofInt 64 x &&& BitVec.ofInt 64 255).toNat ≤ 255 := by
  rw [BitVec.toNat_and]
  exact Nat.le_trans Nat.and_le_right (by decide)
 have e : bitI .and .i64 x 255 = w64 (((BitVec.ofInt 64 x &&& BitVec.ofInt 64 255).toNat : Nat) : Int) := rfl
 rw [e, w64_id (by omega)]; omega
def CurOK (c : l1Cur) : Prop := 0 ≤ c.i ∧ c.i ≤ (c.b.length : Int) ∧ c.b.length ≤ 1048576
theorem l1Byte_ok {c : l1Cur} (hc : CurOK c) : Ok (m_spec_l1Byte c) fun r => 0 ≤ r.1 ∧ r.1 ≤ 255 ∧ CurOK r.2 := by
 unfold m_spec_l1Byte
 obtain ⟨h0, h1, h2⟩ := hc
 refine .cond (fun h => ?_) fun h => ?_
 ·have hlt : c.i < (c.b.length : Int) := by simpa using h
  refine .get' h0 hlt fun n hn e => .ret ?_
  have := and_byte (w64 (bitI .and .i64 (bitI .xor .i64 (shrI .i64 (w64 (w64 (c.h * 6364136223846793005) + 1442695040888963407)) 33) (shrI .i64 (w64 (w64 (c.h * 6364136223846793005) + 1442695040888963407)) 45)) 255 + w64 c.b[n]))
  exact ⟨this.1, this.2, by show 0 ≤ w64 (c.i + 1); rw [w64_id (by omega)]; omega, by show w64 (c.i + 1) ≤ _; rw [w64_id (by omega)]; simp only; omega, h2⟩
 ·have := and_byte (bitI .xor .i64 (shrI .i64 (w64 (w64 (c.h * 6364136223846793005) + 1442695040888963407)) 33) (shrI .i64 (w64 (w64 (c.h * 6364136223846793005) + 1442695040888963407)) 45))
  exact .ret ⟨this.1, this.2, h0, h1, h2⟩
theorem tmod_lt {a n : Int} (h0 : 0 ≤ a) (hn : 0 < n) : 0 ≤ a.tmod n ∧ a.tmod n < n := ⟨Int.tmod_nonneg _ h0, Int.tmod_lt_of_pos _ hn⟩
theorem l1Below_ok {c : l1Cur} (hc : CurOK c) (n : Int) : Ok (m_spec_l1Below c n) fun r => CurOK r.2 ∧ 0 ≤ r.1 ∧ (0 < n → r.1 < n) ∧ (n ≤ 0 → r.1 = 0) := by
 unfold m_spec_l1Below
 refine .cond (fun h => .ret ⟨hc, by simp, fun h' => absurd h' (by have h2 := of_decide_eq_true h; omega), fun _ => rfl⟩) fun h => ?_
 have hn : 0 < n := by simpa using h
 refine .cond (fun h2 => ?_) fun h2 => ?_
 ·refine .bind (l1Byte_ok hc) fun r hr => .gD (by omega) (.ret ⟨hr.2.2, (tmod_lt hr.1 hn).1, fun _ => (tmod_lt hr.1 hn).2, fun h => by omega⟩)
 ·refine .bind (l1Byte_ok hc) fun a ha => .bind (l1Byte_ok ha.2.2) fun b hb => .bind (l1Byte_ok hb.2.2) fun d hd => .bind (l1Byte_ok hd.2.2) fun e he => .gD (by omega) (.ret ?_)
  have h0 : 0 ≤ w64 (w64 (w64 (w64 (a.1 * 16777216) + w64 (b.1 * 65536)) + w64 (d.1 * 256)) + e.1) := by
   have := ha.1; have := ha.2.1; have := hb.1; have := hb.2.1; have := hd.1; have := hd.2.1; have := he.1; have := he.2.1
   rw [w64_id (x := a.1 * 16777216) (by omega), w64_id (x := b.1 * 65536) (by omega), w64_id (x := d.1 * 256) (by omega), w64_id (x := a.1 * 16777216 + b.1 * 65536) (by omega), w64_id (x := a.1 * 16777216 + b.1 * 65536 + d.1 * 256) (by omega), w64_id (by omega)]
   omega
  exact ⟨he.2.2, (tmod_lt h0 hn).1, fun _ => (tmod_lt h0 hn).2, fun h => by omega⟩
theorem l1Once_ok {c : l1Cur} (hc : CurOK c) (n : Int) : Ok (m_spec_l1Once c n) fun r => CurOK r.2 := by
 unfold m_spec_l1Once
 exact .bind (l1Below_ok hc n) fun r hr => .ret hr.1
theorem l1New_ok {u : Nat} {code : List Int} (hl : code.length ≤ 1048576) (hu : 1048577 < u) : Ok (m_spec_l1New u code) CurOK := by
 unfold m_spec_l1New
 refine .while (fun (s : Int × Int) => 0 ≤ s.2 ∧ s.2 ≤ (code.length : Int)) (fun (s : Int × Int) => code.length - s.2.toNat) (fun _ => True) (fun _ => False) (by simp only; omega) ⟨by simp, by simp⟩ (fun ⟨h, i⟩ ⟨h0, h1⟩ => ?_) (fun ⟨h, i⟩ _ => .ret ⟨by simp, by simp, hl⟩) (fun _ h => h.elim)
 simp only at h0 h1 ⊢
 refine .cond (fun hc => ?_) fun _ => .brk trivial
 have hlt : i < (code.length : Int) := by simp only [Bool.and_eq_true, decide_eq_true_eq] at hc; exact hc.1
 refine .get' h0 hlt fun n hn e => .next ⟨⟨?_, ?_⟩, ?_⟩ <;> simp only <;> rw [w64_id (by omega)] <;> omega
end Go.Proofs.Ytlcpdlngbofgcaa
set_option linter.unusedVariables false
set_option linter.unusedSimpArgs false
namespace Go.Proofs.Ytlcpdlngbofgcaa
open Go Go.Proofs Go.Sep
theorem l1PickInt_ok {c : l1Cur} (hc : CurOK c) (l : List Int) (hl : l ≠ []) : Ok (m_spec_l1PickInt c l) fun r => CurOK r.2 ∧ r.1 ∈ l := by
 have h0 : 0 < l.length := List.length_pos_iff.2 hl
 unfold m_spec_l1PickInt
 refine .bind (l1Below_ok hc _) fun r hr => .get' hr.2.1 (hr.2.2.1 (by omega)) fun n hn e => .ret ⟨hr.1, List.getElem_mem hn⟩
def SigsOK (l : List Relation) : Prop := l.length = 4 ∧ ∀ r ∈ l, r.name.size ≤ 2 ∧ 1 ≤ r.arity ∧ r.arity ≤ 3
theorem l2Sigs_ok {c : l1Cur} (hc : CurOK c) : Ok (m_spec_l2Sigs c) fun r => CurOK r.2 ∧ SigsOK r.1 := by
 unfold m_spec_l2Sigs
 refine .bind (l1PickInt_ok hc _ (by simp)) fun r hr => .bind (l1Below_ok hr.1 2) fun s hs => .ret ⟨hs.1, rfl, fun x hx => ?_⟩
 simp only [List.mem_cons, List.not_mem_nil, or_false] at hx
 rcases hx with rfl | rfl | rfl | rfl <;> refine ⟨?_, ?_, ?_⟩ <;> first | (show ByteArray.size _ ≤ 2; exact Nat.le_of_ble_eq_true rfl) | (simp only; omega)
theorem l3Fact_ok {u : Nat} {c : l1Cur} (hc : CurOK c) {l : List Relation} (hl : l ≠ []) (ha : ∀ r ∈ l, r.arity ≤ 3) (val : Int) (hu : 1048577 < u) : Ok (m_spec_l3Fact u c l val) fun r => CurOK r.2 ∧ r.1.values.length ≤ 3 ∧ ((∀ r ∈ l, 1 ≤ r.arity) → 1 ≤ r.1.values.length) := by
 have h0 : 0 < l.length := List.length_pos_iff.2 hl
 unfold m_spec_l3Fact
 refine .bind (l1Below_ok hc _) fun r hr => ?_
 have hi := hr.2.2.1 (by omega)
 obtain ⟨n, hn⟩ : ∃ n : Nat, r.1 = n := ⟨r.1.toNat, by have := hr.2.1; omega⟩
 have hnl : n < l.length := by omega
 have har := ha _ (List.getElem_mem hnl)
 refine .while (fun (s : l1Cur × List Int) => CurOK s.1 ∧ s.2.length ≤ 3) (fun (s : l1Cur × List Int) => 3 - s.2.length) (fun (s : l1Cur × List Int) => CurOK s.1 ∧ s.2.length ≤ 3 ∧ l[n].arity ≤ (s.2.length : Int)) (fun _ => False) (by simp only [List.length_nil]; omega) ⟨hr.1, by simp⟩ (fun ⟨b, vs⟩ ⟨g1, g2⟩ => ?_) (fun ⟨b, vs⟩ ⟨g1, g2, g3⟩ => .ret ⟨g1, g2, fun h1 => by have := h1 _ (List.getElem_mem hnl); simp only at g3 ⊢; omega⟩) (fun _ h => h.elim)
 simp only at g1 g2 ⊢
 refine .get hn hnl (.cond (fun hlt => ?_) fun hge => .brk ⟨g1, g2, by simpa using hge⟩)
 have hlt' : (vs.length : Int) < l[n].arity := by simpa using hlt
 exact .bind (l1Below_ok g1 _) fun s hs => .app (by simp; omega) (.next ⟨⟨hs.1, by simp; omega⟩, by simp; omega⟩)
def DbD (d : Database) : Prop := d.relations.length ≤ 4 ∧ d.facts.length ≤ 14 ∧ (∀ r ∈ d.relations, r.name.size ≤ 2) ∧ ∀ f ∈ d.facts, f.values.length ≤ 4
theorem DbD.s {d : Database} (h : DbD d) : DbS d := ⟨by have := h.1; omega, by have := h.2.1; omega, fun r hr => by have := h.2.2.1 r hr; omega, fun f hf => by have := h.2.2.2 f hf; omega⟩
theorem l4Copy_eq {u : Nat} {d : Database} (hd : DbS d) (hu : 1048577 < u) : m_spec_l4Copy u d = some d := by
 unfold m_spec_l4Copy
 refine Ok.to (.app (by have := hd.1; simp; omega) ?_)
 refine .while (fun (s : Int × List Fact) => ∃ n : Nat, s.1 = (n : Int) ∧ n ≤ d.facts.length ∧ s.2 = d.facts.take n) (fun (s : Int × List Fact) => d.facts.length - s.1.toNat) (fun (s : Int × List Fact) => s.2 = d.facts) (fun _ => False) (by have := hd.2.1; simp only; omega) ⟨0, rfl, by omega, rfl⟩ (fun ⟨i, fs⟩ ⟨n, h1, h2, h3⟩ => ?_) (fun ⟨i, fs⟩ h => .ret (by simp only at h; subst h; simp)) (fun _ h => h.elim)
 simp only at h1 h3
 subst h1 h3
 simp only
 have hf := hd.2.1
 refine .cond (fun h => ?_) fun h => .brk ?_
 ·have hlt : n < d.facts.length := by simpa using h
  have hv := hd.2.2.2 _ (List.getElem_mem hlt)
  refine .get rfl hlt (.app (by simp; omega) (.app (by simp; omega) (.next ⟨⟨n + 1, by rw [w64_id (by omega)]; simp, hlt, ?_⟩, by simp only; rw [w64_id (by omega)]; omega⟩)))
  simp only [List.nil_append]
  rw [List.take_add_one, List.getElem?_eq_getElem hlt]; rfl
 ·have : ¬ n < d.facts.length := by simpa using h
  simp only
  rw [List.take_of_length_le (by omega)]
theorem FactIndex_tot {u : Nat} {d : Database} (hd : DbS d) {f : Fact} (hf : f.values.length ≤ 1048576) (hu : 1048577 < u) : Ok (m_spec_FactIndex u d f) fun _ => True := by
 unfold m_spec_FactIndex
 refine .while (fun (i : Int) => ∃ n : Nat, i = (n : Int) ∧ n ≤ d.facts.length) (fun i => d.facts.length - i.toNat) (fun _ => True) (fun _ => True) (by have := hd.2.1; omega) ⟨0, rfl, by omega⟩ (fun i ⟨n, h1, h2⟩ => ?_) (fun _ _ => .ret trivial) (fun _ _ => .ret trivial)
 subst h1
 have hfl := hd.2.1
 refine .cond (fun h => ?_) fun h => .brk trivial
 have hlt : n < d.facts.length := by simpa using h
 have hv := hd.2.2.2 _ (List.getElem_mem hlt)
 exact .get rfl hlt (.eq (spec_CompareFacts_eq u _ f (by omega) hv hf) (.cond (fun _ => .out trivial) fun _ => .next ⟨⟨n + 1, by rw [w64_id (by omega)]; simp, hlt⟩, by rw [w64_id (by omega)]; omega⟩))
theorem ContainsFact_tot {u : Nat} {d : Database} (hd : DbS d) {f : Fact} (hf : f.values.length ≤ 1048576) (hu : 1048577 < u) : Ok (m_spec_ContainsFact u d f) fun _ => True := by
 unfold m_spec_ContainsFact
 obtain ⟨b, h1, _⟩ := spec_IsValidDatabase_eq u d hd hu
 refine .bind (P := fun _ => True) (.eq h1 (.cond (fun _ => .bind (FactIndex_tot hd hf hu) fun _ _ => .ret trivial) fun _ => .ret trivial)) fun _ _ => .ret trivial
theorem InsertFact_ok {u : Nat} {d : Database} (hd : DbS d) {f : Fact} (hf : f.values.length ≤ 1048576) (hu : 1048577 < u) : Ok (m_spec_InsertFact u d f) fun r => r.1.relations = d.relations ∧ r.1.facts.length ≤ d.facts.length + 1 ∧ ∀ x ∈ r.1.facts, x ∈ d.facts ∨ x = f := by
 unfold m_spec_InsertFact
 have hfl := hd.2.1
 refine .eq (l4Copy_eq hd hu) (.bind (P := fun _ => True) ?_ fun t _ => ?_)
 ·obtain ⟨b, h1, _⟩ := spec_IsValidDatabase_eq u d hd hu
  obtain ⟨b2, h2, _⟩ := spec_isFact_eq u d.relations f (by omega) hf
  exact .eq h1 (.cond (fun _ => .ret trivial) fun _ => .eq h2 (.cond (fun _ => .ret trivial) fun _ => .bind (ContainsFact_tot hd hf hu) fun _ _ => .cond (fun _ => .ret trivial) fun _ => .ret trivial))
 ·refine .cond (fun _ => .ret ⟨rfl, by simp, fun x hx => .inl hx⟩) fun _ => ?_
  refine .while (fun (i : Int) => ∃ n : Nat, i = (n : Int) ∧ n ≤ d.facts.length) (fun i => d.facts.length - i.toNat) (fun (i : Int) => ∃ n : Nat, i = (n : Int) ∧ n ≤ d.facts.length) (fun _ => False) (by omega) ⟨0, rfl, by omega⟩ (fun i ⟨n, h1, h2⟩ => ?_) (fun i ⟨n, h1, h2⟩ => ?_) (fun _ h => h.elim)
  ·subst h1
   refine .bind (P := fun t => t = true → n < d.facts.length) (.cond (fun h => ?_) fun _ => .ret (fun h => by cases h)) fun t ht => ?_
   ·have hlt : n < d.facts.length := by simpa using h
    have hv := hd.2.2.2 _ (List.getElem_mem hlt)
    exact .get rfl hlt (.eq (spec_CompareFacts_eq u _ f (by omega) hv hf) (.ret fun _ => hlt))
   ·refine .cond (fun h => .next ⟨⟨n + 1, by rw [w64_id (by omega)]; simp, ht h⟩, by have := ht h; rw [w64_id (by omega)]; omega⟩) fun _ => .brk ⟨n, rfl, h2⟩
  ·subst h1
   refine .app (by simp; omega) (.cut rfl rfl h2 (Nat.le_refl _) (.app (by simp; omega) (.cut (i := 0) rfl rfl (Nat.zero_le _) h2 (.app (by simp; omega) (.app (by simp; omega) (.ret ⟨rfl, by simp; omega, fun x hx => ?_⟩))))))
   simp only [List.take_length, List.drop_zero, List.nil_append, List.mem_append, List.mem_singleton, List.cons_append, List.mem_cons] at hx
   rcases hx with h | rfl | h
   ·exact .inl (List.mem_of_mem_take h)
   ·exact .inr rfl
   ·exact .inl (List.mem_of_mem_drop h)
def DbG (n : Nat) (d : Database) : Prop := SigsOK d.relations ∧ d.facts.length ≤ n ∧ ∀ f ∈ d.facts, 1 ≤ f.values.length ∧ f.values.length ≤ 3
theorem DbG.d {n : Nat} {d : Database} (h : DbG n d) (hn : n ≤ 14) : DbD d := ⟨by have := h.1.1; omega, by have := h.2.1; omega, fun r hr => (h.1.2 r hr).1, fun f hf => by have := (h.2.2 f hf).2; omega⟩
theorem SigsOK.ne {l : List Relation} (h : SigsOK l) : l ≠ [] := fun e => by rw [e] at h; have := h.1; simp at this
theorem l4Db_ok {u : Nat} {c : l1Cur} (hc : CurOK c) (hu : 1048577 < u) : Ok (m_spec_l4Db u c) fun r => CurOK r.2 ∧ DbG 12 r.1 := by
 unfold m_spec_l4Db
 refine .bind (l2Sigs_ok hc) fun r1 h1 => .bind (l1PickInt_ok h1.1 _ (by simp)) fun r3 h3 => .bind (l1Below_ok h3.1 11) fun r5 h5 => ?_
 have hb := h5.2.2.1 (by omega)
 have hb0 := h5.2.1
 refine .while (fun (s : Int × l1Cur × List Relation × List Fact) => CurOK s.2.1 ∧ 0 ≤ s.1 ∧ s.1 ≤ 12 ∧ DbG (12 - s.1.toNat) ⟨s.2.2.1, s.2.2.2⟩) (fun (s : Int × l1Cur × List Relation × List Fact) => s.1.toNat) (fun (s : Int × l1Cur × List Relation × List Fact) => CurOK s.2.1 ∧ DbG 12 ⟨s.2.2.1, s.2.2.2⟩) (fun _ => False) (by simp only; rw [w64_id (by omega)]; omega) ⟨h5.1, by simp only; rw [w64_id (by omega)]; omega, by simp only; rw [w64_id (by omega)]; omega, h1.2, by simp, by simp⟩ (fun ⟨n, b, rs, fs⟩ ⟨g1, g2, g3, g4⟩ => ?_) (fun ⟨n, b, rs, fs⟩ h => .ret ⟨h.1, h.2⟩) (fun _ h => h.elim)
 simp only at g1 g2 g3 g4 ⊢
 refine .cond (fun h => ?_) fun h => .brk ⟨g1, g4.1, Nat.le_trans g4.2.1 (by omega), g4.2.2⟩
 have hn : 0 < n := by simpa using h
 refine .bind (l3Fact_ok g1 g4.1.ne (fun r hr => (g4.1.2 r hr).2.2) _ hu) fun r9 h9 => .bind (InsertFact_ok (d := ⟨rs, fs⟩) (DbG.d g4 (by omega)).s (f := r9.1) (by omega) hu) fun r11 h11 => .next ⟨⟨h9.1, ?_, ?_, ?_⟩, ?_⟩
 ·simp only; rw [w64_id (by omega)]; omega
 ·simp only; rw [w64_id (by omega)]; omega
 ·simp only
  rw [w64_id (by omega)]
  refine ⟨by rw [h11.1]; exact g4.1, ?_, fun f hf => ?_⟩
  ·have a1 := h11.2.1; have a2 := g4.2.1; simp only at a1 a2 ⊢; omega
  ·rcases h11.2.2 f hf with h | rfl
   ·exact g4.2.2 f h
   ·exact ⟨h9.2.2 fun r hr => (g4.1.2 r hr).2.1, h9.2.1⟩
 ·simp only; rw [w64_id (by omega)]; omega
theorem l3Any_ok {u : Nat} {c : l1Cur} (hc : CurOK c) {l : List Relation} (hl : SigsOK l) (hu : 1048577 < u) : Ok (m_spec_l3Any u c l) fun r => CurOK r.2 ∧ r.1.values.length ≤ 4 := by
 unfold m_spec_l3Any
 refine .bind (l3Fact_ok hc hl.ne (fun r hr => (hl.2 r hr).2.2) 4 hu) fun r1 h1 => .bind (l1Below_ok h1.1 10) fun r3 h3 => ?_
 have hl3 := h1.2.1
 have hl1 := h1.2.2 fun r hr => (hl.2 r hr).2.1
 refine .cond (fun _ => .bind (l1Below_ok h3.1 6) fun r6 h6 => .ret ⟨h6.1, by simp only; omega⟩) fun _ => .cond (fun _ => .app (by simp; omega) (.ret ⟨h3.1, by simp; omega⟩)) fun _ => .cond (fun _ => .bind (l1PickInt_ok h3.1 _ (by simp)) fun r12 h12 => .get (n := 0) rfl (by omega) (.ret ⟨h12.1, by simp; omega⟩)) fun _ => .ret ⟨h3.1, by simp only; omega⟩
theorem l1Pick_ok {c : l1Cur} (hc : CurOK c) (l : List ByteArray) (hl : l ≠ []) : Ok (m_spec_l1Pick c l) fun r => CurOK r.2 ∧ r.1 ∈ l := by
 have h0 : 0 < l.length := List.length_pos_iff.2 hl
 unfold m_spec_l1Pick
 refine .bind (l1Below_ok hc _) fun r hr => .get' hr.2.1 (hr.2.2.1 (by omega)) fun n hn e => .ret ⟨hr.1, List.getElem_mem hn⟩
theorem l2Any_ok {c : l1Cur} (hc : CurOK c) : Ok (m_spec_l2Any c) fun r => CurOK r.2 ∧ r.1.name.size ≤ 2 := by
 unfold m_spec_l2Any
 refine .bind (l1Pick_ok hc _ (by simp)) fun r1 h1 => .bind (l1Below_ok h1.1 6) fun r3 h3 => .bind (l1Below_ok h3.1 5) fun r5 h5 => .ret ⟨h5.1, ?_⟩
 have := h1.2
 simp only [List.mem_cons, List.not_mem_nil, or_false] at this
 show r1.1.size ≤ 2
 rcases this with h | h | h | h | h | h <;> rw [h] <;> decide
theorem l4Any_ok {u : Nat} {c : l1Cur} (hc : CurOK c) (hu : 1048577 < u) : Ok (m_spec_l4Any u c) fun r => CurOK r.2 ∧ DbD r.1 := by
 unfold m_spec_l4Any
 refine .bind (l4Db_ok hc hu) fun r1 h1 => .bind (l1Below_ok h1.1 14) fun r3 h3 => ?_
 have hg := h1.2
 have hd := hg.d (by omega)
 refine .cond (fun _ => .bind (l3Any_ok h3.1 hg.1 hu) fun r6 h6 => .app (by have := hg.2.1; simp; omega) (.ret ⟨h6.1, hd.1, ?_, hd.2.2.1, fun f hf => ?_⟩)) fun _ => .cond (fun _ => .bind (l1Below_ok h3.1 4) fun r11 h11 => ?_) fun _ => .cond (fun _ => .bind (l1Below_ok h3.1 4) fun r23 h23 => .bind (l2Any_ok h23.1) fun r25 h25 => ?_) fun _ => .ret ⟨h3.1, hd⟩
 ·have := hg.2.1; simp; omega
 ·simp only [List.mem_append, List.mem_singleton] at hf
  rcases hf with hf | rfl
  ·exact hd.2.2.2 f hf
  ·exact h6.2
 ·have h4 := h11.2.2.1 (by omega)
  have h5 := hg.1.1
  obtain ⟨k, hk⟩ : ∃ k : Nat, r11.1 = k := ⟨r11.1.toNat, by have := h11.2.1; omega⟩
  refine .cut (i := 0) rfl hk (Nat.zero_le _) (by omega) (.ret ⟨h11.1, by simp; omega, hd.2.1, fun r hr => hd.2.2.1 r ?_, hd.2.2.2⟩)
  simp only [List.drop_zero] at hr; exact List.mem_of_mem_take hr
 ·have h4 := h23.2.2.1 (by omega)
  have h5 := hg.1.1
  refine .get' h23.2.1 (by omega) fun n hn e => .ret ⟨h25.1, by simp; exact hd.1, hd.2.1, fun r hr => ?_, hd.2.2.2⟩
  rcases List.mem_or_eq_of_mem_set hr with h | rfl
  ·exact hd.2.2.1 r h
  ·exact h25.2
end Go.Proofs.Ytlcpdlngbofgcaa
set_option linter.unusedVariables false
set_option linter.unusedSimpArgs false
namespace Go.Proofs.Ytlcpdlngbofgcaa
open Go Go.Proofs Go.Sep
theorem l27Draw_ok {u : Nat} {code : List Int} (hl : code.length ≤ 1048576) (hu : 1048577 < u) : Ok (m_spec_l27Draw u code) fun r => CurOK r.1 ∧ DbD r.2.1 := by
 unfold m_spec_l27Draw
 refine .bind (l1New_ok hl hu) fun r1 h1 => .bind (l4Any_ok h1 hu) fun r3 h3 => .bind (l1Below_ok h3.1 4) fun r5 h5 => .bind (l1Once_ok h5.1 10) fun r7 h7 => .cond (fun _ => .bind (l1PickInt_ok h7 _ (by simp)) fun r10 h10 => .bind (l1Below_ok h10.1 3) fun r12 h12 => .bind (l1Below_ok h12.1 12) fun r14 h14 => .ret ⟨h14.1, h3.2⟩) fun _ => .bind (l1Below_ok h7 3) fun r16 h16 => .bind (l1Below_ok h16.1 12) fun r18 h18 => .ret ⟨h18.1, h3.2⟩
end Go.Proofs.Ytlcpdlngbofgcaa
set_option linter.unusedVariables false
set_option linter.unusedSimpArgs false
namespace Go.Proofs.Ytlcpdlngbofgcaa
open Go Go.Proofs Go.Sep
def Choice : List (List Int) → List Int → Prop
 | [], [] => True
 | b :: bs, x :: xs => x ∈ b ∧ Choice bs xs
 | _, _ => False
theorem Choice.len : ∀ {bs : List (List Int)} {c : List Int}, Choice bs c → c.length = bs.length
 | [], [], _ => rfl
 | b :: bs, x :: xs, h => by simp [Choice.len h.2]
theorem Choice.get : ∀ {bs : List (List Int)} {c : List Int}, Choice bs c → ∀ (i : Nat) b, bs[i]? = some b → ∃ x, c[i]? = some x ∧ x ∈ b
 | b :: bs, x :: xs, h, 0, b', hb => by simp at hb; subst hb; exact ⟨x, rfl, h.1⟩
 | b :: bs, x :: xs, h, i + 1, b', hb => by simpa using Choice.get h.2 i b' (by simpa using hb)
def prodL (bs : List (List Int)) : Nat := (bs.map List.length).foldr (· * ·) 1
theorem prodL_cons (b : List Int) (bs : List (List Int)) : prodL (b :: bs) = b.length * prodL bs := rfl
theorem prodL_pos : ∀ {bs : List (List Int)}, (∀ b ∈ bs, b ≠ []) → 0 < prodL bs
 | [], _ => by decide
 | b :: bs, h => by
  rw [prodL_cons]
  have h1 : 0 < b.length := List.length_pos_iff.2 (h b (List.mem_cons_self ..))
  exact Nat.mul_pos h1 (prodL_pos fun x hx => h x (List.mem_cons_of_mem _ hx))
theorem prodL_le' : ∀ bs : List (List Int), prodL bs ≤ 2 ^ (bs.map List.length).sum
 | [] => by decide
 | b :: bs => by
  rw [prodL_cons, List.map_cons, List.sum_cons, Nat.pow_add]
  exact Nat.mul_le_mul (Nat.le_of_lt (Nat.lt_two_pow_self)) (prodL_le' bs)
def nth : List (List Int) → Nat → List Int
 | [], _ => []
 | b :: bs, k => b.getD (k / prodL bs % b.length) 0 :: nth bs k
theorem nth_len : ∀ (bs : List (List Int)) (k : Nat), (nth bs k).length = bs.length
 | [], k => rfl
 | b :: bs, k => by simp [nth, nth_len bs k]
theorem nth_choice : ∀ {bs : List (List Int)} (k : Nat), (∀ b ∈ bs, b ≠ []) → Choice bs (nth bs k)
 | [], k, _ => trivial
 | b :: bs, k, h => by
  have h1 : 0 < b.length := List.length_pos_iff.2 (h b (List.mem_cons_self ..))
  refine ⟨?_, nth_choice k fun x hx => h x (List.mem_cons_of_mem _ hx)⟩
  have hlt := Nat.mod_lt (k / prodL bs) h1
  rw [List.getD_eq_getElem?_getD, List.getElem?_eq_getElem hlt]
  exact List.getElem_mem hlt
theorem nth_mod : ∀ (bs : List (List Int)) (k m : Nat), (∀ b ∈ bs, b ≠ []) → nth bs (k + m * prodL bs) = nth bs k
 | [], k, m, _ => rfl
 | b :: bs, k, m, h => by
  have h' : ∀ x ∈ bs, x ≠ [] := fun x hx => h x (List.mem_cons_of_mem _ hx)
  have hp := prodL_pos h'
  have e : k + m * prodL (b :: bs) = k + (m * b.length) * prodL bs := by rw [prodL_cons, Nat.mul_assoc]
  simp only [nth]
  rw [e, nth_mod bs k (m * b.length) h', Nat.add_mul_div_right _ _ hp, Nat.add_mul_mod_self_right]
theorem nth_all : ∀ {bs : List (List Int)} {c : List Int}, Choice bs c → ∃ k, k < prodL bs ∧ nth bs k = c
 | [], [], _ => ⟨0, by decide, rfl⟩
 | b :: bs, x :: xs, h => by
  obtain ⟨k, hk, e⟩ := nth_all h.2
  obtain ⟨j, hj⟩ := List.getElem?_of_mem h.1
  have hjl : j < b.length := (List.getElem?_eq_some_iff.1 hj).1
  have hne : ∀ y ∈ bs, y ≠ [] := fun y hy e0 => by
   obtain ⟨i, hi⟩ := List.getElem?_of_mem hy
   obtain ⟨z, _, hz⟩ := h.2.get i y hi
   rw [e0] at hz; cases hz
  have hp := prodL_pos hne
  refine ⟨k + j * prodL bs, ?_, ?_⟩
  ·rw [prodL_cons]
   have : j * prodL bs + prodL bs ≤ b.length * prodL bs := by rw [← Nat.succ_mul]; exact Nat.mul_le_mul_right _ hjl
   omega
  ·simp only [nth]
   rw [nth_mod bs k j hne, e, Nat.add_mul_div_right _ _ hp, Nat.div_eq_of_lt hk, Nat.zero_add, Nat.mod_eq_of_lt hjl, List.getD_eq_getElem?_getD, hj]; rfl
theorem prodL_append (a b : List (List Int)) : prodL (a ++ b) = prodL a * prodL b := by
 induction a with
 | nil => simp [prodL]
 | cons x a ih => rw [List.cons_append, prodL_cons, prodL_cons, ih, Nat.mul_assoc]
theorem nth_get : ∀ (bs : List (List Int)) (k i : Nat) (b : List Int), bs[i]? = some b → (nth bs k)[i]? = some (b.getD (k / prodL (bs.drop (i + 1)) % b.length) 0)
 | [], k, i, b, h => by simp at h
 | b0 :: bs, k, 0, b, h => by simp at h; subst h; simp [nth]
 | b0 :: bs, k, i + 1, b, h => by simpa [nth] using nth_get bs k i b (by simpa using h)
theorem countRepairs_eq (bs : List (List Int)) (hne : ∀ b ∈ bs, b ≠ []) (hb : prodL bs ≤ 9223372036854775807) : m_impl_countRepairs bs = some (prodL bs : Int) := by
 unfold m_impl_countRepairs
 obtain ⟨s, h1, h2⟩ := forS_ok (xs := bs) (s := (1 : Int)) (f := fun (t_1 : Int) (x_t_1 : (List Int)) (out3 : Int) => some (w64 (out3 * (x_t_1.length : Int)))) (fun n s => s = ((prodL (bs.take n) : Nat) : Int)) rfl fun n x s hx hI => by
  refine ⟨_, rfl, ?_⟩
  have e : prodL (bs.take (n + 1)) = prodL (bs.take n) * x.length := by
   rw [List.take_add_one, hx, prodL_append]; simp [prodL]
  have hle : prodL (bs.take (n + 1)) ≤ prodL bs := by
   have e2 : prodL bs = prodL (bs.take (n + 1)) * prodL (bs.drop (n + 1)) := by rw [← prodL_append, List.take_append_drop]
   rw [e2]
   exact Nat.le_mul_of_pos_right _ (prodL_pos fun y hy => hne y (List.mem_of_mem_drop hy))
  rw [hI, ← Int.natCast_mul, ← e, w64_id (by omega)]
 rw [h1, Option.bind_some, h2, List.take_length]
end Go.Proofs.Ytlcpdlngbofgcaa
set_option linter.unusedVariables false
set_option linter.unusedSimpArgs false
namespace Go.Proofs.Ytlcpdlngbofgcaa
open Go Go.Proofs Go.Sep
theorem nthRepair_eq (u : Nat) (bs : List (List Int)) (k : Nat) (hne : ∀ b ∈ bs, b ≠ []) (hk : k ≤ 9223372036854775807) (hl : bs.length ≤ 1048576) (hlb : ∀ b ∈ bs, b.length ≤ 1048576) (hu : bs.length < u) : m_impl_nthRepair u bs (k : Int) = some (nth bs k) := by
 unfold m_impl_nthRepair
 rw [mk_ok (by omega) (by omega), Option.bind_some]
 obtain ⟨o, h1, h2⟩ := while_ok (f := fun (⟨rank1, out5, i6⟩ : Int × (List Int) × Int) => cond (decide (0 ≤ i6)) ((getI bs i6).bind fun v_6 => (gD (v_6.length : Int)).bind fun _u => (getI v_6 (rank1.tmod (v_6.length : Int))).bind fun v_12 => (getI out5 i6).bind fun v_17 => (gD (v_6.length : Int)).bind fun _u => some (Ctl.next (R := List Int) ((w64 (rank1.tdiv (v_6.length : Int))), (out5.set (i6).toNat v_12), (w64 (i6 - 1))))) (some (.brk (rank1, out5, i6))))
  (fun (s : Int × List Int × Int) => ∃ n : Nat, s.2.2 = (n : Int) - 1 ∧ n ≤ bs.length ∧ s.1 = ((k / prodL (bs.drop n) : Nat) : Int) ∧ s.2.1.length = bs.length ∧ ∀ j, n ≤ j → j < bs.length → s.2.1[j]? = (nth bs k)[j]?)
  (fun (s : Int × List Int × Int) => (s.2.2 + 1).toNat) (fun (s : Int × List Int × Int) => s.2.1 = nth bs k) (fun (_ : List Int) => False)
  (fun ⟨rk, out, i⟩ ⟨n, hi, hn, hr, hol, hI⟩ => by
   simp only at hi hr hol hI
   subst hi hr
   by_cases h : 0 < n
   ·have e : (n : Int) - 1 = ((n - 1 : Nat) : Int) := by omega
    have hn1 : n - 1 < bs.length := by omega
    have hb := hne _ (List.getElem_mem hn1)
    have hbl := hlb _ (List.getElem_mem hn1)
    have hpos : 0 < bs[n - 1].length := List.length_pos_iff.2 hb
    have hd : gD ((bs[n - 1].length : Nat) : Int) = some () := gD_ok (by omega)
    have hdr : bs.drop (n - 1) = bs[n - 1] :: bs.drop n := by
     have := List.drop_eq_getElem_cons hn1
     rwa [show n - 1 + 1 = n by omega] at this
    have hmod : (((k / prodL (bs.drop n) : Nat) : Int)).tmod ((bs[n - 1].length : Nat) : Int) = ((k / prodL (bs.drop n) % bs[n - 1].length : Nat) : Int) := by
     rw [Int.tmod_eq_emod_of_nonneg (Int.natCast_nonneg _)]; rfl
    obtain ⟨q, hq⟩ : ∃ q, k / prodL (bs.drop n) / bs[n - 1].length = q := ⟨_, rfl⟩
    have hdiv : (((k / prodL (bs.drop n) : Nat) : Int)).tdiv ((bs[n - 1].length : Nat) : Int) = ((q : Nat) : Int) := by
     rw [Int.tdiv_eq_ediv_of_nonneg (Int.natCast_nonneg _), ← hq]; rfl
    have hlt := Nat.mod_lt (k / prodL (bs.drop n)) hpos
    have hkk : q ≤ k := by rw [← hq]; exact Nat.le_trans (Nat.div_le_self ..) (Nat.div_le_self ..)
    simp only
    rw [cond_T' (by simp; omega), e, getI_lt hn1, Option.bind_some, hd, Option.bind_some, hmod, getI_lt hlt, Option.bind_some, getI_lt (show n - 1 < out.length by omega), Option.bind_some, Option.bind_some, hdiv, w64_id (by omega), w64_id (by omega)]
    refine ⟨_, rfl, ⟨n - 1, by simp only, by omega, ?_, by simpa using hol, fun j hj hjl => ?_⟩, by simp only; omega⟩
    ·simp only
     rw [hdr, prodL_cons, ← hq, Nat.div_div_eq_div_mul, Nat.mul_comm]
    ·simp only [Int.toNat_natCast]
     by_cases ej : n - 1 = j
     ·subst ej
      rw [List.getElem?_set_self (by omega), nth_get bs k (n - 1) bs[n - 1] (List.getElem?_eq_getElem hn1), show n - 1 + 1 = n by omega, List.getD_eq_getElem?_getD, List.getElem?_eq_getElem hlt]; rfl
     ·rw [List.getElem?_set_ne ej]; exact hI j (by omega) hjl
   ·simp only
    rw [cond_F' (by simp; omega)]
    refine ⟨_, rfl, ?_⟩
    simp only [CtlP]
    apply List.ext_getElem?
    intro j
    by_cases hj : j < bs.length
    ·exact hI j (by omega) hj
    ·rw [List.getElem?_eq_none (by omega), List.getElem?_eq_none (by rw [nth_len]; omega)])
  u ((k : Int), List.replicate bs.length 0, (bs.length : Int) - 1) (by show ((bs.length : Int) - 1 + 1).toNat < u; omega) ⟨bs.length, rfl, Nat.le_refl _, (by show (k : Int) = ((k / prodL (bs.drop bs.length) : Nat) : Int); rw [List.drop_eq_nil_of_le (Nat.le_refl _)]; simp [prodL]), by simp, fun j h1 h2 => by omega⟩
 rw [h1, Option.bind_some]
 cases o with
 | inr r => exact h2.elim
 | inl s => obtain ⟨rk, out, i⟩ := s; simp only [SumP] at h2; subst h2; rfl
end Go.Proofs.Ytlcpdlngbofgcaa
set_option linter.unusedVariables false
set_option linter.unusedSimpArgs false
namespace Go.Proofs.Ytlcpdlngbofgcaa
open Go Go.Proofs Go.Sep
theorem prodL_le : ∀ bs : List (List Int), prodL bs ≤ 2 ^ (bs.map List.length).sum
 | [] => by decide
 | b :: bs => by
  rw [prodL_cons, List.map_cons, List.sum_cons, Nat.pow_add]
  exact Nat.mul_le_mul (Nat.le_of_lt (Nat.lt_two_pow_self)) (prodL_le bs)
structure Ends (bs : List (List Int)) (ag : List Int → Int) (lo hi : Int) : Prop where
  lo_at : ∃ c, Choice bs c ∧ ag c = lo
  lo_le : ∀ c, Choice bs c → lo ≤ ag c
  hi_at : ∃ c, Choice bs c ∧ ag c = hi
  hi_ge : ∀ c, Choice bs c → ag c ≤ hi
theorem Ends.uniq {bs ag lo hi lo' hi'} (h : Ends bs ag lo hi) (h' : Ends bs ag lo' hi') : lo = lo' ∧ hi = hi' := by
 obtain ⟨c1, a1, b1⟩ := h.lo_at
 obtain ⟨c2, a2, b2⟩ := h'.lo_at
 obtain ⟨c3, a3, b3⟩ := h.hi_at
 obtain ⟨c4, a4, b4⟩ := h'.hi_at
 have := h'.lo_le c1 a1; have := h.lo_le c2 a2; have := h'.hi_ge c3 a3; have := h.hi_ge c4 a4
 omega
theorem rangeOf_eq (u : Nat) (d : Database) (bs : List (List Int)) (hb : m_impl_blocks d = some bs) (hne : ∀ b ∈ bs, b ≠ []) (hs : (bs.map List.length).sum ≤ 14) (hl : bs.length ≤ 14) (hu : 1048576 < u) {agg : List Int → Option Int} (ag : List Int → Int) (hag : ∀ c, Choice bs c → agg c = some (ag c)) : ∃ lo hi, m_impl_rangeOf u d agg = some (lo, hi) ∧ Ends bs ag lo hi := by
 have hp : prodL bs ≤ 16384 := Nat.le_trans (prodL_le bs) (Nat.le_trans (Nat.pow_le_pow_right (by decide) hs) (by decide))
 have hlb : ∀ b ∈ bs, b.length ≤ 1048576 := fun b hb => by
  have : ∀ {l : List (List Int)}, b ∈ l → b.length ≤ (l.map List.length).sum := fun {l} => by
   induction l with
   | nil => intro h; cases h
   | cons x l ih =>
    intro h
    rw [List.map_cons, List.sum_cons]
    rcases List.mem_cons.1 h with rfl | h
    ·omega
    ·have := ih h; omega
  have := this hb; omega
 have hpos := prodL_pos hne
 have hn : ∀ k : Nat, k ≤ 1048576 → m_impl_nthRepair u bs (k : Int) = some (nth bs k) := fun k hk => nthRepair_eq u bs k hne (by omega) (by omega) hlb (by omega)
 have ha : ∀ k : Nat, agg (nth bs k) = some (ag (nth bs k)) := fun k => hag _ (nth_choice k hne)
 unfold m_impl_rangeOf
 have h0 := hn 0 (by omega)
 rw [hb, Option.bind_some, show (0 : Int) = ((0 : Nat) : Int) from rfl, h0, Option.bind_some, ha, Option.bind_some, countRepairs_eq bs hne (by omega), Option.bind_some, gN_ok (by omega), Option.bind_some]
 obtain ⟨s, h1, h2⟩ := forM_ok (m := prodL bs) (s := (ag (nth bs 0), ag (nth bs 0))) (f := fun (t_9 : Int) (⟨least7, most8⟩ : Int × Int) => (m_impl_nthRepair u bs (t_9 : Int)).bind fun r_12 => (agg r_12).bind fun r_14 => some ((if r_14 < least7 then r_14 else least7), (if most8 < r_14 then r_14 else most8)))
  (fun n (s : Int × Int) => ((∃ k, ag (nth bs k) = s.1) ∧ ∀ k, k = 0 ∨ k < n → s.1 ≤ ag (nth bs k)) ∧ ((∃ k, ag (nth bs k) = s.2) ∧ ∀ k, k = 0 ∨ k < n → ag (nth bs k) ≤ s.2))
  ⟨⟨⟨0, rfl⟩, fun k hk => by rcases hk with rfl | hk; exact Int.le_refl _; omega⟩, ⟨0, rfl⟩, fun k hk => by rcases hk with rfl | hk; exact Int.le_refl _; omega⟩
  fun n ⟨lo, hi⟩ hnlt ⟨⟨⟨k1, e1⟩, hlo⟩, ⟨k2, e2⟩, hhi⟩ => by
   simp only at e1 hlo e2 hhi
   simp only
   rw [hn n (by omega), Option.bind_some, ha, Option.bind_some]
   refine ⟨_, rfl, ⟨?_, fun k hk => ?_⟩, ?_, fun k hk => ?_⟩
   ·simp only; split
    ·exact ⟨n, rfl⟩
    ·exact ⟨k1, e1⟩
   ·simp only
    by_cases e : k = n
    ·subst e; split <;> omega
    ·have := hlo k (by omega); split <;> omega
   ·simp only; split
    ·exact ⟨n, rfl⟩
    ·exact ⟨k2, e2⟩
   ·simp only
    by_cases e : k = n
    ·subst e; split <;> omega
    ·have := hhi k (by omega); split <;> omega
 rw [show ((0 : Nat) : Int) = (0 : Int) from rfl, h1, Option.bind_some]
 obtain ⟨lo, hi⟩ := s
 obtain ⟨⟨⟨k1, e1⟩, hlo⟩, ⟨k2, e2⟩, hhi⟩ := h2
 simp only at e1 hlo e2 hhi
 refine ⟨lo, hi, rfl, ⟨⟨_, nth_choice k1 hne, e1⟩, fun c hc => ?_, ⟨_, nth_choice k2 hne, e2⟩, fun c hc => ?_⟩⟩
 ·obtain ⟨k, hk, rfl⟩ := nth_all hc; exact hlo k (.inr hk)
 ·obtain ⟨k, hk, rfl⟩ := nth_all hc; exact hhi k (.inr hk)
end Go.Proofs.Ytlcpdlngbofgcaa
set_option linter.unusedVariables false
set_option linter.unusedSimpArgs false
namespace Go.Proofs.Ytlcpdlngbofgcaa
open Go Go.Proofs Go.Sep
def RelOK (r : Relation) : Prop := 0 ≤ r.keyLength ∧ r.keyLength ≤ r.arity ∧ 1 ≤ r.arity ∧ r.arity ≤ 3
theorem validRelation_ok {r : Relation} (h : m_impl_IsValidRelation r = some true) : RelOK r := by
 unfold m_impl_IsValidRelation m_impl_within at h
 obtain ⟨t, h1, h2⟩ := bind_inv h
 have h2 : t = true := by simpa using h2
 subst h2
 by_cases hs : (r.name.size : Int) = 1
 ·rw [cond_T' (by simpa using hs)] at h1
  obtain ⟨b1, _, h3⟩ := bind_inv h1
  cases hd : decide (97 ≤ b1) with
  | false => rw [hd] at h3; simp at h3
  | true =>
   rw [hd, cond_T' rfl] at h3
   obtain ⟨b2, _, h4⟩ := bind_inv h3
   cases hd2 : decide (b2 ≤ 122) with
   | false => rw [hd2] at h4; simp at h4
   | true =>
    rw [hd2, cond_T' rfl] at h4
    simp only [Option.bind_some] at h4
    by_cases ha : 1 ≤ r.arity ∧ r.arity ≤ 3
    ·rw [cond_T' (by simp [ha])] at h4
     simp only [Option.some.injEq, Bool.and_eq_true, decide_eq_true_eq] at h4
     exact ⟨h4.1, h4.2, ha.1, ha.2⟩
    ·rw [cond_F' (by simp; omega)] at h4; simp at h4
 ·rw [cond_F' (by simpa using hs)] at h1; simp at h1
theorem validRelations_ok {l : List Relation} (h : m_impl_AreValidRelations l = some true) : ∀ r ∈ l, RelOK r := by
 unfold m_impl_AreValidRelations at h
 obtain ⟨o, h1, h2⟩ := forL_ok (xs := l) (s := ()) (f := fun (t_1 : Int) (x_t_1 : Relation) (_ : Unit) => ((m_impl_IsValidRelation x_t_1).bind fun r_5 => cond (!r_5) (some true) (cond (decide (0 < (t_1 : Int))) ((getI l ((t_1 : Int) - 1)).bind fun v_9 => some (!ltS v_9.name x_t_1.name)) (some false))).bind fun (t29 : Bool) => cond t29 (some (.ret false)) (some (.next ())))
  (fun n _ => ∀ (j : Nat) r, j < n → l[j]? = some r → RelOK r) (fun _ => False) (fun (r : Bool) => r = false) (fun j r hj => by omega) fun n x s hx hI => by
   obtain ⟨b, hb⟩ := validRelation_tot x
   have hn : n < l.length := (List.getElem?_eq_some_iff.1 hx).1
   rw [hb, Option.bind_some]
   cases b with
   | false => exact ⟨_, rfl, rfl⟩
   | true =>
    have key : ∃ t, (cond (decide (0 < (n : Int))) ((getI l ((n : Int) - 1)).bind fun v_9 => some (!ltS v_9.name x.name)) (some false)) = some t := by
     by_cases h0 : 0 < n
     ·have e : (n : Int) - 1 = ((n - 1 : Nat) : Int) := by omega
      rw [cond_T' (by simpa using h0), e, getI_lt (show n - 1 < l.length by omega)]; exact ⟨_, rfl⟩
     ·rw [cond_F' (by simpa using h0)]; exact ⟨_, rfl⟩
    obtain ⟨t, ht⟩ := key
    rw [cond_nt, ht, Option.bind_some]
    cases t with
    | true => exact ⟨_, rfl, rfl⟩
    | false =>
     refine ⟨_, rfl, fun j r hj hr => ?_⟩
     by_cases e : j = n
     ·subst e; rw [hx] at hr; cases hr; exact validRelation_ok hb
     ·exact hI j r (by omega) hr
 rw [h1, Option.bind_some] at h
 cases o with
 | inl s =>
  intro r hr
  obtain ⟨j, hj⟩ := List.getElem?_of_mem hr
  exact (h2.resolve_right id) j r (List.getElem?_eq_some_iff.1 hj).1 hj
 | inr r =>
  simp only [SumP] at h2
  subst h2; simp [onS] at h
def keyLen (l : List Relation) (f : Fact) : Nat := match l[f.relation.toNat]? with
 | some r => r.keyLength.toNat
 | none => 0
def keyF (l : List Relation) (f : Fact) : Int × List Int := (f.relation, f.values.take (keyLen l f))
theorem cut_key {xs : List Int} {k : Int} (h0 : 0 ≤ k) (h1 : k ≤ (xs.length : Int)) : cutI xs 0 k = some (xs.take k.toNat) := by
 unfold cutI
 rw [if_pos (by omega)]; simp
theorem keyLen_eq {l : List Relation} {f : Fact} {n : Nat} {r : Relation} (h1 : f.relation = n) (h2 : l[n]? = some r) : keyLen l f = r.keyLength.toNat := by
 simp only [keyLen, h1, Int.toNat_natCast, h2]
theorem impl_sameKey_eq {l : List Relation} (hl : m_impl_AreValidRelations l = some true) {a b : Fact} (ha : FactOK l a) (hb : FactOK l b) : m_impl_sameKey l a b = some (decide (keyF l a = keyF l b)) := by
 unfold m_impl_sameKey
 by_cases hr : a.relation = b.relation
 ·obtain ⟨n, r, h1, h2, h3, h4⟩ := ha
  obtain ⟨n', r', g1, g2, g3, g4⟩ := hb
  have : n' = n := by omega
  subst this
  rw [h2] at g2; cases g2
  have hok := validRelations_ok hl r (List.mem_of_getElem? h2)
  rw [cond_F' (by simp [hr]), h1, getI_nat, h2, Option.bind_some, cut_key hok.1 (by have := hok.2.1; omega), Option.bind_some, cut_key hok.1 (by have := hok.2.1; omega), Option.bind_some]
  have he : m_slices_Equal_Sint_int (a.values.take r.keyLength.toNat) (b.values.take r.keyLength.toNat) = some (decide (a.values.take r.keyLength.toNat = b.values.take r.keyLength.toNat)) := by
   unfold m_slices_Equal_Sint_int
   generalize a.values.take r.keyLength.toNat = x
   generalize b.values.take r.keyLength.toNat = y
   by_cases hl : x.length = y.length
   ·rw [cond_F' (by simp [hl])]
    obtain ⟨o, h1, h2⟩ := forL_all (f := fun (i_2 : Int) (x_i_2 : Int) (_ : Unit) => (getI y (i_2 : Int)).bind fun v_4 => cond (decide (x_i_2 ≠ v_4)) (some (.ret false)) (some (.next ()))) (xs := x) (r := false) (fun n z => decide (y[n]? = some z)) (fun n z hx => by
     have hn : n < y.length := by have := (List.getElem?_eq_some_iff.1 hx).1; omega
     rw [getI_lt hn, Option.bind_some, List.getElem?_eq_getElem hn]
     by_cases e : z = y[n]
     ·simp [e]
     ·simp [e, Ne.symm e])
    rw [h1, Option.bind_some]
    rcases h2 with ⟨rfl, h⟩ | ⟨rfl, n, z, hx, hp⟩
    ·simp only [onS, Option.some.injEq]
     symm; simp only [decide_eq_true_eq]
     apply List.ext_getElem?
     intro n
     cases hx : x[n]? with
     | none => rw [List.getElem?_eq_none_iff] at hx; rw [List.getElem?_eq_none (by omega)]
     | some z => have := h n z hx; simp at this; exact this.symm
    ·simp only [onS, Option.some.injEq]
     symm; simp only [decide_eq_false_iff_not]
     rintro rfl
     simp [hx] at hp
   ·rw [cond_T' (by simp; omega)]
    have : x ≠ y := fun e => hl (by rw [e])
    simp [this]
  rw [he, Option.bind_some]
  simp only [keyF, keyLen_eq h1 h2, keyLen_eq g1 h2, hr, Prod.mk.injEq, true_and]
 ·rw [cond_T' (by simp [hr])]
  have : keyF l a ≠ keyF l b := fun e => hr (congrArg Prod.fst e)
  simp [this]
end Go.Proofs.Ytlcpdlngbofgcaa
set_option linter.unusedVariables false
set_option linter.unusedSimpArgs false
namespace Go.Proofs.Ytlcpdlngbofgcaa
open Go Go.Proofs Go.Sep
theorem cmpL_zero : ∀ (a b : List Int), cmpL a b = 0 ↔ a = b
 | [], [] => by simp [cmpL]
 | [], y :: b => by simp [cmpL]
 | x :: a, [] => by simp [cmpL]
 | x :: a, y :: b => by
  simp only [cmpL, List.cons.injEq]
  by_cases h1 : x < y
  ·rw [if_pos h1]; constructor
   ·intro h; omega
   ·intro h; omega
  ·by_cases h2 : y < x
   ·rw [if_neg h1, if_pos h2]; constructor
    ·intro h; omega
    ·intro h; omega
   ·rw [if_neg h1, if_neg h2, cmpL_zero a b]
    constructor
    ·intro h; exact ⟨by omega, h⟩
    ·intro h; exact h.2
theorem cmpL_between : ∀ (m : Nat) (a b c : List Int), cmpL a b ≤ 0 → cmpL b c ≤ 0 → a.take m = c.take m → b.take m = a.take m
 | 0, a, b, c, _, _, _ => by simp
 | m + 1, [], [], c, _, _, _ => rfl
 | m + 1, [], y :: b, c, h1, h2, h => by
  cases c with
  | nil => simp [cmpL] at h2
  | cons z c => simp at h
 | m + 1, x :: a, [], c, h1, h2, h => by simp [cmpL] at h1
 | m + 1, x :: a, y :: b, [], h1, h2, h => by simp at h
 | m + 1, x :: a, y :: b, z :: c, h1, h2, h => by
  simp only [List.take_succ_cons, List.cons.injEq] at h ⊢
  obtain ⟨rfl, h⟩ := h
  simp only [cmpL] at h1 h2
  by_cases c1 : y < x
  ·rw [if_neg (by omega), if_pos c1] at h1; omega
  ·by_cases c2 : x < y
   ·rw [if_neg (by omega), if_pos c2] at h2; omega
   ·have : y = x := by omega
    subst this
    rw [if_neg (by omega), if_neg (by omega)] at h1 h2
    exact ⟨rfl, cmpL_between m a b c h1 h2 h⟩
theorem cmpL_trans : ∀ (a b c : List Int), cmpL a b ≤ 0 → cmpL b c ≤ 0 → cmpL a c ≤ 0
 | [], b, c, h1, h2 => by rw [cmpL_nil_l]; split <;> omega
 | x :: a, [], c, h1, h2 => by simp [cmpL] at h1
 | x :: a, y :: b, [], h1, h2 => by simp [cmpL] at h2
 | x :: a, y :: b, z :: c, h1, h2 => by
  simp only [cmpL] at h1 h2 ⊢
  by_cases c1 : x < z
  ·rw [if_pos c1]; omega
  ·rw [if_neg c1]
   by_cases c2 : x < y
   ·have : z < y := by omega
    rw [if_neg (by omega), if_pos this] at h2; omega
   ·rw [if_neg c2] at h1
    by_cases c3 : y < x
    ·rw [if_pos c3] at h1; omega
    ·rw [if_neg c3] at h1
     have : y = x := by omega
     subst this
     rw [if_neg c1] at h2
     by_cases c4 : z < y
     ·rw [if_pos c4] at h2; omega
     ·rw [if_neg c4] at h2 ⊢
      exact cmpL_trans a b c h1 h2
theorem cmpF_trans {a b c : Fact} (h1 : cmpF a b ≤ 0) (h2 : cmpF b c ≤ 0) : cmpF a c ≤ 0 := by
 unfold cmpF at *
 by_cases c1 : a.relation < c.relation
 ·rw [if_pos c1]; omega
 ·rw [if_neg c1]
  by_cases c2 : a.relation < b.relation
  ·rw [if_neg (by omega), if_pos (by omega)] at h2; omega
  ·rw [if_neg c2] at h1
   by_cases c3 : b.relation < a.relation
   ·rw [if_pos c3] at h1; omega
   ·rw [if_neg c3] at h1
    rw [if_neg (by omega)] at h2
    by_cases c4 : c.relation < b.relation
    ·rw [if_pos c4] at h2; omega
    ·rw [if_neg c4] at h2
     rw [if_neg (by omega)]
     exact cmpL_trans _ _ _ h1 h2
theorem keyF_between {l : List Relation} {a b c : Fact} (h1 : cmpF a b ≤ 0) (h2 : cmpF b c ≤ 0) (h : keyF l a = keyF l c) : keyF l b = keyF l a := by
 have hr : a.relation = c.relation := congrArg Prod.fst h
 have hv : a.values.take (keyLen l a) = c.values.take (keyLen l c) := congrArg Prod.snd h
 unfold cmpF at h1 h2
 by_cases c2 : a.relation < b.relation
 ·rw [if_neg (by omega), if_pos (by omega)] at h2; omega
 ·rw [if_neg c2] at h1
  by_cases c3 : b.relation < a.relation
  ·rw [if_pos c3] at h1; omega
  ·rw [if_neg c3] at h1
   rw [if_neg (by omega), if_neg (by omega)] at h2
   have hb : b.relation = a.relation := by omega
   have e1 : keyLen l b = keyLen l a := by simp only [keyLen, hb]
   have e2 : keyLen l c = keyLen l a := by simp only [keyLen, hr]
   rw [e2] at hv
   simp only [keyF, hb, e1, Prod.mk.injEq, true_and]
   exact cmpL_between _ _ _ _ h1 h2 hv
theorem sorted_le {d : Database} (hd : DbOK d) : ∀ (k i : Nat) f g, d.facts[i]? = some f → d.facts[i + k]? = some g → cmpF f g ≤ 0
 | 0, i, f, g, h1, h2 => by
  rw [Nat.add_zero, h1] at h2; cases h2
  have : cmpL f.values f.values = 0 := (cmpL_zero _ _).2 rfl
  simp [cmpF, this]
 | k + 1, i, f, g, h1, h2 => by
  have hl : i + k < d.facts.length := by have := (List.getElem?_eq_some_iff.1 h2).1; omega
  have h3 : d.facts[i + k]? = some d.facts[i + k] := List.getElem?_eq_getElem hl
  have := sorted_le hd k i f _ h1 h3
  exact cmpF_trans this (Int.le_of_lt (hd.sorted (i + k) _ _ h3 h2))
theorem spec_KeyOf_eq {u : Nat} {l : List Relation} (hl : m_impl_AreValidRelations l = some true) {f : Fact} (hf : FactOK l f) (hu : f.values.length < u) (hs : f.values.length ≤ 1048576) : m_spec_KeyOf u l f = some (f.values.take (keyLen l f)) := by
 unfold m_spec_KeyOf
 obtain ⟨b, h1, h2⟩ := spec_isFact_eq u l f hu hs
 have hb : b = true := h2.2 ⟨hl, hf⟩
 subst hb
 obtain ⟨n, r, g1, g2, g3, g4⟩ := hf
 have hok := validRelations_ok hl r (List.mem_of_getElem? g2)
 rw [h1, Option.bind_some, cond_nt, g1, getI_nat, g2, Option.bind_some, cut_key hok.1 (by have := hok.2.1; omega), Option.bind_some, app_ok (by simp; omega), keyLen_eq g1 g2]
 simp
theorem spec_HaveSameKey_eq {u : Nat} {l : List Relation} (hl : m_impl_AreValidRelations l = some true) {a b : Fact} (ha : FactOK l a) (hb : FactOK l b) (hu : a.values.length < u ∧ b.values.length < u) (hs : a.values.length ≤ 1048576 ∧ b.values.length ≤ 1048576) : m_spec_HaveSameKey u l a b = some (decide (keyF l a = keyF l b)) := by
 unfold m_spec_HaveSameKey
 obtain ⟨b1, h1, h2⟩ := spec_isFact_eq u l a hu.1 hs.1
 obtain ⟨b2, h3, h4⟩ := spec_isFact_eq u l b hu.2 hs.2
 have e1 : b1 = true := h2.2 ⟨hl, ha⟩
 have e2 : b2 = true := h4.2 ⟨hl, hb⟩
 subst e1 e2
 rw [h1, Option.bind_some, cond_T' rfl, h3, Option.bind_some, cond_T' rfl]
 by_cases hr : a.relation = b.relation
 ·rw [cond_T' (by simp [hr]), spec_KeyOf_eq hl ha hu.1 hs.1, Option.bind_some, spec_KeyOf_eq hl hb hu.2 hs.2, Option.bind_some, l3Ints_cmp _ _ u (by simp; omega) (by simp; omega) (by simp; omega), Option.bind_some, Option.bind_some]
  simp only [cmpL_zero, keyF, hr, Prod.mk.injEq, true_and]
 ·rw [cond_F' (by simp [hr]), Option.bind_some]
  have : keyF l a ≠ keyF l b := fun e => hr (congrArg Prod.fst e)
  simp [this]
end Go.Proofs.Ytlcpdlngbofgcaa
set_option linter.unusedVariables false
set_option linter.unusedSimpArgs false
namespace Go.Sep
section
variable {κ : Type} [DecidableEq κ] (K : Nat → κ)
def blkN (n i : Nat) : List Nat := (List.range n).filter fun j => decide (K j = K i)
def firstB (i : Nat) : Bool := decide (∀ j, j < i → K j ≠ K i)
def firsts (n : Nat) : List Nat := (List.range n).filter (firstB K)
def BlN (n : Nat) : List (List Nat) := (firsts K n).map (blkN K n)
variable {K}
theorem firstB_iff {i : Nat} : firstB K i = true ↔ ∀ j, j < i → K j ≠ K i := by simp [firstB]
theorem blkN_succ (n i : Nat) : blkN K (n + 1) i = blkN K n i ++ if K n = K i then [n] else [] := by
 simp only [blkN, List.range_succ, List.filter_append, List.filter_cons, List.filter_nil, decide_eq_true_eq]
theorem firsts_succ (n : Nat) : firsts K (n + 1) = firsts K n ++ if firstB K n = true then [n] else [] := by
 simp only [firsts, List.range_succ, List.filter_append, List.filter_cons, List.filter_nil]
theorem mem_firsts {n i : Nat} : i ∈ firsts K n ↔ i < n ∧ firstB K i = true := by simp [firsts]
theorem exists_first {i : Nat} : ∃ j, j ≤ i ∧ K j = K i ∧ firstB K j = true := by
 induction i using Nat.strongRecOn with
 | ind i ih =>
  by_cases h : firstB K i = true
  ·exact ⟨i, Nat.le_refl _, rfl, h⟩
  ·have : ∃ j, j < i ∧ K j = K i := by
    rw [firstB_iff] at h
    simp only [Classical.not_forall, ne_eq, Decidable.not_not] at h
    obtain ⟨j, h1, h2⟩ := h
    exact ⟨j, h1, h2⟩
   obtain ⟨j, h1, h2⟩ := this
   obtain ⟨k, h3, h4, h5⟩ := ih j h1
   exact ⟨k, by omega, h4.trans h2, h5⟩
theorem first_uniq {i j : Nat} (hi : firstB K i = true) (hj : firstB K j = true) (h : K i = K j) : i = j := by
 rw [firstB_iff] at hi hj
 rcases Nat.lt_trichotomy i j with h1 | h1 | h1
 ·exact (hj i h1 h).elim
 ·exact h1
 ·exact (hi j h1 h.symm).elim
theorem firsts_sorted (n : Nat) : (firsts K n).Pairwise (· < ·) := List.Pairwise.filter _ (List.pairwise_lt_range)
theorem blkN_head {n i : Nat} (hi : i < n) (hf : firstB K i = true) : (blkN K n i)[0]? = some i := by
 have hm : i ∈ blkN K n i := by simp [blkN, hi]
 have hs : (blkN K n i).Pairwise (· < ·) := List.Pairwise.filter _ (List.pairwise_lt_range)
 cases hb : blkN K n i with
 | nil => rw [hb] at hm; cases hm
 | cons x xs =>
  have hx : x ∈ blkN K n i := by rw [hb]; exact List.mem_cons_self ..
  simp only [blkN, List.mem_filter, List.mem_range, decide_eq_true_eq] at hx
  rw [hb] at hs hm
  rcases List.mem_cons.1 hm with rfl | hm
  ·rfl
  ·have := (List.pairwise_cons.1 hs).1 i hm
   exact ((firstB_iff.1 hf) x this hx.2).elim
theorem blkN_head' {n i : Nat} (hi : i < n) : ∃ j, (blkN K n i)[0]? = some j ∧ (j = i ↔ firstB K i = true) := by
 obtain ⟨j, h1, h2, h3⟩ := exists_first (K := K) (i := i)
 have e : blkN K n i = blkN K n j := by simp only [blkN, h2]
 refine ⟨j, by rw [e]; exact blkN_head (by omega) h3, ?_⟩
 constructor
 ·rintro rfl; exact h3
 ·intro h; exact first_uniq h3 h h2
theorem Bl_new {m : Nat} (hn : ∀ i, i < m → K i ≠ K m) : BlN K (m + 1) = BlN K m ++ [[m]] := by
 have hf : firstB K m = true := firstB_iff.2 hn
 have hb : blkN K (m + 1) m = [m] := by
  rw [blkN_succ, if_pos rfl]
  have : blkN K m m = [] := by
   simp only [blkN, List.filter_eq_nil_iff, List.mem_range, decide_eq_true_eq]
   exact hn
  rw [this]; rfl
 simp only [BlN, firsts_succ, if_pos hf, List.map_append, List.map_cons, List.map_nil, hb]
 congr 1
 apply List.map_congr_left
 intro i hi
 have := (mem_firsts.1 hi).1
 rw [blkN_succ, if_neg (fun e => hn i this e.symm), List.append_nil]
theorem Bl_old {m h : Nat} {F' : List Nat} (hF : firsts K m = F' ++ [h]) (hK : K h = K m) : BlN K (m + 1) = F'.map (blkN K m) ++ [blkN K m h ++ [m]] := by
 have hm : h ∈ firsts K m := by rw [hF]; simp
 obtain ⟨h1, h2⟩ := mem_firsts.1 hm
 have hf : ¬ firstB K m = true := fun hf => (firstB_iff.1 hf) h h1 hK
 simp only [BlN, firsts_succ, if_neg hf, List.append_nil, hF, List.map_append, List.map_cons, List.map_nil]
 rw [blkN_succ, if_pos hK.symm]
 congr 1
 apply List.map_congr_left
 intro i hi
 have hi' : i ∈ firsts K m := by rw [hF]; simp [hi]
 have hif := mem_firsts.1 hi'
 rw [blkN_succ, if_neg, List.append_nil]
 intro e
 have : i = h := first_uniq hif.2 h2 (e.symm.trans hK.symm)
 subst this
 have hs := firsts_sorted (K := K) m
 rw [hF, List.pairwise_append] at hs
 have := hs.2.2 i hi i (by simp)
 omega
theorem last_first {m h : Nat} {F' : List Nat} (hC : ∀ i j, i < j → j < m → K i = K m → K j = K i) (hF : firsts K m = F' ++ [h]) : K h = K m ↔ ∃ i, i < m ∧ K i = K m := by
 have hm : h ∈ firsts K m := by rw [hF]; simp
 obtain ⟨h1, h2⟩ := mem_firsts.1 hm
 constructor
 ·intro hK; exact ⟨h, h1, hK⟩
 ·rintro ⟨i, hi, hK⟩
  obtain ⟨j, g1, g2, g3⟩ := exists_first (K := K) (i := i)
  have hj : j ∈ firsts K m := mem_firsts.2 ⟨by omega, g3⟩
  rw [hF] at hj
  rcases List.mem_append.1 hj with hj | hj
  ·have hs := firsts_sorted (K := K) m
   rw [hF, List.pairwise_append] at hs
   have hlt := hs.2.2 j hj h (by simp)
   have := hC j h hlt h1 (g2.trans hK)
   exact ((firstB_iff.1 h2) j hlt this.symm).elim
  ·simp only [List.mem_singleton] at hj
   subst hj; exact g2.trans hK
end
end Go.Sep
set_option linter.unusedVariables false
set_option linter.unusedSimpArgs false
namespace Go.Proofs.Ytlcpdlngbofgcaa
open Go Go.Proofs Go.Sep
def castL (l : List Nat) : List Int := l.map fun (j : Nat) => (j : Int)
def castB (b : List (List Nat)) : List (List Int) := b.map castL
theorem castL_len (l : List Nat) : (castL l).length = l.length := by simp [castL]
theorem castB_len (b : List (List Nat)) : (castB b).length = b.length := by simp [castB]
def keyN (d : Database) (i : Nat) : Int × List Int := keyF d.relations (d.facts.getD i default)
theorem keyN_at {d : Database} {i : Nat} (h : i < d.facts.length) : keyN d i = keyF d.relations d.facts[i] := by
 simp [keyN, List.getD, h]
theorem keyN_C {d : Database} (hd : DbOK d) {m : Nat} (hm : m < d.facts.length) : ∀ i j, i < j → j < m → keyN d i = keyN d m → keyN d j = keyN d i := fun i j hij hjm h => by
 rw [keyN_at (show i < d.facts.length by omega), keyN_at hm] at h
 rw [keyN_at (show j < d.facts.length by omega), keyN_at (show i < d.facts.length by omega)]
 have h1 := sorted_le hd (j - i) i d.facts[i] d.facts[j] (List.getElem?_eq_getElem _) (by rw [show i + (j - i) = j by omega]; exact List.getElem?_eq_getElem _)
 have h2 := sorted_le hd (m - j) j d.facts[j] d.facts[m] (List.getElem?_eq_getElem _) (by rw [show j + (m - j) = m by omega]; exact List.getElem?_eq_getElem hm)
 exact keyF_between h1 h2 h
def blocksOf (d : Database) : List (List Int) := castB (BlN (keyN d) d.facts.length)
theorem BlN_len_le (K : Nat → Int × List Int) (m : Nat) : (BlN K m).length ≤ m := by
 simp only [BlN, firsts, List.length_map]
 exact Nat.le_trans (List.length_filter_le ..) (by simp)
theorem impl_blocks_eq {d : Database} (hd : DbOK d) : m_impl_blocks d = some (blocksOf d) := by
 unfold m_impl_blocks
 obtain ⟨s, h1, h2⟩ := forS_ok (xs := d.facts) (s := ([] : List (List Int))) (f := fun (t_1 : Int) (x_t_1 : Fact) (out3 : (List (List Int))) => (cond (decide (0 ≤ ((out3.length : Int) - 1))) ((getI out3 ((out3.length : Int) - 1)).bind fun v_7 => (getI v_7 0).bind fun v_12 => (getI d.facts v_12).bind fun v_17 => (m_impl_sameKey d.relations v_17 x_t_1).bind fun r_22 => some r_22) (some false)).bind fun (t36 : Bool) => cond t36 ((getI out3 ((out3.length : Int) - 1)).bind fun v_25 => (app 8 v_25 ([(t_1 : Int)] : (List Int))).bind fun us_30 => some (out3.set (((out3.length : Int) - 1)).toNat us_30)) ((app 24 out3 ([([(t_1 : Int)] : (List Int))] : (List (List Int)))).bind fun us_32 => some us_32))
  (fun m out => out = castB (BlN (keyN d) m)) rfl fun m x out hx hI => by
   have hm : m < d.facts.length := (List.getElem?_eq_some_iff.1 hx).1
   rw [List.getElem?_eq_getElem hm] at hx; cases hx
   have hfew := hd.few
   have hlen : out.length ≤ m := by rw [hI, castB_len]; exact BlN_len_le _ _
   have hnew : (∀ i, i < m → keyN d i ≠ keyN d m) → ∃ s', ((app 24 out ([([(m : Int)] : (List Int))] : (List (List Int)))).bind fun us_32 => some us_32) = some s' ∧ s' = castB (BlN (keyN d) (m + 1)) := fun hn => by
    rw [app_ok (by simp; omega)]
    refine ⟨_, rfl, ?_⟩
    rw [Bl_new hn, hI]; simp [castB, castL]
   rcases List.eq_nil_or_concat (firsts (keyN d) m) with hF | ⟨F', h, hF⟩
   ·have ho : out = [] := by rw [hI]; simp [BlN, hF, castB]
    have hn : ∀ i, i < m → keyN d i ≠ keyN d m := fun i hi _ => by
     obtain ⟨j, g1, _, g3⟩ := exists_first (K := keyN d) (i := i)
     have : j ∈ firsts (keyN d) m := mem_firsts.2 ⟨by omega, g3⟩
     rw [hF] at this; cases this
    rw [cond_F' (by simp [ho]), Option.bind_some, cond_F' rfl]
    exact hnew hn
   ·rw [List.concat_eq_append] at hF
    have hlf := last_first (keyN_C hd hm) hF
    have hh : h ∈ firsts (keyN d) m := by rw [hF]; simp
    obtain ⟨hhm, hhf⟩ := mem_firsts.1 hh
    have ho : out = castB (F'.map (blkN (keyN d) m)) ++ [castL (blkN (keyN d) m h)] := by rw [hI]; simp [BlN, hF, castB]
    have hol : (out.length : Int) - 1 = ((F'.length : Nat) : Int) := by rw [ho]; simp [castB]
    have hget : getI out ((F'.length : Nat) : Int) = some (castL (blkN (keyN d) m h)) := by
     rw [getI_nat, ho, List.getElem?_append_right (by simp [castB])]; simp [castB]
    have hhead : getI (castL (blkN (keyN d) m h)) 0 = some (h : Int) := by
     have := blkN_head hhm hhf
     rw [show (0 : Int) = ((0 : Nat) : Int) from rfl, getI_nat]; simp [castL, this]
    have hhl : h < d.facts.length := by omega
    have hsk := impl_sameKey_eq hd.rels (hd.fact h _ (List.getElem?_eq_getElem hhl)) (hd.fact m _ (List.getElem?_eq_getElem hm))
    rw [← keyN_at hhl, ← keyN_at hm] at hsk
    rw [hol, cond_T' (by simp), hget, Option.bind_some, hhead, Option.bind_some, getI_lt hhl, Option.bind_some, hsk, Option.bind_some, Option.bind_some]
    by_cases hK : keyN d h = keyN d m
    ·have hbl : (castL (blkN (keyN d) m h)).length ≤ m := by rw [castL_len]; exact Nat.le_trans (List.length_filter_le ..) (by simp)
     rw [cond_T' (by simpa using hK), Option.bind_some, app_ok (by simp; omega), Option.bind_some]
     refine ⟨_, rfl, ?_⟩
     rw [Bl_old hF hK, ho, Int.toNat_natCast, List.set_append_right _ _ (by simp [castB])]
     simp [castB, castL]
    ·rw [cond_F' (by simpa using hK)]
     exact hnew fun i hi e => hK (hlf.2 ⟨i, hi, e⟩)
 rw [h1, Option.bind_some, h2]; rfl
end Go.Proofs.Ytlcpdlngbofgcaa
set_option linter.unusedVariables false
set_option linter.unusedSimpArgs false
namespace Go.Proofs.Ytlcpdlngbofgcaa
open Go Go.Proofs Go.Sep
theorem spec_valid {u : Nat} {d : Database} (hd : DbOK d) (hs : DbS d) (hu : 1048577 < u) : m_spec_IsValidDatabase u d = some true := by
 obtain ⟨b, h1, h2⟩ := spec_IsValidDatabase_eq u d hs hu
 rw [h1, h2.2 hd]
theorem spec_BlockOf_eq {u : Nat} {d : Database} (hd : DbOK d) (hs : DbS d) (hu : 1048577 < u) {i : Nat} (hi : i < d.facts.length) : m_spec_BlockOf u d (i : Int) = some (castL (blkN (keyN d) d.facts.length i)) := by
 unfold m_spec_BlockOf m_spec_l1In
 have hfew := hd.few
 obtain ⟨o, h1, h2⟩ := while_ok (f := fun (⟨out5, k6⟩ : (List Int) × Int) => (cond (decide (k6 < (d.facts.length : Int))) ((m_spec_IsValidDatabase u d).bind fun r_5 => cond r_5 ((some ((decide (0 ≤ (i : Int))) && (decide ((i : Int) ≤ (d.facts.length : Int) - 1)))).bind fun r_9 => some r_9) (some false)) (some false)).bind fun (t24 : Bool) => cond t24 ((getI d.facts (i : Int)).bind fun v_12 => (getI d.facts k6).bind fun v_17 => (m_spec_HaveSameKey u d.relations v_12 v_17).bind fun r_22 => cond r_22 ((app 8 out5 ([k6] : (List Int))).bind fun us_25 => some (Ctl.next (R := List Int) (us_25, (w64 (k6 + 1))))) (some (.next (out5, (w64 (k6 + 1)))))) (some (.brk (out5, k6))))
  (fun (s : List Int × Int) => ∃ m : Nat, s.2 = (m : Int) ∧ m ≤ d.facts.length ∧ s.1 = castL (blkN (keyN d) m i)) (fun (s : List Int × Int) => d.facts.length - s.2.toNat) (fun (s : List Int × Int) => s.1 = castL (blkN (keyN d) d.facts.length i)) (fun (_ : List Int) => False)
  (fun ⟨out, k⟩ ⟨m, hk, hm, hI⟩ => by
   simp only at hk hI
   subst hk
   simp only [spec_valid hd hs hu, Option.bind_some, cond_true]
   by_cases h : m < d.facts.length
   ·have e : (decide (0 ≤ (i : Int)) && decide ((i : Int) ≤ (d.facts.length : Int) - 1)) = true := by simp; omega
    have hk := spec_HaveSameKey_eq (u := u) hd.rels (hd.fact i _ (List.getElem?_eq_getElem hi)) (hd.fact m _ (List.getElem?_eq_getElem h)) ⟨by have := hs.2.2.2 _ (List.getElem_mem hi); omega, by have := hs.2.2.2 _ (List.getElem_mem h); omega⟩ ⟨hs.2.2.2 _ (List.getElem_mem hi), hs.2.2.2 _ (List.getElem_mem h)⟩
    rw [← keyN_at hi, ← keyN_at h] at hk
    rw [cond_T' (by simpa using h), e, Option.bind_some, cond_T' rfl, getI_lt hi, Option.bind_some, getI_lt h, Option.bind_some, hk, Option.bind_some, w64_id (by omega)]
    have hl : out.length ≤ m := by rw [hI, castL_len]; exact Nat.le_trans (List.length_filter_le ..) (by simp)
    by_cases hK : keyN d i = keyN d m
    ·rw [cond_T' (by simpa using hK), app_ok (by simp; omega), Option.bind_some]
     refine ⟨_, rfl, ⟨m + 1, by simp, h, ?_⟩, by simp only; omega⟩
     simp only
     rw [blkN_succ, if_pos hK.symm, hI]; simp [castL]
    ·rw [cond_F' (by simpa using hK)]
     refine ⟨_, rfl, ⟨m + 1, by simp, h, ?_⟩, by simp only; omega⟩
     simp only
     rw [blkN_succ, if_neg (fun e => hK e.symm), hI, List.append_nil]
   ·rw [cond_F' (by simpa using h), Option.bind_some, cond_F' rfl]
    have e : m = d.facts.length := by omega
    exact ⟨_, rfl, by simp only [CtlP]; rw [hI, e]⟩)
  u (([] : List Int), 0) (by show d.facts.length - (0 : Int).toNat < u; omega) ⟨0, rfl, by omega, rfl⟩
 rw [h1, Option.bind_some]
 cases o with
 | inr r => exact h2.elim
 | inl s => obtain ⟨out, k⟩ := s; simp only [SumP] at h2; subst h2; rfl
theorem spec_Blocks_eq {u : Nat} {d : Database} (hd : DbOK d) (hs : DbS d) (hu : 1048577 < u) : m_spec_Blocks u d = some (blocksOf d) := by
  unfold m_spec_Blocks
  have hfew := hd.few
  obtain ⟨o, h1, h2⟩ := while_ok (f := fun (⟨out3, i4⟩ : (List (List Int)) × Int) => (cond (decide (i4 < (d.facts.length : Int))) ((m_spec_IsValidDatabase u d).bind fun r_5 => some r_5) (some false)).bind fun (t15 : Bool) => cond t15 ((m_spec_BlockOf u d i4).bind fun r_8 => (getI r_8 0).bind fun v_10 => cond (decide (v_10 = i4)) ((app 24 out3 ([r_8] : (List (List Int)))).bind fun us_16 => some (Ctl.next (R := List (List Int)) (us_16, (w64 (i4 + 1))))) (some (.next (out3, (w64 (i4 + 1)))))) (some (.brk (out3, i4))))
    (fun (s : List (List Int) × Int) => ∃ m : Nat, s.2 = (m : Int) ∧ m ≤ d.facts.length ∧ s.1 = castB ((firsts (keyN d) m).map (blkN (keyN d) d.facts.length))) (fun (s : List (List Int) × Int) => d.facts.length - s.2.toNat) (fun (s : List (List Int) × Int) => s.1 = blocksOf d) (fun (_ : List (List Int)) => False)
    (fun ⟨out, k⟩ ⟨m, hk, hm, hI⟩ => by
      simp only at hk hI
      subst hk
      simp only [spec_valid hd hs hu, Option.bind_some]
      by_cases h : m < d.facts.length
      · obtain ⟨j, g1, g2⟩ := blkN_head' (K := keyN d) h
        have hg : getI (castL (blkN (keyN d) d.facts.length m)) 0 = some (j : Int) := by
          rw [show (0 : Int) = ((0 : Nat) : Int) from rfl, getI_nat]; simp [castL, g1]
        have hl : out.length ≤ m := by
          rw [hI, castB_len, List.length_map]; exact Nat.le_trans (List.length_filter_le ..) (by simp)
        rw [cond_T' (by simpa using h), Option.bind_some, cond_T' rfl, spec_BlockOf_eq hd hs hu h, Option.bind_some, hg, Option.bind_some, w64_id (by omega)]
        by_cases hf : firstB (keyN d) m = true
        · rw [cond_T' (by have := g2.2 hf; simp; omega), app_ok (by simp; omega), Option.bind_some]
          refine ⟨_, rfl, ⟨m + 1, by simp, h, ?_⟩, by simp only; omega⟩
          simp only
          rw [firsts_succ, if_pos hf, hI]; simp [castB]
        · rw [cond_F' (by have : ¬ j = m := fun e => hf (g2.1 e)
                          simp; omega)]
          refine ⟨_, rfl, ⟨m + 1, by simp, h, ?_⟩, by simp only; omega⟩
          simp only
          rw [firsts_succ, if_neg hf, hI, List.append_nil]
      · rw [cond_F' (by simpa using h), Option.bind_some, cond_F' rfl]
        have e : m = d.facts.length := by omega
        exact ⟨_, rfl, by simp only [CtlP]; rw [hI, e]; rfl⟩)
    u (([] : List (List Int)), 0) (by show d.facts.length - (0 : Int).toNat < u; omega) ⟨0, rfl, by omega, rfl⟩
  rw [h1, Option.bind_some]
  cases o with
  | inr r => exact h2.elim
  | inl s => obtain ⟨out, k⟩ := s; simp only [SumP] at h2; subst h2; rfl
end Go.Proofs.Ytlcpdlngbofgcaa
set_option linter.unusedVariables false
set_option linter.unusedSimpArgs false
namespace Go.Proofs.Ytlcpdlngbofgcaa
open Go Go.Proofs Go.Sep
theorem mem_blocksOf {d : Database} {b : List Int} (hb : b ∈ blocksOf d) : ∃ i, i < d.facts.length ∧ firstB (keyN d) i = true ∧ b = castL (blkN (keyN d) d.facts.length i) := by
 simp only [blocksOf, castB, BlN, List.map_map, List.mem_map] at hb
 obtain ⟨i, hi, rfl⟩ := hb
 obtain ⟨h1, h2⟩ := mem_firsts.1 hi
 exact ⟨i, h1, h2, rfl⟩
theorem blocksOf_ne {d : Database} : ∀ b ∈ blocksOf d, b ≠ [] := fun b hb e => by
 obtain ⟨i, h1, h2, rfl⟩ := mem_blocksOf hb
 have := blkN_head h1 h2
 cases hc : blkN (keyN d) d.facts.length i with
 | nil => rw [hc] at this; cases this
 | cons x xs => rw [hc] at e; simp [castL] at e
theorem blocksOf_mem {d : Database} {b : List Int} (hb : b ∈ blocksOf d) {x : Int} (hx : x ∈ b) : ∃ (i j : Nat), i < d.facts.length ∧ j < d.facts.length ∧ x = (j : Int) ∧ b[0]? = some (i : Int) ∧ keyN d j = keyN d i := by
 obtain ⟨i, h1, h2, rfl⟩ := mem_blocksOf hb
 simp only [castL, List.mem_map] at hx
 obtain ⟨j, hj, rfl⟩ := hx
 simp only [blkN, List.mem_filter, List.mem_range, decide_eq_true_eq] at hj
 exact ⟨i, j, h1, hj.1, rfl, by simp [castL, blkN_head h1 h2], hj.2⟩
theorem sum_blk {κ : Type} [DecidableEq κ] {K : Nat → κ} : ∀ n : Nat, ((BlN K n).map List.length).sum = n
 | 0 => rfl
 | n + 1 => by
  have ih := sum_blk (K := K) n
  have key : ∀ F : List Nat, F.Nodup → (∀ i ∈ F, firstB K i = true) → ((F.map (blkN K (n + 1))).map List.length).sum = ((F.map (blkN K n)).map List.length).sum + (F.filter fun i => decide (K n = K i)).length := fun F => by
   induction F with
   | nil => intro _ _; rfl
   | cons i F ihF =>
    intro hnd hf
    have := ihF (List.nodup_cons.1 hnd).2 fun j hj => hf j (List.mem_cons_of_mem _ hj)
    simp only [List.map_cons, List.sum_cons, this, blkN_succ, List.length_append, List.filter_cons]
    by_cases e : K n = K i
    ·simp [e]; omega
    ·simp [e]; omega
  have hnd : (firsts K n).Nodup := (firsts_sorted (K := K) n).imp fun h => Nat.ne_of_lt h
  have h1 := key (firsts K n) hnd fun i hi => (mem_firsts.1 hi).2
  have e0 : ((firsts K n).map (blkN K n)).map List.length = (BlN K n).map List.length := rfl
  rw [e0, ih] at h1
  simp only [BlN, firsts_succ, List.map_append, List.sum_append, h1]
  obtain ⟨j, g1, g2, g3⟩ := exists_first (K := K) (i := n)
  by_cases hf : firstB K n = true
  ·have hz : ((firsts K n).filter fun i => decide (K n = K i)) = [] := by
    rw [List.filter_eq_nil_iff]
    intro i hi
    have := mem_firsts.1 hi
    simp only [decide_eq_true_eq]
    intro e
    exact (firstB_iff.1 hf) i this.1 e.symm
   have hb : blkN K n n = [] := by
    simp only [blkN, List.filter_eq_nil_iff, List.mem_range, decide_eq_true_eq]
    exact firstB_iff.1 hf
   rw [hz, if_pos hf]
   simp [blkN_succ, hb]
  ·rw [if_neg hf]
   have hjn : j < n := by
    rcases Nat.lt_or_ge j n with h | h
    ·exact h
    ·have : j = n := by omega
     subst this; exact (hf g3).elim
   have hj : j ∈ firsts K n := mem_firsts.2 ⟨hjn, g3⟩
   have hz : ((firsts K n).filter fun i => decide (K n = K i)).length = 1 := by
    have hsub : ∀ i ∈ (firsts K n).filter (fun i => decide (K n = K i)), i = j := fun i hi => by
     simp only [List.mem_filter, decide_eq_true_eq] at hi
     exact first_uniq (mem_firsts.1 hi.1).2 g3 (hi.2.symm.trans g2.symm)
    have hm : j ∈ (firsts K n).filter (fun i => decide (K n = K i)) := by simp [hj, g2]
    have hnd2 : ((firsts K n).filter fun i => decide (K n = K i)).Nodup := hnd.filter _
    generalize (firsts K n).filter (fun i => decide (K n = K i)) = L at hsub hm hnd2
    cases L with
    | nil => cases hm
    | cons a L =>
     cases L with
     | nil => rfl
     | cons b L =>
      have ha := hsub a (by simp)
      have hb := hsub b (by simp)
      rw [ha, hb] at hnd2
      simp at hnd2
   rw [hz]; simp
theorem blocksOf_sum (d : Database) : ((blocksOf d).map List.length).sum = d.facts.length := by
 have := sum_blk (K := keyN d) d.facts.length
 rw [← this]
 simp only [blocksOf, castB, List.map_map]
 congr 1
 apply List.map_congr_left
 intro b _
 simp [castL_len]
theorem blocksOf_len (d : Database) : (blocksOf d).length ≤ d.facts.length := by
 rw [blocksOf, castB_len]; exact BlN_len_le _ _
end Go.Proofs.Ytlcpdlngbofgcaa
set_option linter.unusedVariables false
set_option linter.unusedSimpArgs false
namespace Go.Proofs.Ytlcpdlngbofgcaa
open Go Go.Proofs Go.Sep
def ColOK (d : Database) (r c : Int) : Prop := DbOK d ∧ ∃ (n : Nat) (rel : Relation), r = n ∧ d.relations[n]? = some rel ∧ 0 ≤ c ∧ c ≤ w64 (rel.arity - 1)
theorem col_tail (d : Database) (r c : Int) (b : Bool) (hb : b = true ↔ DbOK d) : ∃ t, (cond b ((some ((decide (0 ≤ r)) && (decide (r ≤ (d.relations.length : Int) - 1)))).bind fun r_7 => cond r_7 ((getI d.relations r).bind fun v_10 => (some ((decide (0 ≤ c)) && (decide (c ≤ w64 (v_10.arity - 1))))).bind fun r_15 => some r_15) (some false)) (some false)) = some t ∧ (t = true ↔ ColOK d r c) := by
 cases b with
 | false => exact ⟨false, rfl, by simp; intro h; simp at hb; exact hb h.1⟩
 | true =>
  have hd : DbOK d := hb.1 rfl
  rw [cond_T' rfl, Option.bind_some]
  by_cases h : 0 ≤ r ∧ r ≤ (d.relations.length : Int) - 1
  ·rw [cond_T' (by simp [h])]
   obtain ⟨n, hn⟩ : ∃ n : Nat, r = n := ⟨r.toNat, by omega⟩
   have hnl : n < d.relations.length := by omega
   rw [hn, getI_lt hnl, Option.bind_some, Option.bind_some]
   refine ⟨_, rfl, ?_⟩
   simp only [Bool.and_eq_true, decide_eq_true_eq]
   constructor
   ·intro hc; exact ⟨hd, n, _, rfl, List.getElem?_eq_getElem hnl, hc.1, hc.2⟩
   ·rintro ⟨_, n', rel, h1, h2, h3, h4⟩
    have : n' = n := by omega
    subst this
    rw [List.getElem?_eq_getElem hnl] at h2; cases h2
    exact ⟨h3, h4⟩
  ·rw [cond_F' (by simp; omega)]
   refine ⟨false, rfl, by simp; rintro ⟨_, n', rel, h1, h2, _⟩; have := (List.getElem?_eq_some_iff.1 h2).1; omega⟩
theorem isColumn_eq (d : Database) (r c : Int) : ∃ b, m_impl_isColumn d r c = some b ∧ (b = true ↔ ColOK d r c) := by
 obtain ⟨b, h1, h2⟩ := impl_IsValidDatabase_eq d
 obtain ⟨t, h3, h4⟩ := col_tail d r c b h2
 unfold m_impl_isColumn m_impl_within
 rw [h1, Option.bind_some]
 exact ⟨t, by rw [h3]; rfl, h4⟩
theorem l27Ok_eq (u : Nat) (d : Database) (hd : DbS d) (hu : 1048577 < u) (r c : Int) : ∃ b, m_spec_l27Ok u d r c = some b ∧ (b = true ↔ ColOK d r c) := by
 obtain ⟨b, h1, h2⟩ := spec_IsValidDatabase_eq u d hd hu
 obtain ⟨t, h3, h4⟩ := col_tail d r c b h2
 unfold m_spec_l27Ok m_spec_l1In
 rw [h1, Option.bind_some]
 exact ⟨t, by rw [h3]; rfl, h4⟩
def pickV (d : Database) (r c : Int) (x : Int) : List Int := match d.facts[x.toNat]? with
 | some f => if f.relation = r then (match f.values[c.toNat]? with | some v => [v] | none => []) else []
 | none => []
theorem val_at {d : Database} {r c : Int} (hok : ColOK d r c) {x : Int} {f : Fact} (hf : getI d.facts x = some f) (hr : f.relation = r) (hs : f.values.length ≤ 1048576) : ∃ v, getI f.values c = some v ∧ pickV d r c x = [v] := by
 obtain ⟨m, rfl, hm⟩ := getI_inv hf
 obtain ⟨hd, n, rel, h1, h2, h3, h4⟩ := hok
 obtain ⟨n', rel', g1, g2, g3, g4⟩ := hd.fact m f hm
 have : n' = n := by omega
 subst this
 rw [h2] at g2; cases g2
 rw [w64_id (by omega)] at h4
 obtain ⟨k, rfl⟩ : ∃ k : Nat, c = k := ⟨c.toNat, by omega⟩
 have hk : k < f.values.length := by omega
 refine ⟨f.values[k], getI_lt hk, ?_⟩
 simp only [pickV, Int.toNat_natCast, hm, if_pos hr, List.getElem?_eq_getElem hk]
theorem columnOf_eq {d : Database} {r c : Int} (hok : ColOK d r c) (hd : DbS d) (l : List Int) (hl : l.length ≤ 1048576) (hx : ∀ x ∈ l, 0 ≤ x ∧ x < (d.facts.length : Int)) : m_impl_columnOf d l r c = some (l.flatMap (pickV d r c)) := by
 unfold m_impl_columnOf
 obtain ⟨s, h1, h2⟩ := forS_ok (xs := l) (s := ([] : List Int)) (f := fun (t_1 : Int) (x_t_1 : Int) (out9 : (List Int)) => (getI d.facts x_t_1).bind fun v_3 => cond (decide (v_3.relation = r)) ((getI v_3.values c).bind fun v_9 => (app 8 out9 ([v_9] : (List Int))).bind fun us_14 => some us_14) (some out9))
  (fun n s => s.length ≤ n ∧ s = (l.take n).flatMap (pickV d r c)) ⟨by simp, rfl⟩ fun n x s hx' ⟨hs, hI⟩ => by
   have hn : n < l.length := (List.getElem?_eq_some_iff.1 hx').1
   have hb := hx x (List.mem_of_getElem? hx')
   obtain ⟨m, rfl⟩ : ∃ m : Nat, x = m := ⟨x.toNat, by omega⟩
   have hm : m < d.facts.length := by omega
   have hg : getI d.facts (m : Int) = some d.facts[m] := getI_lt hm
   have hv := hd.2.2.2 _ (List.getElem_mem hm)
   rw [hg, Option.bind_some, List.take_add_one, hx']
   by_cases hr : d.facts[m].relation = r
   ·obtain ⟨v, h3, h4⟩ := val_at hok hg hr hv
    rw [cond_T' (by simpa using hr), h3, Option.bind_some, app_ok (by simp; omega), Option.bind_some]
    exact ⟨_, rfl, by simp; omega, by simp [h4, hI]⟩
   ·rw [cond_F' (by simpa using hr)]
    refine ⟨_, rfl, by omega, ?_⟩
    have : pickV d r c m = [] := by simp only [pickV, Int.toNat_natCast, List.getElem?_eq_getElem hm, if_neg hr]
    simp [this, hI]
 rw [h1, Option.bind_some, h2.2, List.take_length]
end Go.Proofs.Ytlcpdlngbofgcaa
set_option linter.unusedVariables false
set_option linter.unusedSimpArgs false
namespace Go.Proofs.Ytlcpdlngbofgcaa
open Go Go.Proofs Go.Sep
def valF (d : Database) (c : Int) (x : Int) : Int := (d.facts.getD x.toNat default).values.getD c.toNat 0
def relF (d : Database) (x : Int) : Int := (d.facts.getD x.toNat default).relation
theorem valF_at {d : Database} {r c : Int} (hok : ColOK d r c) {j : Nat} (hj : j < d.facts.length) (hr : d.facts[j].relation = r) (hs : d.facts[j].values.length ≤ 1048576) : getI d.facts[j].values c = some (valF d c (j : Int)) ∧ pickV d r c (j : Int) = [valF d c (j : Int)] ∧ 0 ≤ valF d c (j : Int) ∧ valF d c (j : Int) ≤ 9 := by
 obtain ⟨v, h1, h2⟩ := val_at hok (x := (j : Int)) (getI_lt hj) hr hs
 obtain ⟨n, hc, hv⟩ := getI_inv h1
 have e : valF d c (j : Int) = v := by
  subst hc
  simp [valF, List.getD, hj, hv]
 rw [e]
 obtain ⟨_, _, _, _, _, h5⟩ := hok.1.fact j _ (List.getElem?_eq_getElem hj)
 exact ⟨h1, h2, h5 v (List.mem_of_getElem? hv)⟩
theorem relF_at {d : Database} {j : Nat} (hj : j < d.facts.length) : relF d (j : Int) = d.facts[j].relation := by
 simp [relF, List.getD, hj]
def valsOf (d : Database) (r c : Int) : List (List Int) := ((blocksOf d).filter fun b => decide (relF d (b.headD 0) = r)).map fun b => b.map (valF d c)
theorem l27Vals_eq {u : Nat} {d : Database} {r c : Int} (hok : ColOK d r c) (hs : DbS d) (hu : 1048577 < u) : m_spec_l27Vals u d r c = some (valsOf d r c) := by
 unfold m_spec_l27Vals
 rw [spec_Blocks_eq hok.1 hs hu, Option.bind_some]
 have hfew := hok.1.few
 have hbl := blocksOf_len d
 obtain ⟨s, h1, h2⟩ := forS_ok (xs := blocksOf d) (s := ([] : List (List Int))) (f := fun (i_3 : Int) (x_i_3 : (List Int)) (out7 : (List (List Int))) => (getI x_i_3 0).bind fun v_5 => (getI d.facts v_5).bind fun v_10 => cond (decide (v_10.relation ≠ r)) (some out7) ((whileF (R := (List (List Int))) (fun (⟨l10, k11⟩ : (List Int) × Int) => cond (decide (k11 < (x_i_3.length : Int))) ((getI x_i_3 k11).bind fun v_18 => (getI d.facts v_18).bind fun v_23 => (getI v_23.values c).bind fun v_28 => (app 8 l10 ([v_28] : (List Int))).bind fun us_33 => some (.next (us_33, (w64 (k11 + 1))))) (some (.brk (l10, k11)))) u (([] : (List Int)), 0)).bind fun O16_ => onS O16_ (fun (⟨l10, k11⟩ : (List Int) × Int) => (app 24 out7 ([l10] : (List (List Int)))).bind fun us_35 => some us_35) (fun r => none)))
  (fun n s => s = (((blocksOf d).take n).filter fun b => decide (relF d (b.headD 0) = r)).map fun b => b.map (valF d c)) rfl fun n b out hx hI => by
   have hb := List.mem_of_getElem? hx
   have hn : n < (blocksOf d).length := (List.getElem?_eq_some_iff.1 hx).1
   obtain ⟨x0, hx0⟩ : ∃ x0, x0 ∈ b := List.exists_mem_of_ne_nil b (blocksOf_ne b hb)
   obtain ⟨i, _, hi, _, _, hh, _⟩ := blocksOf_mem hb hx0
   have hhd : b.headD 0 = (i : Int) := by cases b with | nil => cases hx0 | cons y ys => simpa using hh
   have hlo : out.length ≤ n := by rw [hI, List.length_map]; exact Nat.le_trans (List.length_filter_le ..) (by simp; omega)
   have hbl2 : b.length ≤ 14 := by
    obtain ⟨i', _, _, rfl⟩ := mem_blocksOf hb
    rw [castL_len]; exact Nat.le_trans (List.length_filter_le ..) (by simp; omega)
   have hz : getI b 0 = b[0]? := getI_nat b 0
   rw [hz, hh, Option.bind_some, getI_lt hi, Option.bind_some, List.take_add_one, hx]
   by_cases hr : d.facts[i].relation = r
   ·rw [cond_F' (by simp [hr])]
    obtain ⟨o, h3, h4⟩ := while_ok (f := fun (⟨l10, k11⟩ : (List Int) × Int) => cond (decide (k11 < (b.length : Int))) ((getI b k11).bind fun v_18 => (getI d.facts v_18).bind fun v_23 => (getI v_23.values c).bind fun v_28 => (app 8 l10 ([v_28] : (List Int))).bind fun us_33 => some (Ctl.next (R := List (List Int)) (us_33, (w64 (k11 + 1))))) (some (.brk (l10, k11))))
     (fun (s : List Int × Int) => ∃ m : Nat, s.2 = (m : Int) ∧ m ≤ b.length ∧ s.1 = (b.take m).map (valF d c)) (fun (s : List Int × Int) => b.length - s.2.toNat) (fun (s : List Int × Int) => s.1 = b.map (valF d c)) (fun (_ : List (List Int)) => False)
     (fun ⟨l, k⟩ ⟨m, hk, hm, hl⟩ => by
      simp only at hk hl
      subst hk
      by_cases h : m < b.length
      ·obtain ⟨i', j, _, hj, hxj, hh', hkj⟩ := blocksOf_mem hb (List.getElem_mem h)
       have h9 : (i' : Int) = (i : Int) := by rw [hh] at hh'; simpa using hh'.symm
       have : i' = i := by omega
       subst this
       rw [keyN_at hj, keyN_at hi] at hkj
       have hrj : d.facts[j].relation = r := (congrArg Prod.fst hkj).trans hr
       have hv := valF_at hok hj hrj (hs.2.2.2 _ (List.getElem_mem hj))
       have hll : l.length ≤ m := by rw [hl]; simp; omega
       simp only
       rw [cond_T' (by simpa using h), getI_lt h, Option.bind_some, hxj, getI_lt hj, Option.bind_some, hv.1, Option.bind_some, app_ok (by simp; omega), Option.bind_some, w64_id (by omega)]
       refine ⟨_, rfl, ⟨m + 1, by simp, h, ?_⟩, by simp only; omega⟩
       simp only
       rw [List.take_add_one, List.getElem?_eq_getElem h, hl, hxj]; simp
      ·simp only
       rw [cond_F' (by simpa using h)]
       have e : m = b.length := by omega
       exact ⟨_, rfl, by simp only [CtlP]; rw [hl, e, List.take_length]⟩)
     u (([] : List Int), 0) (by show b.length - (0 : Int).toNat < u; omega) ⟨0, rfl, by omega, rfl⟩
    rw [h3, Option.bind_some]
    cases o with
    | inr q => exact h4.elim
    | inl q =>
     obtain ⟨l, k⟩ := q
     simp only [SumP] at h4
     subst h4
     simp only [onS]
     rw [app_ok (by simp; omega)]
     refine ⟨_, rfl, ?_⟩
     have hp : decide (relF d (b.headD 0) = r) = true := by rw [hhd, relF_at hi]; simpa using hr
     have hf : (Option.toList (some b)).filter (fun b => decide (relF d (b.headD 0) = r)) = [b] := by
      show List.filter _ [b] = [b]
      simp only [List.filter, hp]
     rw [List.filter_append, List.map_append, hf, hI]; rfl
   ·rw [cond_T' (by simpa using hr)]
    refine ⟨_, rfl, ?_⟩
    have hp : decide (relF d (b.headD 0) = r) = false := by rw [hhd, relF_at hi]; simpa using hr
    have hf : (Option.toList (some b)).filter (fun b => decide (relF d (b.headD 0) = r)) = [] := by
     show List.filter _ [b] = []
     simp only [List.filter, hp]
    rw [List.filter_append, List.map_append, hf, hI]; simp
 rw [h1, Option.bind_some, h2, List.take_length]; rfl
end Go.Proofs.Ytlcpdlngbofgcaa
set_option linter.unusedVariables false
set_option linter.unusedSimpArgs false
namespace Go.Proofs.Ytlcpdlngbofgcaa
open Go Go.Proofs Go.Sep
theorem Choice.mem : ∀ {bs : List (List Int)} {c : List Int}, Choice bs c → ∀ x ∈ c, ∃ b ∈ bs, x ∈ b
 | [], [], _, x, hx => by cases hx
 | [], _ :: _, h, x, hx => h.elim
 | _ :: _, [], h, x, hx => h.elim
 | b :: bs, y :: ys, h, x, hx => by
  rcases List.mem_cons.1 hx with rfl | hx
  ·exact ⟨b, List.mem_cons_self .., h.1⟩
  ·obtain ⟨b', h1, h2⟩ := Choice.mem h.2 x hx
   exact ⟨b', List.mem_cons_of_mem _ h1, h2⟩
theorem choice_column {d : Database} {r c : Int} (hok : ColOK d r c) (hs : DbS d) {ch : List Int} (hc : Choice (blocksOf d) ch) : m_impl_columnOf d ch r c = some (ch.flatMap (pickV d r c)) := by
 have hl := hc.len
 have hb := blocksOf_len d
 have := hok.1.few
 refine columnOf_eq hok hs ch (by omega) fun x hx => ?_
 obtain ⟨b, h1, h2⟩ := hc.mem x hx
 obtain ⟨_, j, _, hj, rfl, _⟩ := blocksOf_mem h1 h2
 omega
theorem columnRange_ok {u : Nat} {d : Database} {r c : Int} (hok : ColOK d r c) (hs : DbS d) (hu : 1048577 < u) {agg : List Int → Option Int} (ag : List Int → Int) (hag : ∀ ch, Choice (blocksOf d) ch → agg (ch.flatMap (pickV d r c)) = some (ag (ch.flatMap (pickV d r c)))) :
  ∃ lo hi, m_impl_columnRange u d r c false agg = some (lo, hi, true) ∧ Ends (blocksOf d) (fun ch => ag (ch.flatMap (pickV d r c))) lo hi := by
 have hfew := hok.1.few
 obtain ⟨lo, hi, h1, h2⟩ := rangeOf_eq u d (blocksOf d) (impl_blocks_eq hok.1) blocksOf_ne (by rw [blocksOf_sum]; exact hfew) (Nat.le_trans (blocksOf_len d) hfew) (by omega) (agg := fun x0 => m_impl_columnRange_2 x0 agg d r c) (fun ch => ag (ch.flatMap (pickV d r c))) fun ch hc => by
  simp only [m_impl_columnRange_2]
  rw [choice_column hok hs hc, Option.bind_some, hag ch hc]; rfl
 refine ⟨lo, hi, ?_, h2⟩
 obtain ⟨b, h3, h4⟩ := isColumn_eq d r c
 have hb : b = true := h4.2 hok
 subst hb
 unfold m_impl_columnRange
 rw [h3, Option.bind_some]
 simp only [Bool.not_true, cond_false, Option.bind_some]
 rw [h1]; rfl
theorem columnRange_no {u : Nat} {d : Database} {r c : Int} (hno : ¬ ColOK d r c) {ne : Bool} {agg : List Int → Option Int} : m_impl_columnRange u d r c ne agg = some (0, 0, false) := by
 obtain ⟨b, h3, h4⟩ := isColumn_eq d r c
 have hb : b = false := by cases b with | false => rfl | true => exact (hno (h4.1 rfl)).elim
 subst hb
 unfold m_impl_columnRange
 rw [h3, Option.bind_some]; rfl
end Go.Proofs.Ytlcpdlngbofgcaa
set_option linter.unusedVariables false
set_option linter.unusedSimpArgs false
namespace Go.Proofs.Ytlcpdlngbofgcaa
open Go Go.Proofs Go.Sep
end Go.Proofs.Ytlcpdlngbofgcaa
set_option linter.unusedVariables false
set_option linter.unusedSimpArgs false
namespace Go.Proofs.Ytlcpdlngbofgcaa
open Go Go.Proofs Go.Sep
theorem sum_lo (w mn : List Int → Int) (v : Int → Int) : ∀ {bs : List (List Int)}, (∀ b ∈ bs, (∃ x ∈ b, v x = mn b) ∧ ∀ x ∈ b, mn b ≤ v x) → (∃ c, Choice bs c ∧ (c.map v).sum = (bs.map mn).sum) ∧ ∀ c, Choice bs c → (bs.map mn).sum ≤ (c.map v).sum
 | [], _ => ⟨⟨[], trivial, rfl⟩, fun c hc => by cases c with | nil => exact Int.le_refl _ | cons => exact hc.elim⟩
 | b :: bs, h => by
  obtain ⟨⟨c, h1, h2⟩, h3⟩ := sum_lo w mn v (bs := bs) fun b' hb' => h b' (List.mem_cons_of_mem _ hb')
  obtain ⟨⟨x, hx, hv⟩, hb⟩ := h b (List.mem_cons_self ..)
  refine ⟨⟨x :: c, ⟨hx, h1⟩, by simp [hv, h2]⟩, fun c' hc' => ?_⟩
  cases c' with
  | nil => exact hc'.elim
  | cons y ys =>
   have := hb y hc'.1
   have := h3 ys hc'.2
   simp only [List.map_cons, List.sum_cons]; omega
theorem sum_hi (mx : List Int → Int) (v : Int → Int) : ∀ {bs : List (List Int)}, (∀ b ∈ bs, (∃ x ∈ b, v x = mx b) ∧ ∀ x ∈ b, v x ≤ mx b) → (∃ c, Choice bs c ∧ (c.map v).sum = (bs.map mx).sum) ∧ ∀ c, Choice bs c → (c.map v).sum ≤ (bs.map mx).sum
 | [], _ => ⟨⟨[], trivial, rfl⟩, fun c hc => by cases c with | nil => exact Int.le_refl _ | cons => exact hc.elim⟩
 | b :: bs, h => by
  obtain ⟨⟨c, h1, h2⟩, h3⟩ := sum_hi mx v (bs := bs) fun b' hb' => h b' (List.mem_cons_of_mem _ hb')
  obtain ⟨⟨x, hx, hv⟩, hb⟩ := h b (List.mem_cons_self ..)
  refine ⟨⟨x :: c, ⟨hx, h1⟩, by simp [hv, h2]⟩, fun c' hc' => ?_⟩
  cases c' with
  | nil => exact hc'.elim
  | cons y ys =>
   have := hb y hc'.1
   have := h3 ys hc'.2
   simp only [List.map_cons, List.sum_cons]; omega
theorem sum_ends {bs : List (List Int)} (v : Int → Int) (mn mx : List Int → Int) (h1 : ∀ b ∈ bs, (∃ x ∈ b, v x = mn b) ∧ ∀ x ∈ b, mn b ≤ v x) (h2 : ∀ b ∈ bs, (∃ x ∈ b, v x = mx b) ∧ ∀ x ∈ b, v x ≤ mx b) : Ends bs (fun c => (c.map v).sum) (bs.map mn).sum (bs.map mx).sum :=
 ⟨(sum_lo mn mn v h1).1, (sum_lo mn mn v h1).2, (sum_hi mx v h2).1, (sum_hi mx v h2).2⟩
end Go.Proofs.Ytlcpdlngbofgcaa
set_option linter.unusedVariables false
set_option linter.unusedSimpArgs false
namespace Go.Proofs.Ytlcpdlngbofgcaa
open Go Go.Proofs Go.Sep
theorem block_pick {d : Database} {r c : Int} (hok : ColOK d r c) (hs : DbS d) {b : List Int} (hb : b ∈ blocksOf d) :
  (relF d (b.headD 0) = r → ∀ x ∈ b, pickV d r c x = [valF d c x] ∧ 0 ≤ valF d c x ∧ valF d c x ≤ 9) ∧ (relF d (b.headD 0) ≠ r → ∀ x ∈ b, pickV d r c x = []) := by
 have key : ∀ x ∈ b, ∃ j : Nat, ∃ hj : j < d.facts.length, x = (j : Int) ∧ d.facts[j].relation = relF d (b.headD 0) := fun x hx => by
  obtain ⟨i, j, hi, hj, rfl, hh, hk⟩ := blocksOf_mem hb hx
  have hhd : b.headD 0 = (i : Int) := by cases b with | nil => cases hx | cons y ys => simpa using hh
  rw [keyN_at hj, keyN_at hi] at hk
  exact ⟨j, hj, rfl, by rw [hhd, relF_at hi]; exact congrArg Prod.fst hk⟩
 refine ⟨fun hr x hx => ?_, fun hr x hx => ?_⟩
 ·obtain ⟨j, hj, rfl, he⟩ := key x hx
  have := valF_at hok hj (he.trans hr) (hs.2.2.2 _ (List.getElem_mem hj))
  exact this.2
 ·obtain ⟨j, hj, rfl, he⟩ := key x hx
  have : d.facts[j].relation ≠ r := fun e => hr (he.symm.trans e)
  simp only [pickV, Int.toNat_natCast, List.getElem?_eq_getElem hj, if_neg this]
theorem pick_small {d : Database} {r c : Int} (hok : ColOK d r c) (hs : DbS d) {ch : List Int} (hc : Choice (blocksOf d) ch) : (∀ x ∈ ch.flatMap (pickV d r c), 0 ≤ x ∧ x ≤ 9) ∧ (ch.flatMap (pickV d r c)).length ≤ 14 := by
 have hone : ∀ x ∈ ch, (pickV d r c x).length ≤ 1 ∧ ∀ y ∈ pickV d r c x, 0 ≤ y ∧ y ≤ 9 := fun x hx => by
  obtain ⟨b, h1, h2⟩ := hc.mem x hx
  have h3 := block_pick hok hs h1
  by_cases hr : relF d (b.headD 0) = r
  ·have := h3.1 hr x h2
   rw [this.1]; exact ⟨by simp, fun y hy => by simp at hy; subst hy; exact this.2⟩
  ·rw [h3.2 hr x h2]; exact ⟨by simp, fun y hy => by cases hy⟩
 refine ⟨fun x hx => ?_, ?_⟩
 ·obtain ⟨y, h1, h2⟩ := List.mem_flatMap.1 hx
  exact (hone y h1).2 x h2
 ·have hl := hc.len
  have h1 := blocksOf_len d
  have h2 := hok.1.few
  have : ∀ {l : List Int}, (∀ x ∈ l, (pickV d r c x).length ≤ 1) → (l.flatMap (pickV d r c)).length ≤ l.length := fun {l} => by
   induction l with
   | nil => intro _; simp
   | cons x l ih =>
    intro h
    have h1 := h x (List.mem_cons_self ..)
    have h2 := ih fun y hy => h y (List.mem_cons_of_mem _ hy)
    simp only [List.flatMap_cons, List.length_append, List.length_cons]; omega
  have := this (l := ch) fun x hx => (hone x hx).1
  omega
end Go.Proofs.Ytlcpdlngbofgcaa
set_option linter.unusedVariables false
set_option linter.unusedSimpArgs false
namespace Go.Proofs.Ytlcpdlngbofgcaa
open Go Go.Proofs Go.Sep
theorem sum_filter (p : List Int → Bool) (f : List Int → Int) : ∀ L : List (List Int), ((L.filter p).map f).sum = (L.map fun b => if p b = true then f b else 0).sum
 | [] => rfl
 | b :: L => by
  have ih := sum_filter p f L
  simp only [List.filter_cons, List.map_cons, List.sum_cons]
  by_cases h : p b = true
  ·simp [h, ih]
  ·simp [h, ih]
end Go.Proofs.Ytlcpdlngbofgcaa
set_option linter.unusedVariables false
set_option linter.unusedSimpArgs false
namespace Go.Proofs.Ytlcpdlngbofgcaa
open Go Go.Proofs Go.Sep
theorem Ends.congr {bs : List (List Int)} {ag ag' : List Int → Int} {lo hi : Int} (h : Ends bs ag lo hi) (e : ∀ c, Choice bs c → ag c = ag' c) : Ends bs ag' lo hi := by
 obtain ⟨c1, a1, b1⟩ := h.lo_at
 obtain ⟨c2, a2, b2⟩ := h.hi_at
 exact ⟨⟨c1, a1, by rw [← e c1 a1]; exact b1⟩, fun c hc => by rw [← e c hc]; exact h.lo_le c hc, ⟨c2, a2, by rw [← e c2 a2]; exact b2⟩, fun c hc => by rw [← e c hc]; exact h.hi_ge c hc⟩
def isR (d : Database) (r : Int) (b : List Int) : Bool := decide (relF d (b.headD 0) = r)
end Go.Proofs.Ytlcpdlngbofgcaa
set_option linter.unusedVariables false
set_option linter.unusedSimpArgs false
namespace Go.Proofs.Ytlcpdlngbofgcaa
open Go Go.Proofs Go.Sep
def relB (d : Database) (r : Int) : List (List Int) := (blocksOf d).filter fun b => isR d r b
theorem valsOf_relB (d : Database) (r c : Int) : valsOf d r c = (relB d r).map fun b => b.map (valF d c) := rfl
theorem mem_relB {d : Database} {r : Int} {b : List Int} : b ∈ relB d r ↔ b ∈ blocksOf d ∧ relF d (b.headD 0) = r := by simp [relB, isR]
end Go.Proofs.Ytlcpdlngbofgcaa
set_option linter.unusedVariables false
set_option linter.unusedSimpArgs false
namespace Go.Proofs.Ytlcpdlngbofgcaa
open Go Go.Proofs Go.Sep
theorem index_eq (l : List Int) (v : Int) : ∃ z, m_slices_Index_Sint_int l v = some z ∧ decide (0 ≤ z) = l.contains v := by
  unfold m_slices_Index_Sint_int
  refine Ok.forL (fun n _ => ∀ (j : Nat) x, j < n → l[j]? = some x → x ≠ v) (fun _ => False) (fun z => 0 ≤ z ∧ v ∈ l) (fun j x hj => by omega) (fun n x s hx hI => ?_) (fun s hs => ?_) (fun z hz => .ret ?_)
  · first
    | (refine .cond (fun h => .out ⟨by omega, ?_⟩) fun h => .next fun j y hj hy => ?_
       · have : v = x := by simpa using h
         rw [this]; exact List.mem_of_getElem? hx
       · by_cases e : j = n
         · subst e; rw [hx] at hy; cases hy; intro e2; subst e2; simp at h
         · exact hI j y (by omega) hy)
  · refine .ret ?_
    have h := hs.resolve_right id
    have : l.contains v = false := by
      rw [← Bool.not_eq_true, List.contains_iff_mem]
      intro hm
      obtain ⟨j, hj⟩ := List.getElem?_of_mem hm
      exact h j v (List.getElem?_eq_some_iff.1 hj).1 hj rfl
    rw [this]; rfl
  · have : l.contains v = true := by rw [List.contains_iff_mem]; exact hz.2
    rw [this]; simpa using hz.1
theorem contains_eq (l : List Int) (v : Int) : m_slices_Contains_Sint_int l v = some (l.contains v) := by
 obtain ⟨z, h1, h2⟩ := index_eq l v
 unfold m_slices_Contains_Sint_int
 rw [h1, Option.bind_some, h2]
theorem without_eq (xs ys : List Int) (hl : xs.length ≤ 1048576) : m_impl_without xs ys = some (xs.filter fun x => !ys.contains x) := by
 unfold m_impl_without
 rw [forS_filter (fun x => !ys.contains x) fun n x zs hx hz => ?_]
 ·rfl
 ·have hn : n < xs.length := (List.getElem?_eq_some_iff.1 hx).1
  rw [contains_eq, Option.bind_some]
  cases ys.contains x with
  | true => rfl
  | false => simp only [Bool.not_false, cond_true, if_true]; rw [app_ok (by simp; omega)]; rfl
def cnt (v : Int) (xs : List Int) : Int := ((xs.filter fun x => decide (x = v)).length : Int)
theorem cnt_app (v : Int) (xs ys : List Int) : cnt v (xs ++ ys) = cnt v xs + cnt v ys := by simp [cnt]
theorem cnt_flat (v : Int) (f : Int → List Int) : ∀ ch : List Int, cnt v (ch.flatMap f) = (ch.map fun x => cnt v (f x)).sum
 | [] => rfl
 | x :: ch => by simp only [List.flatMap_cons, cnt_app, List.map_cons, List.sum_cons, cnt_flat v f ch]
theorem filter_split (v : Int) (xs : List Int) : (xs.filter fun x => !([v] : List Int).contains x).length + (xs.filter fun x => decide (x = v)).length = xs.length := by
 induction xs with
 | nil => rfl
 | cons x xs ih =>
  have e : ∀ y, (([v] : List Int).contains y) = decide (y = v) := fun y => by by_cases h : y = v <;> simp [h]
  simp only [e] at ih ⊢
  by_cases hx : x = v
  ·simp only [List.filter_cons, hx, decide_true, Bool.not_true, if_true, List.length_cons]
   rw [if_neg (by simp)]; omega
  ·simp only [List.filter_cons, hx, decide_false, Bool.not_false, if_true, List.length_cons]
   rw [if_neg (by simp)]; omega
theorem countAgg (xs : List Int) (v : Int) (hl : xs.length ≤ 1048576) : m_impl_CountRange_1 xs v = some (cnt v xs) := by
 unfold m_impl_CountRange_1
 rw [without_eq xs [v] hl, Option.bind_some]
 have h := filter_split v xs
 have e : (xs.length : Int) - ((xs.filter fun x => !([v] : List Int).contains x).length : Int) = cnt v xs := by
  simp only [cnt]; omega
 rw [e, w64_id (by simp only [cnt]; have := List.length_filter_le (fun x => decide (x = v)) xs; omega)]
def allV (v : Int) (l : List Int) : Int := if cnt v l = (l.length : Int) then 1 else 0
def anyV (v : Int) (l : List Int) : Int := if 0 < cnt v l then 1 else 0
theorem cnt_le (v : Int) (l : List Int) : 0 ≤ cnt v l ∧ cnt v l ≤ l.length := by
 have := List.length_filter_le (fun x => decide (x = v)) l
 simp only [cnt]; omega
theorem cnt_all {v : Int} {l : List Int} : cnt v l = (l.length : Int) ↔ ∀ x ∈ l, x = v := by
 induction l with
 | nil => simp [cnt]
 | cons x l ih =>
  have h1 := cnt_le v l
  have e : cnt v (x :: l) = (if x = v then 1 else 0) + cnt v l := by
   simp only [cnt, List.filter_cons]
   by_cases h : x = v <;> simp [h] <;> omega
  rw [e]
  constructor
  ·intro h y hy
   simp only [List.length_cons] at h
   by_cases hx : x = v
   ·rw [if_pos hx] at h
    rcases List.mem_cons.1 hy with rfl | hy
    ·exact hx
    ·exact ih.1 (by omega) y hy
   ·rw [if_neg hx] at h; omega
  ·intro h
   rw [if_pos (h x (List.mem_cons_self ..)), ih.2 fun y hy => h y (List.mem_cons_of_mem _ hy)]
   simp only [List.length_cons]; omega
theorem cnt_any {v : Int} {l : List Int} : 0 < cnt v l ↔ v ∈ l := by
 simp only [cnt]
 constructor
 ·intro h
  have : 0 < (l.filter fun x => decide (x = v)).length := by omega
  obtain ⟨x, hx⟩ := List.exists_mem_of_length_pos this
  simp only [List.mem_filter, decide_eq_true_eq] at hx
  rw [← hx.2]; exact hx.1
 ·intro h
  have : v ∈ l.filter fun x => decide (x = v) := by simp [h]
  have := List.length_pos_of_mem this
  omega
theorem count_while (u : Nat) (l : List Int) (v : Int) (hl : l.length ≤ 1048576) (hu : l.length < u) {β : Type} {K : Int × Int → Option β} {Lr : (Int × Int × Bool) → Option β} {Q : β → Prop} (k : ∀ s : Int × Int, s.1 = cnt v l → Ok (K s) Q) :
    Ok ((whileF (R := (Int × Int × Bool)) (fun (⟨n15, k16⟩ : Int × Int) => cond (decide (k16 < (l.length : Int))) ((getI l k16).bind fun v_10 => cond (decide (v_10 = v)) (some (.next ((w64 (n15 + 1)), (w64 (k16 + 1))))) (some (.next (n15, (w64 (k16 + 1)))))) (some (.brk (n15, k16)))) u (0, 0)).bind fun O8_ => onS O8_ K Lr) Q := by
  refine Ok.while (fun (s : Int × Int) => ∃ m : Nat, s.2 = (m : Int) ∧ m ≤ l.length ∧ s.1 = cnt v (l.take m)) (fun (s : Int × Int) => l.length - s.2.toNat) (fun (s : Int × Int) => s.1 = cnt v l) (fun _ => False) (by show l.length - (0 : Int).toNat < u; omega) ⟨0, rfl, by omega, rfl⟩ (fun ⟨n, k⟩ ⟨m, hk, hm, hn⟩ => ?_) (fun s hs => k s hs) (fun _ h => h.elim)
  simp only at hk hn
  subst hk
  simp only
  refine .cond (fun h => ?_) fun h => .brk ?_
  · have hlt : m < l.length := by simpa using h
    have e : cnt v (l.take (m + 1)) = cnt v (l.take m) + cnt v [l[m]] := by rw [List.take_add_one, List.getElem?_eq_getElem hlt, cnt_app]; rfl
    have hb := cnt_le v (l.take m)
    have hbl : (l.take m).length ≤ m := by simp; omega
    refine .get rfl hlt (.cond (fun hv => .next ⟨⟨m + 1, by simp only; rw [w64_id (by omega)]; omega, hlt, ?_⟩, by simp only; rw [w64_id (by omega)]; omega⟩) fun hv => .next ⟨⟨m + 1, by simp only; rw [w64_id (by omega)]; omega, hlt, ?_⟩, by simp only; rw [w64_id (by omega)]; omega⟩)
    · simp only at hv ⊢
      rw [w64_id (by omega), e, hn]
      simp only [cnt, List.filter_cons, hv, if_true, List.filter_nil, List.length_singleton]; rfl
    · simp only at hv ⊢
      rw [e, hn]
      simp [cnt, List.filter_cons, hv]
  · have e : m = l.length := by have : ¬ m < l.length := by simpa using h
                                omega
    show n = cnt v l
    rw [hn, e, List.take_length]
theorem count_loop (u : Nat) (L : List (List Int)) (v : Int) (hL : L.length ≤ 14) (h : ∀ l ∈ L, l.length ≤ 1048576) (hu : 1048577 < u) :
  forS (fun (i_6 : Int) (x_i_6 : (List Int)) (⟨lo11, hi12⟩ : Int × Int) => (whileF (R := (Int × Int × Bool)) (fun (⟨n15, k16⟩ : Int × Int) => cond (decide (k16 < (x_i_6.length : Int))) ((getI x_i_6 k16).bind fun v_10 => cond (decide (v_10 = v)) (some (.next ((w64 (n15 + 1)), (w64 (k16 + 1))))) (some (.next (n15, (w64 (k16 + 1)))))) (some (.brk (n15, k16)))) u (0, 0)).bind fun O8_ => onS O8_ (fun (⟨n15, k16⟩ : Int × Int) => cond (decide (0 < n15)) (cond (decide (n15 = (x_i_6.length : Int))) (some ((w64 (lo11 + 1)), (w64 (hi12 + 1)))) (some (lo11, (w64 (hi12 + 1))))) (cond (decide (n15 = (x_i_6.length : Int))) (some ((w64 (lo11 + 1)), hi12)) (some (lo11, hi12)))) (fun r => none)) L 0 (0, 0) = some ((L.map (allV v)).sum, (L.map (anyV v)).sum) := by
 have key := Ok.forS (xs := L) (s := ((0 : Int), (0 : Int))) (g := fun s => some s) (Q := fun s => s = ((L.map (allV v)).sum, (L.map (anyV v)).sum))
  (f := fun (i_6 : Int) (x_i_6 : (List Int)) (⟨lo11, hi12⟩ : Int × Int) => (whileF (R := (Int × Int × Bool)) (fun (⟨n15, k16⟩ : Int × Int) => cond (decide (k16 < (x_i_6.length : Int))) ((getI x_i_6 k16).bind fun v_10 => cond (decide (v_10 = v)) (some (.next ((w64 (n15 + 1)), (w64 (k16 + 1))))) (some (.next (n15, (w64 (k16 + 1)))))) (some (.brk (n15, k16)))) u (0, 0)).bind fun O8_ => onS O8_ (fun (⟨n15, k16⟩ : Int × Int) => cond (decide (0 < n15)) (cond (decide (n15 = (x_i_6.length : Int))) (some ((w64 (lo11 + 1)), (w64 (hi12 + 1)))) (some (lo11, (w64 (hi12 + 1))))) (cond (decide (n15 = (x_i_6.length : Int))) (some ((w64 (lo11 + 1)), hi12)) (some (lo11, hi12)))) (fun r => none))
  (fun n (s : Int × Int) => s = (((L.take n).map (allV v)).sum, ((L.take n).map (anyV v)).sum) ∧ 0 ≤ s.1 ∧ s.1 ≤ n ∧ 0 ≤ s.2 ∧ s.2 ≤ n) ⟨rfl, by simp, by simp, by simp, by simp⟩ (fun n l ⟨lo, hi⟩ hx ⟨hI, g1, g2, g3, g4⟩ => ?_) (fun s hs => .ret (by rw [hs.1, List.take_length]))
 ·have := key.to
  rw [Option.bind_fun_some] at this; exact this
 ·have hn : n < L.length := (List.getElem?_eq_some_iff.1 hx).1
  have hl := h l (List.mem_of_getElem? hx)
  simp only [Prod.mk.injEq] at hI g1 g2 g3 g4
  refine count_while u l v hl (by omega) fun s hs => ?_
  obtain ⟨c, k⟩ := s
  simp only at hs
  have ea : ((L.take (n + 1)).map (allV v)).sum = lo + allV v l := by rw [List.take_add_one, hx, hI.1]; simp
  have eb : ((L.take (n + 1)).map (anyV v)).sum = hi + anyV v l := by rw [List.take_add_one, hx, hI.2]; simp
  simp only
  rw [ea, eb, w64_id (x := lo + 1) (by omega), w64_id (x := hi + 1) (by omega)]
  refine .cond (fun h1 => .cond (fun h2 => .ret ?_) fun h2 => .ret ?_) fun h1 => .cond (fun h2 => .ret ?_) fun h2 => .ret ?_
  ·simp only [decide_eq_true_eq, hs] at h1 h2
   have e1 : allV v l = 1 := if_pos h2
   have e2 : anyV v l = 1 := if_pos h1
   rw [e1, e2]; exact ⟨rfl, by simp only; omega, by simp only; omega, by simp only; omega, by simp only; omega⟩
  ·simp only [decide_eq_true_eq, decide_eq_false_iff_not, hs] at h1 h2
   have e1 : allV v l = 0 := if_neg h2
   have e2 : anyV v l = 1 := if_pos h1
   rw [e1, e2]; exact ⟨by simp, by simp only; omega, by simp only; omega, by simp only; omega, by simp only; omega⟩
  ·simp only [decide_eq_true_eq, decide_eq_false_iff_not, hs] at h1 h2
   have e1 : allV v l = 1 := if_pos h2
   have e2 : anyV v l = 0 := if_neg h1
   rw [e1, e2]; exact ⟨by simp, by simp only; omega, by simp only; omega, by simp only; omega, by simp only; omega⟩
  ·simp only [decide_eq_false_iff_not, hs] at h1 h2
   have e1 : allV v l = 0 := if_neg h2
   have e2 : anyV v l = 0 := if_neg h1
   rw [e1, e2]; exact ⟨by simp, by simp only; omega, by simp only; omega, by simp only; omega, by simp only; omega⟩
theorem count_ends {d : Database} {r c : Int} (hok : ColOK d r c) (hs : DbS d) (v : Int) : Ends (blocksOf d) (fun ch => cnt v (ch.flatMap (pickV d r c))) ((valsOf d r c).map (allV v)).sum ((valsOf d r c).map (anyV v)).sum := by
 have e1 : ((valsOf d r c).map (allV v)).sum = ((blocksOf d).map fun b => if isR d r b = true then allV v (b.map (valF d c)) else 0).sum := by
  rw [← sum_filter (isR d r) (fun b => allV v (b.map (valF d c))), valsOf, List.map_map]; rfl
 have e2 : ((valsOf d r c).map (anyV v)).sum = ((blocksOf d).map fun b => if isR d r b = true then anyV v (b.map (valF d c)) else 0).sum := by
  rw [← sum_filter (isR d r) (fun b => anyV v (b.map (valF d c))), valsOf, List.map_map]; rfl
 rw [e1, e2]
 have one : ∀ z : Int, cnt v [z] = if z = v then 1 else 0 := fun z => by by_cases h : z = v <;> simp [cnt, h]
 refine (sum_ends (fun x => cnt v (pickV d r c x)) _ _ (fun b hb => ?_) (fun b hb => ?_)).congr fun ch hc => (cnt_flat v _ ch).symm
 ·have hp := block_pick hok hs hb
  obtain ⟨x0, hx0⟩ := List.exists_mem_of_ne_nil b (blocksOf_ne b hb)
  by_cases hr : relF d (b.headD 0) = r
  ·have hi : isR d r b = true := by simp only [isR, hr, decide_true]
   rw [if_pos hi]
   have hv : ∀ x ∈ b, cnt v (pickV d r c x) = if valF d c x = v then 1 else 0 := fun x hx => by rw [(hp.1 hr x hx).1, one]
   by_cases ha : cnt v (b.map (valF d c)) = ((b.map (valF d c)).length : Int)
   ·have := cnt_all.1 ha
    have hall : ∀ x ∈ b, cnt v (pickV d r c x) = 1 := fun x hx => by rw [hv x hx, if_pos (this _ (List.mem_map.2 ⟨x, hx, rfl⟩))]
    rw [allV, if_pos ha]
    exact ⟨⟨x0, hx0, hall x0 hx0⟩, fun x hx => by rw [hall x hx]; exact Int.le_refl _⟩
   ·rw [allV, if_neg ha]
    have hne : ¬ ∀ y ∈ b.map (valF d c), y = v := fun h => ha (cnt_all.2 h)
    have : ∃ x ∈ b, valF d c x ≠ v := by
     refine Classical.byContradiction fun hno => hne fun y hy => ?_
     obtain ⟨x, hx, rfl⟩ := List.mem_map.1 hy
     exact Classical.byContradiction fun h => hno ⟨x, hx, h⟩
    obtain ⟨x, hx, hxv⟩ := this
    exact ⟨⟨x, hx, by rw [hv x hx, if_neg hxv]⟩, fun y hy => by rw [hv y hy]; split <;> omega⟩
  ·have hi : ¬ isR d r b = true := by simp only [isR, decide_eq_true_eq]; exact hr
   have hv : ∀ x ∈ b, cnt v (pickV d r c x) = 0 := fun x hx => by rw [hp.2 hr x hx]; rfl
   rw [if_neg hi]
   exact ⟨⟨x0, hx0, hv x0 hx0⟩, fun y hy => by rw [hv y hy]; exact Int.le_refl _⟩
 ·have hp := block_pick hok hs hb
  obtain ⟨x0, hx0⟩ := List.exists_mem_of_ne_nil b (blocksOf_ne b hb)
  by_cases hr : relF d (b.headD 0) = r
  ·have hi : isR d r b = true := by simp only [isR, hr, decide_true]
   rw [if_pos hi]
   have hv : ∀ x ∈ b, cnt v (pickV d r c x) = if valF d c x = v then 1 else 0 := fun x hx => by rw [(hp.1 hr x hx).1, one]
   by_cases ha : 0 < cnt v (b.map (valF d c))
   ·obtain ⟨x, hx, hxv⟩ := List.mem_map.1 (cnt_any.1 ha)
    rw [anyV, if_pos ha]
    exact ⟨⟨x, hx, by rw [hv x hx, if_pos hxv]⟩, fun y hy => by rw [hv y hy]; split <;> omega⟩
   ·rw [anyV, if_neg ha]
    have hno : ∀ x ∈ b, valF d c x ≠ v := fun x hx e => ha (cnt_any.2 (List.mem_map.2 ⟨x, hx, e⟩))
    exact ⟨⟨x0, hx0, by rw [hv x0 hx0, if_neg (hno x0 hx0)]⟩, fun y hy => by rw [hv y hy, if_neg (hno y hy)]; exact Int.le_refl _⟩
  ·have hi : ¬ isR d r b = true := by simp only [isR, decide_eq_true_eq]; exact hr
   have hv : ∀ x ∈ b, cnt v (pickV d r c x) = 0 := fun x hx => by rw [hp.2 hr x hx]; rfl
   rw [if_neg hi]
   exact ⟨⟨x0, hx0, hv x0 hx0⟩, fun y hy => by rw [hv y hy]; exact Int.le_refl _⟩
theorem key_CountRange (d : Database) (r c v : Int) (hs : DbS d) : ∃ w, m_spec_CountRange 1048578 d r c v = some w ∧ m_impl_CountRange 1048578 d r c v = some w := by
 unfold m_spec_CountRange m_impl_CountRange
 obtain ⟨b, g1, g2⟩ := l27Ok_eq 1048578 d hs (by omega) r c
 rw [g1, Option.bind_some]
 cases b with
 | false =>
  have hno : ¬ ColOK d r c := fun h => by have := g2.2 h; cases this
  rw [columnRange_no hno]; exact ⟨_, rfl, rfl⟩
 | true =>
  have hok := g2.1 rfl
  have hfew := hok.1.few
  have hbl := blocksOf_len d
  obtain ⟨lo, hi, k1, k2⟩ := columnRange_ok (u := 1048578) hok hs (by omega) (agg := fun x0 => m_impl_CountRange_1 x0 v) (cnt v) fun ch hc => countAgg _ v (by have := (pick_small hok hs hc).2; omega)
  obtain ⟨rfl, rfl⟩ := k2.uniq (count_ends hok hs v)
  have hv := count_loop 1048578 (valsOf d r c) v (by rw [valsOf, List.length_map]; exact Nat.le_trans (List.length_filter_le ..) (by omega)) (fun l hl => by
   rw [valsOf_relB] at hl
   obtain ⟨b, hb, rfl⟩ := List.mem_map.1 hl
   rw [List.length_map]
   obtain ⟨i', _, _, rfl⟩ := mem_blocksOf (mem_relB.1 hb).1
   rw [castL_len]; exact Nat.le_trans (List.length_filter_le ..) (by simp; omega)) (by omega)
  rw [cond_nt, l27Vals_eq hok hs (by omega), Option.bind_some, hv, Option.bind_some, k1, Option.bind_some]
  exact ⟨_, rfl, rfl⟩
end Go.Proofs.Ytlcpdlngbofgcaa
set_option linter.unusedVariables false
set_option linter.unusedSimpArgs false
namespace Go.Proofs.Ytlcpdlngbofgcaa
open Go Go.Proofs Go.Sep
theorem l7Sorted_ok {u : Nat} (l : List Int) (hl : l.length ≤ 1048576) (hu : 1048577 < u) : Ok (m_spec_l7Sorted u l) fun s => s.Pairwise (· ≤ ·) ∧ s.Perm l := by
 unfold m_spec_l7Sorted
 refine .forS (fun n out => out.Pairwise (· ≤ ·) ∧ out.Perm (l.take n)) ⟨.nil, by simp⟩ (fun n x out hx ⟨hp, hq⟩ => ?_) (fun s hs => .ret ⟨hs.1, by have := hs.2; rwa [List.take_length] at this⟩)
 have hn : n < l.length := (List.getElem?_eq_some_iff.1 hx).1
 have hol : out.length = n := by rw [hq.length_eq]; simp; omega
 refine .while (fun (k : Int) => ∃ m : Nat, k = (m : Int) ∧ m ≤ out.length ∧ ∀ (j : Nat) y, m ≤ j → out[j]? = some y → x < y) (fun k => k.toNat) (fun (k : Int) => ∃ m : Nat, k = (m : Int) ∧ m ≤ out.length ∧ (∀ (j : Nat) y, m ≤ j → out[j]? = some y → x < y) ∧ (0 < m → ∀ y, out[m - 1]? = some y → y ≤ x)) (fun _ => False) (by omega) ⟨out.length, rfl, Nat.le_refl _, fun j y hj hy => by rw [List.getElem?_eq_none hj] at hy; cases hy⟩ (fun k ⟨m, h1, h2, h3⟩ => ?_) (fun k ⟨m, h1, h2, h3, h4⟩ => ?_) (fun _ h => h.elim)
 ·subst h1
  refine .bind (P := fun t => (t = true → 0 < m ∧ ∀ y, out[m - 1]? = some y → x < y) ∧ (t = false → 0 < m → ∀ y, out[m - 1]? = some y → y ≤ x)) (.cond (fun h => ?_) fun h => (.ret ⟨fun h => Bool.noConfusion h, fun _ h0 => absurd (show (0 : Int) < (m : Int) by omega) (of_decide_eq_false h)⟩)) fun t ht => .cond (fun h => .next ⟨⟨m - 1, ?_, by omega, fun j y hj hy => ?_⟩, ?_⟩) fun h => .brk ⟨m, rfl, h2, h3, ht.2 h⟩
  ·have h0 : 0 < m := by simpa using h
   have e : w64 ((m : Int) - 1) = ((m - 1 : Nat) : Int) := by rw [w64_id (by omega)]; omega
   refine .get e (by omega) (.ret ⟨fun h => ⟨h0, fun y hy => ?_⟩, fun h _ y hy => ?_⟩)
   ·rw [List.getElem?_eq_getElem (by omega)] at hy; cases hy; exact of_decide_eq_true h
   ·rw [List.getElem?_eq_getElem (by omega)] at hy; cases hy; have := of_decide_eq_false h; omega
  ·have := (ht.1 h).1; rw [w64_id (by omega)]; omega
  ·rcases Nat.lt_or_ge j m with g | g
   ·have e : j = m - 1 := by omega
    subst e; exact (ht.1 h).2 y hy
   ·exact h3 j y g hy
  ·have := (ht.1 h).1; rw [w64_id (by omega)]; omega
 ·subst h1
  refine .cut (i := 0) rfl rfl (Nat.zero_le _) h2 (.app (by simp; omega) (.app (by simp; omega) (.cut rfl rfl h2 (Nat.le_refl _) (.app (by simp; omega) (.ret ?_)))))
  rw [List.take_length, List.drop_zero, List.nil_append]
  have hsp := List.take_append_drop m out
  have hpa : (out.take m ++ out.drop m).Pairwise (· ≤ ·) := by rw [hsp]; exact hp
  obtain ⟨p1, p2, p3⟩ := List.pairwise_append.1 hpa
  have hlo : ∀ a ∈ out.take m, a ≤ x := fun a ha => by
   obtain ⟨j, hj⟩ := List.getElem?_of_mem ha
   have hjm : j < (out.take m).length := (List.getElem?_eq_some_iff.1 hj).1
   rw [List.length_take] at hjm
   have hj' : out[j]? = some a := by rwa [List.getElem?_take_of_lt (by omega)] at hj
   have hm1 : m - 1 < out.length := by omega
   have hx1 := h4 (by omega) _ (List.getElem?_eq_getElem hm1)
   rcases Nat.lt_or_ge j (m - 1) with g | g
   ·have := List.pairwise_iff_getElem.1 hp j (m - 1) (by omega) hm1 g
    have e : out[j] = a := by have := hj'; rw [List.getElem?_eq_getElem (by omega)] at this; simpa using this
    omega
   ·have e : j = m - 1 := by omega
    subst e
    rw [List.getElem?_eq_getElem hm1] at hj'; cases hj'; exact hx1
  have hhi : ∀ b ∈ out.drop m, x ≤ b := fun b hb => by
   obtain ⟨j, hj⟩ := List.getElem?_of_mem hb
   rw [List.getElem?_drop] at hj
   exact Int.le_of_lt (h3 (m + j) b (by omega) hj)
  refine ⟨?_, ?_⟩
  ·rw [List.append_assoc]
   refine List.pairwise_append.2 ⟨p1, ?_, fun a ha b hb => ?_⟩
   ·exact .cons hhi p2
   ·rcases List.mem_cons.1 hb with rfl | hb
    ·exact hlo a ha
    ·exact p3 a ha b hb
  ·rw [List.take_add_one, hx]
   refine List.Perm.trans ?_ (hq.append_right _)
   rw [List.append_assoc, List.singleton_append]
   refine List.Perm.trans (List.perm_middle) ?_
   rw [hsp]
   exact (List.perm_append_comm (l₁ := [x]) (l₂ := out))
theorem l7Sorted_eq {u : Nat} {l s : List Int} (hl : l.length ≤ 1048576) (hu : 1048577 < u) (hs : s.Pairwise (· < ·)) (hp : s.Perm l) : m_spec_l7Sorted u l = some s := by
 obtain ⟨s', h1, h2, h3⟩ := l7Sorted_ok l hl hu
 have : s' = s := List.Perm.eq_of_pairwise (fun a b _ _ h1 h2 => Int.le_antisymm h1 h2) h2 (hs.imp Int.le_of_lt) (h3.trans hp.symm)
 rw [h1, this]
end Go.Proofs.Ytlcpdlngbofgcaa
set_option linter.unusedVariables false
set_option linter.unusedSimpArgs false
namespace Go.Proofs.Ytlcpdlngbofgcaa
open Go Go.Proofs Go.Sep
theorem spec_BlockSizes_eq {u : Nat} {d : Database} (hd : DbOK d) (hs : DbS d) (hu : 1048577 < u) : m_spec_BlockSizes u d = some ((blocksOf d).map fun b => (b.length : Int)) := by
 unfold m_spec_BlockSizes
 have hb := blocksOf_len d
 have hf := hd.few
 rw [spec_Blocks_eq hd hs hu, Option.bind_some]
 refine Ok.to (.forS (fun n out => out = ((blocksOf d).take n).map fun b => (b.length : Int)) rfl (fun n x out hx hI => ?_) fun s hs => .ret (by rw [hs, List.take_length]))
 have hn : n < (blocksOf d).length := (List.getElem?_eq_some_iff.1 hx).1
 have hl : out.length = n := by rw [hI]; simp; omega
 refine .app (by simp; omega) (.ret ?_)
 rw [List.take_add_one, hx, hI]; simp
theorem spec_CountRepairs_eq {u : Nat} {d : Database} (hd : DbOK d) (hs : DbS d) (hu : 1048577 < u) : m_spec_CountRepairs u d = some (prodL (blocksOf d) : Int) ∧ prodL (blocksOf d) ≤ 16384 := by
 have hp : prodL (blocksOf d) ≤ 16384 := by
  refine Nat.le_trans (prodL_le' (blocksOf d)) ?_
  rw [blocksOf_sum]
  exact Nat.le_trans (Nat.pow_le_pow_right (by decide) hd.few) (by decide)
 refine ⟨?_, hp⟩
 unfold m_spec_CountRepairs
 rw [spec_valid hd hs hu, Option.bind_some, cond_nt, spec_BlockSizes_eq hd hs hu, Option.bind_some]
 refine Ok.to (.forS (fun n s => s = ((prodL ((blocksOf d).take n) : Nat) : Int)) rfl (fun n x s hx hI => .ret ?_) fun s hs => .ret (by rw [hs, List.length_map, List.take_length]))
 rw [List.getElem?_map] at hx
 cases hb : (blocksOf d)[n]? with
 | none => rw [hb] at hx; cases hx
 | some b =>
  rw [hb] at hx
  simp only [Option.map_some, Option.some.injEq] at hx
  subst hx
  have e : prodL ((blocksOf d).take (n + 1)) = prodL ((blocksOf d).take n) * b.length := by
   rw [List.take_add_one, hb, prodL_append]; simp [prodL]
  have hle : prodL ((blocksOf d).take (n + 1)) ≤ prodL (blocksOf d) := by
   have e2 : prodL (blocksOf d) = prodL ((blocksOf d).take (n + 1)) * prodL ((blocksOf d).drop (n + 1)) := by rw [← prodL_append, List.take_append_drop]
   rw [e2]
   exact Nat.le_mul_of_pos_right _ (prodL_pos fun y hy => blocksOf_ne y (List.mem_of_mem_drop hy))
  rw [hI, ← Int.natCast_mul, ← e, w64_id (by omega)]
end Go.Proofs.Ytlcpdlngbofgcaa
set_option linter.unusedVariables false
set_option linter.unusedSimpArgs false
namespace Go.Proofs.Ytlcpdlngbofgcaa
open Go Go.Proofs Go.Sep
theorem blocks_apart {d : Database} (hd : DbOK d) : (blocksOf d).Pairwise fun b b' => ∀ x ∈ b, ∀ y ∈ b', x < y := by
 simp only [blocksOf, castB, BlN, List.map_map]
 rw [List.pairwise_map]
 have hs := firsts_sorted (K := keyN d) d.facts.length
 refine (List.Pairwise.and_mem.1 hs).imp fun {i j} ⟨hi, hj, hij⟩ x hx y hy => ?_
 obtain ⟨hi1, hi2⟩ := mem_firsts.1 hi
 obtain ⟨hj1, hj2⟩ := mem_firsts.1 hj
 simp only [Function.comp, castL, List.mem_map] at hx hy
 obtain ⟨x, hx, rfl⟩ := hx
 obtain ⟨y, hy, rfl⟩ := hy
 simp only [blkN, List.mem_filter, List.mem_range, decide_eq_true_eq] at hx hy
 refine Classical.byContradiction fun hno => ?_
 have hyx : y ≤ x := by omega
 have hjy : j ≤ y := by
  refine Nat.le_of_not_lt fun h => (firstB_iff.1 hj2) y h hy.2
 have : keyN d j = keyN d i := by
  rcases Nat.lt_or_ge j x with h | h
  ·exact keyN_C hd hx.1 i j hij h hx.2.symm
  ·have : x = j := by omega
   subst this; exact hx.2
 have := first_uniq hi2 hj2 this.symm
 omega
theorem choice_asc : ∀ {bs : List (List Int)} {c : List Int}, Choice bs c → (bs.Pairwise fun b b' => ∀ x ∈ b, ∀ y ∈ b', x < y) → c.Pairwise (· < ·) ∧ ∀ z ∈ c, ∃ b ∈ bs, z ∈ b
 | [], [], _, _ => ⟨.nil, by simp⟩
 | [], _ :: _, h, _ => h.elim
 | _ :: _, [], h, _ => h.elim
 | b :: bs, x :: xs, h, hp => by
  obtain ⟨h1, h2⟩ := choice_asc h.2 (List.pairwise_cons.1 hp).2
  refine ⟨.cons (fun y hy => ?_) h1, fun z hz => ?_⟩
  ·obtain ⟨b', hb', hy'⟩ := h2 y hy
   exact (List.pairwise_cons.1 hp).1 b' hb' x h.1 y hy'
  ·rcases List.mem_cons.1 hz with rfl | hz
   ·exact ⟨b, List.mem_cons_self .., h.1⟩
   ·obtain ⟨b', hb', hz'⟩ := h2 z hz; exact ⟨b', List.mem_cons_of_mem _ hb', hz'⟩
theorem spec_NthRepair_eq {u : Nat} {d : Database} (hd : DbOK d) (hs : DbS d) (hu : 1048577 < u) {k : Nat} (hk : k < prodL (blocksOf d)) : m_spec_NthRepair u d (k : Int) = some (nth (blocksOf d) k, true) := by
 obtain ⟨hc, hp⟩ := spec_CountRepairs_eq hd hs hu
 have hbl := blocksOf_len d
 have hf := hd.few
 unfold m_spec_NthRepair m_spec_l1In
 refine Ok.to (.eq hc (.eq rfl (.cf ?_ (.eq (spec_Blocks_eq hd hs hu) ?_))))
 ·rw [w64_id (by omega)]; simp; omega
 generalize hbs : blocksOf d = bs at *
 have hne : ∀ b ∈ bs, b ≠ [] := by rw [← hbs]; exact blocksOf_ne
 have hlb : ∀ b ∈ bs, b.length ≤ 1048576 := fun b hb => by
  rw [← hbs] at hb
  obtain ⟨i', _, _, rfl⟩ := mem_blocksOf hb
  rw [castL_len]; exact Nat.le_trans (List.length_filter_le ..) (by simp; omega)
 have hnl := nth_len bs k
 refine .while (fun (s : Int × List Int × Int) => ∃ n : Nat, s.2.2 = (n : Int) - 1 ∧ n ≤ bs.length ∧ s.1 = ((k / prodL (bs.drop n) : Nat) : Int) ∧ s.2.1 = ((nth bs k).drop n).reverse) (fun (s : Int × List Int × Int) => (s.2.2 + 1).toNat) (fun (s : Int × List Int × Int) => s.2.1 = (nth bs k).reverse) (fun _ => False) (by simp only; omega) ⟨bs.length, rfl, Nat.le_refl _, by simp [prodL], by simp [hnl]⟩ (fun ⟨rk, out, i⟩ ⟨n, hi, hn, hr, ho⟩ => ?_) (fun ⟨rk, out, i⟩ ho => ?_) (fun _ h => h.elim)
 ·simp only at hi hr ho
  subst hi hr
  simp only
  refine .cond (fun h => ?_) fun h => .brk ?_
  ·have h0 : 0 < n := by have := of_decide_eq_true h; omega
   have hn1 : n - 1 < bs.length := by omega
   have e : (n : Int) - 1 = ((n - 1 : Nat) : Int) := by omega
   have hb := hne _ (List.getElem_mem hn1)
   have hbl' := hlb _ (List.getElem_mem hn1)
   have hpos : 0 < bs[n - 1].length := List.length_pos_iff.2 hb
   have hdr : bs.drop (n - 1) = bs[n - 1] :: bs.drop n := by
    have := List.drop_eq_getElem_cons hn1
    rwa [show n - 1 + 1 = n by omega] at this
   obtain ⟨q, hq⟩ : ∃ q, k / prodL (bs.drop n) / bs[n - 1].length = q := ⟨_, rfl⟩
   have hmod : (((k / prodL (bs.drop n) : Nat) : Int)).tmod ((bs[n - 1].length : Nat) : Int) = ((k / prodL (bs.drop n) % bs[n - 1].length : Nat) : Int) := by
    rw [Int.tmod_eq_emod_of_nonneg (Int.natCast_nonneg _)]; rfl
   have hdiv : (((k / prodL (bs.drop n) : Nat) : Int)).tdiv ((bs[n - 1].length : Nat) : Int) = ((q : Nat) : Int) := by
    rw [Int.tdiv_eq_ediv_of_nonneg (Int.natCast_nonneg _), ← hq]; rfl
   have hlt := Nat.mod_lt (k / prodL (bs.drop n)) hpos
   have hkk : q ≤ k := by rw [← hq]; exact Nat.le_trans (Nat.div_le_self ..) (Nat.div_le_self ..)
   have hol : out.length ≤ bs.length := by rw [ho]; simp [hnl]
   refine .get e hn1 (.gD (by omega) (.get hmod hlt (.app (by simp; omega) (.gD (by omega) (.next ⟨⟨n - 1, ?_, by omega, ?_, ?_⟩, ?_⟩)))))
   ·simp only; rw [w64_id (by omega)]; omega
   ·simp only; rw [hdiv, w64_id (by omega), hdr, prodL_cons, ← hq, Nat.div_div_eq_div_mul, Nat.mul_comm]
   ·simp only
    have hg := nth_get bs k (n - 1) bs[n - 1] (List.getElem?_eq_getElem hn1)
    rw [show n - 1 + 1 = n by omega] at hg
    have hdn : (nth bs k).drop (n - 1) = (nth bs k)[n - 1]'(by omega) :: (nth bs k).drop n := by
     have := List.drop_eq_getElem_cons (l := nth bs k) (i := n - 1) (by omega)
     rwa [show n - 1 + 1 = n by omega] at this
    rw [hdn, List.reverse_cons, ← ho]
    congr 2
    rw [List.getElem?_eq_getElem (by omega)] at hg
    simp only [Option.some.injEq] at hg
    rw [hg, List.getD_eq_getElem?_getD, List.getElem?_eq_getElem hlt]; rfl
   ·simp only; rw [w64_id (by omega)]; omega
  ·have : n = 0 := by have := of_decide_eq_false h; omega
   subst this
   simp only; rw [ho, List.drop_zero]
 ·simp only at ho
  subst ho
  simp only
  have hasc : (nth bs k).Pairwise (· < ·) := by
   have := blocks_apart hd
   rw [hbs] at this
   exact (choice_asc (nth_choice k hne) this).1
  exact .eq (l7Sorted_eq (by simp [hnl]; omega) hu hasc (List.reverse_perm _).symm) (.ret rfl)
end Go.Proofs.Ytlcpdlngbofgcaa
set_option linter.unusedVariables false
set_option linter.unusedSimpArgs false
namespace Go.Proofs.Ytlcpdlngbofgcaa
open Go Go.Proofs Go.Sep
theorem comp2_mem : ∀ (l : List Int) (p x : Int), x ∈ comp2 p l ∨ x = p ↔ x ∈ l ∨ x = p
 | [], p, x => by simp [comp2]
 | y :: l, p, x => by
  simp only [comp2]
  by_cases h : y = p
  ·subst h
   rw [if_pos rfl, comp2_mem l y x, List.mem_cons]
   exact ⟨fun h => h.elim (fun h => .inl (.inr h)) .inr, fun h => h.elim (fun h => h.elim .inr .inl) .inr⟩
  ·rw [if_neg h, List.mem_cons, List.mem_cons]
   have := comp2_mem l y x
   constructor
   ·rintro ((h1 | h1) | h1)
    ·exact .inl (.inl h1)
    ·rcases this.1 (.inl h1) with h2 | h2
     ·exact .inl (.inr h2)
     ·exact .inl (.inl h2)
    ·exact .inr h1
   ·rintro ((h1 | h1) | h1)
    ·exact .inl (.inl h1)
    ·rcases this.2 (.inl h1) with h2 | h2
     ·exact .inl (.inr h2)
     ·exact .inl (.inl h2)
    ·exact .inr h1
theorem comp1_mem (l : List Int) (x : Int) : x ∈ comp1 l ↔ x ∈ l := by
 cases l with
 | nil => rfl
 | cons y l =>
  simp only [comp1, List.mem_cons]
  have := comp2_mem l y x
  constructor
  ·rintro (h | h)
   ·exact .inl h
   ·exact (this.1 (.inl h)).symm
  ·rintro (h | h)
   ·exact .inl h
   ·exact (this.2 (.inl h)).symm
theorem comp2_asc : ∀ (l : List Int) (p : Int), (p :: l).Pairwise (· ≤ ·) → (p :: comp2 p l).Pairwise (· < ·)
 | [], p, _ => by simp [comp2]
 | y :: l, p, h => by
  simp only [comp2]
  have h1 := List.pairwise_cons.1 h
  by_cases e : y = p
  ·subst e
   rw [if_pos rfl]; exact comp2_asc l y h1.2
  ·rw [if_neg e]
   have ih := comp2_asc l y h1.2
   have hy := h1.1 y (List.mem_cons_self ..)
   refine List.pairwise_cons.2 ⟨fun z hz => ?_, ih⟩
   rcases List.mem_cons.1 hz with rfl | hz
   ·omega
   ·have := (List.pairwise_cons.1 ih).1 z hz; omega
theorem comp1_asc (l : List Int) (h : l.Pairwise (· ≤ ·)) : (comp1 l).Pairwise (· < ·) := by
 cases l with
 | nil => exact .nil
 | cons x l => exact comp2_asc l x h
def uni (l : List Int) : List Int := comp1 (l.mergeSort fun x y => decide (x ≤ y))
theorem uni_mem (l : List Int) (x : Int) : x ∈ uni l ↔ x ∈ l := by
 rw [uni, comp1_mem]; exact (List.mergeSort_perm l _).mem_iff
theorem uni_asc (l : List Int) : (uni l).Pairwise (· < ·) := by
 refine comp1_asc _ ?_
 have := List.pairwise_mergeSort (le := fun x y : Int => decide (x ≤ y)) (fun a b c h1 h2 => by simp at h1 h2 ⊢; omega) (fun a b => by simp; omega) l
 exact this.imp fun h => by simpa using h
theorem uni_nodup (l : List Int) : (uni l).Nodup := (uni_asc l).imp fun h => by omega
theorem uni_le (l : List Int) : (uni l).length ≤ l.length := by
 have := comp1_le (l.mergeSort fun x y => decide (x ≤ y))
 rw [List.length_mergeSort] at this; exact this
theorem uni_new {l : List Int} {v : Int} (h : v ∉ l) : (uni (l ++ [v])).length = (uni l).length + 1 := by
 have hp : (uni (l ++ [v])).Perm (v :: uni l) := (List.perm_ext_iff_of_nodup (uni_nodup _) (List.nodup_cons.2 ⟨by rwa [uni_mem], uni_nodup l⟩)).2 fun x => by
  rw [uni_mem, List.mem_cons, uni_mem]; simp [or_comm]
 simpa using hp.length_eq
theorem uni_old {l : List Int} {v : Int} (h : v ∈ l) : (uni (l ++ [v])).length = (uni l).length := by
 have hp : (uni (l ++ [v])).Perm (uni l) := (List.perm_ext_iff_of_nodup (uni_nodup _) (uni_nodup l)).2 fun x => by
  rw [uni_mem, uni_mem]; simp only [List.mem_append, List.mem_singleton]
  exact ⟨fun hx => hx.elim id fun e => by subst e; exact h, .inl⟩
 exact hp.length_eq
theorem grow_ok {k : Int} (h0 : 0 ≤ k) (h1 : k ≤ 4194304) : m_slices_Grow_Sint_int_n0 k = some [] := by
 unfold m_slices_Grow_Sint_int_n0
 have e0 : w64 (((0 : Nat) : Int) - ((0 : Nat) : Int)) = 0 := w64_id (by omega)
 rw [e0, w64_id (by omega)]
 refine Ok.to (.cf (decide_eq_false (by omega)) (.cond (fun h => ?_) fun _ => .ret rfl))
 have h := of_decide_eq_true h
 have e1 : apz 8 (k - 0) (0 : Int) = some (List.replicate (k - 0).toNat 0) := by unfold apz; rw [if_pos (by omega)]
 exact .eq e1 (.cut (i := 0) (j := 0) rfl rfl (Nat.le_refl _) (Nat.zero_le _) (.ret (by simp)))
theorem concat2_eq (a b : List Int) (ha : a.length ≤ 2097152) (hb : b.length ≤ 2097152) : m_slices_Concat_Sint_int [a, b] = some (a ++ b) := by
 have hg : m_slices_Grow_Sint_int_n0 ((a.length : Int) + b.length) = some [] := grow_ok (by omega) (by omega)
 unfold m_slices_Concat_Sint_int
 refine Ok.to (.forS (fun n s => (n = 0 ∧ s = 0) ∨ (n = 1 ∧ s = (a.length : Int)) ∨ (n = 2 ∧ s = (a.length : Int) + b.length)) (.inl ⟨rfl, rfl⟩) (fun n x s hx hI => ?_) (fun s hI => ?_))
 ·rcases hI with ⟨rfl, rfl⟩ | ⟨rfl, rfl⟩ | ⟨rfl, _⟩
  ·simp at hx; subst hx
   rw [w64_id (by omega)]
   exact .cf (decide_eq_false (by omega)) (.ret (.inr (.inl ⟨rfl, by omega⟩)))
  ·simp at hx; subst hx
   rw [w64_id (by omega)]
   exact .cf (decide_eq_false (by omega)) (.ret (.inr (.inr ⟨rfl, rfl⟩)))
  ·simp at hx
 ·have hs : s = (a.length : Int) + b.length := by
   rcases hI with ⟨h, _⟩ | ⟨h, _⟩ | ⟨_, h⟩
   ·simp at h
   ·simp at h
   ·exact h
  subst hs
  refine .eq hg (.forS (fun n s => (n = 0 ∧ s = []) ∨ (n = 1 ∧ s = a) ∨ (n = 2 ∧ s = a ++ b)) (.inl ⟨rfl, rfl⟩) (fun n x s hx hI => ?_) (fun s hI => .ret ?_))
  ·rcases hI with ⟨rfl, rfl⟩ | ⟨rfl, rfl⟩ | ⟨rfl, _⟩
   ·simp at hx; subst hx
    exact .app (by simp only [List.length_nil]; omega) (.ret (.inr (.inl ⟨rfl, rfl⟩)))
   ·simp at hx; subst hx
    exact .app (by omega) (.ret (.inr (.inr ⟨rfl, rfl⟩)))
   ·simp at hx
  ·rcases hI with ⟨h, _⟩ | ⟨h, _⟩ | ⟨_, h⟩
   ·simp at h
   ·simp at h
   ·exact h
theorem union_eq (a b : List Int) (ha : a.length ≤ 2097152) (hb : b.length ≤ 2097152) : m_impl_union a b = some (uni (a ++ b)) := by
 unfold m_impl_union
 refine Ok.to (.eq (concat2_eq a b ha hb) (.eq (a := ((), (a ++ b).mergeSort fun x y => decide (x ≤ y))) ?_ (.eq (a := uni (a ++ b)) ?_ (.ret rfl))))
 ·unfold m_slices_Sort_Sint_int; rw [if_pos (by rw [List.length_append]; omega)]
 ·unfold m_slices_Compact_Sint_int
  simp only
  rw [if_pos (by rw [List.length_mergeSort, List.length_append]; omega)]; rfl
end Go.Proofs.Ytlcpdlngbofgcaa
set_option linter.unusedVariables false
set_option linter.unusedSimpArgs false
namespace Go.Proofs.Ytlcpdlngbofgcaa
open Go Go.Proofs Go.Sep
def dn (l : List Int) : Int := ((uni l).length : Int)
theorem dn_nil : dn [] = 0 := by simp [dn, uni, comp1]
theorem dn_le (l : List Int) : 0 ≤ dn l ∧ dn l ≤ (l.length : Int) := ⟨by simp only [dn]; omega, by have := uni_le l; simp only [dn]; omega⟩
theorem impl_DistinctRange_ok {u : Nat} {d : Database} {r c : Int} (hok : ColOK d r c) (hs : DbS d) (hu : 1048577 < u) : ∃ lo hi, m_impl_DistinctRange u d r c = some (lo, hi, true) ∧ Ends (blocksOf d) (fun ch => dn (ch.flatMap (pickV d r c))) lo hi := by
 obtain ⟨lo, hi, k1, k2⟩ := columnRange_ok (u := u) hok hs hu (agg := fun x0 => m_impl_DistinctRange_1 x0) dn fun ch hc => by
  have hl := (pick_small hok hs hc).2
  unfold m_impl_DistinctRange_1
  rw [union_eq _ _ (by omega) (by simp), List.append_nil]; rfl
 refine ⟨lo, hi, ?_, k2⟩
 unfold m_impl_DistinctRange
 rw [k1]; rfl
theorem spec_DistinctRange_ok {u : Nat} {d : Database} {r c : Int} (hok : ColOK d r c) (hs : DbS d) (hu : 1048577 < u) : Ok (m_spec_DistinctRange u d r c) fun w => w.2.2 = true ∧ Ends (blocksOf d) (fun ch => dn (ch.flatMap (pickV d r c))) w.1 w.2.1 := by
 have hd := hok.1
 obtain ⟨b, g1, g2⟩ := l27Ok_eq u d hs hu r c
 have hb : b = true := g2.2 hok
 subst hb
 obtain ⟨hcr, hp⟩ := spec_CountRepairs_eq hd hs hu
 have hbn : ∀ b ∈ blocksOf d, b ≠ [] := blocksOf_ne
 have hpos := prodL_pos hbn
 unfold m_spec_DistinctRange
 refine .eq g1 (.cf rfl (.while (fun (s : Int × Int × Int) => ∃ n : Nat, s.2.2 = (n : Int) ∧ n ≤ prodL (blocksOf d) ∧ ((n = 0 ∧ s.1 = -1 ∧ s.2.1 = 0) ∨ (0 < n ∧ 0 ≤ s.1 ∧ ((∃ k, dn ((nth (blocksOf d) k).flatMap (pickV d r c)) = s.1) ∧ ∀ k, k < n → s.1 ≤ dn ((nth (blocksOf d) k).flatMap (pickV d r c))) ∧ ((∃ k, dn ((nth (blocksOf d) k).flatMap (pickV d r c)) = s.2.1) ∧ ∀ k, k < n → dn ((nth (blocksOf d) k).flatMap (pickV d r c)) ≤ s.2.1)))) (fun (s : Int × Int × Int) => prodL (blocksOf d) - s.2.2.toNat) (fun (s : Int × Int × Int) => Ends (blocksOf d) (fun ch => dn (ch.flatMap (pickV d r c))) s.1 s.2.1) (fun _ => False) (by simp only; omega) ⟨0, rfl, by omega, .inl ⟨rfl, rfl, rfl⟩⟩ (fun ⟨lo, hi, k⟩ ⟨n, e1, e2, e3⟩ => ?_) (fun ⟨lo, hi, k⟩ h => .ret ⟨rfl, h⟩) (fun r hr => hr.elim)))
 simp only at e1 e3
 subst e1
 refine .eq hcr (.cond (fun h => ?_) fun h => .brk ?_)
 ·have hlt : n < prodL (blocksOf d) := by have := of_decide_eq_true h; omega
  have hch := nth_choice n hbn
  refine .eq (spec_NthRepair_eq hd hs hu hlt) (.mk (n := 10) (by omega) (by omega) ?_)
  have hsm := pick_small hok hs hch
  generalize hC : nth (blocksOf d) n = ch at *
  refine .forS (fun m (s : List Bool × Int) => s.1.length = 10 ∧ (∀ v : Nat, v < 10 → s.1[v]? = some (decide ((v : Int) ∈ (ch.take m).flatMap (pickV d r c)))) ∧ s.2 = dn ((ch.take m).flatMap (pickV d r c))) ⟨by simp, fun v hv => by show (List.replicate 10 false)[v]? = _; rw [List.getElem?_replicate, if_pos hv]; simp, dn_nil.symm⟩ (fun m z ⟨met, q⟩ hz ⟨i1, i2, i3⟩ => ?_) (fun ⟨met, q⟩ ⟨i1, i2, i3⟩ => ?_)
  ·simp only at i1 i2 i3 ⊢
   have hzm := List.mem_of_getElem? hz
   obtain ⟨b, hb, hzb⟩ := hch.mem z hzm
   obtain ⟨_, j, _, hj, rfl, _⟩ := blocksOf_mem hb hzb
   have htk : (ch.take (m + 1)).flatMap (pickV d r c) = (ch.take m).flatMap (pickV d r c) ++ pickV d r c (j : Int) := by
    rw [List.take_add_one, hz]; simp
   have hle : ((ch.take m).flatMap (pickV d r c)).length ≤ 14 := by
    have e : ch.flatMap (pickV d r c) = (ch.take m).flatMap (pickV d r c) ++ (ch.drop m).flatMap (pickV d r c) := by rw [← List.flatMap_append, List.take_append_drop]
    have h1 := hsm.2
    rw [e, List.length_append] at h1; omega
   refine .get rfl hj ?_
   by_cases hr : d.facts[j].relation = r
   ·obtain ⟨v1, v2, v3, v4⟩ := valF_at hok hj hr (hs.2.2.2 _ (List.getElem_mem hj))
    rw [htk, v2]
    generalize valF d c (j : Int) = v at *
    obtain ⟨w, rfl⟩ : ∃ w : Nat, v = w := ⟨v.toNat, by omega⟩
    have hw : w < 10 := by omega
    have hm := i2 w hw
    generalize (ch.take m).flatMap (pickV d r c) = P at *
    have hdl := dn_le P
    refine .bind (P := fun t => t = !decide ((w : Int) ∈ P)) (.ct (decide_eq_true hr) (.eq v1 (.eq (a := decide ((w : Int) ∈ P)) (by rw [getI_nat]; exact hm) (.ret rfl)))) fun t ht => ?_
    subst ht
    refine .cond (fun h => .eq v1 (.eq (a := decide ((w : Int) ∈ P)) (by rw [getI_nat]; exact hm) (.ret ⟨by simpa using i1, fun v hv => ?_, ?_⟩))) fun h => .ret ⟨i1, fun v hv => ?_, ?_⟩
    ·have hnot : (w : Int) ∉ P := by simpa using h
     simp only [Int.toNat_natCast]
     by_cases e : w = v
     ·subst e; rw [List.getElem?_set_self (by omega)]; simp
     ·rw [List.getElem?_set_ne e, i2 v hv]
      congr 1
      have : ¬ (v : Int) = w := by omega
      simp [this]
    ·have hnot : (w : Int) ∉ P := by simpa using h
     simp only [i3]
     rw [w64_id (by omega)]
     simp only [dn, uni_new hnot]; omega
    ·have hin : (w : Int) ∈ P := by simpa using h
     rw [i2 v hv]
     congr 1
     by_cases e : (v : Int) = w
     ·simp [e, hin]
     ·simp [e]
    ·have hin : (w : Int) ∈ P := by simpa using h
     simp only [i3, dn, uni_old hin]
   ·have hpk : pickV d r c (j : Int) = [] := by simp only [pickV, Int.toNat_natCast, List.getElem?_eq_getElem hj, if_neg hr]
    rw [htk, hpk, List.append_nil]
    exact .eq (a := false) (by rw [decide_eq_false hr]; rfl) (.cf rfl (.ret ⟨i1, i2, i3⟩))
  ·simp only at i1 i2 i3 ⊢
   rw [List.take_length] at i3
   have hq := dn_le (ch.flatMap (pickV d r c))
   rw [← i3] at hq
   have hD : dn ((nth (blocksOf d) n).flatMap (pickV d r c)) = q := by rw [hC]; exact i3.symm
   have hdec : ∀ m : Nat, m < n + 1 → m < n ∨ m = n := fun m h => by omega
   have h14 := hsm.2
   have fin : ∀ lo', lo' = (if lo < 0 ∨ q < lo then q else lo) → Ok (some (Ctl.next (lo', (if hi < q then q else hi), w64 ((n : Int) + 1)) : Ctl (Int × Int × Int) (Int × Int × Bool))) (CtlP (fun s' => (∃ n : Nat, s'.2.2 = (n : Int) ∧ n ≤ prodL (blocksOf d) ∧ ((n = 0 ∧ s'.1 = -1 ∧ s'.2.1 = 0) ∨ (0 < n ∧ 0 ≤ s'.1 ∧ ((∃ k, dn ((nth (blocksOf d) k).flatMap (pickV d r c)) = s'.1) ∧ ∀ k, k < n → s'.1 ≤ dn ((nth (blocksOf d) k).flatMap (pickV d r c))) ∧ ((∃ k, dn ((nth (blocksOf d) k).flatMap (pickV d r c)) = s'.2.1) ∧ ∀ k, k < n → dn ((nth (blocksOf d) k).flatMap (pickV d r c)) ≤ s'.2.1)))) ∧ prodL (blocksOf d) - s'.2.2.toNat < prodL (blocksOf d) - ((n : Int)).toNat) (fun s => Ends (blocksOf d) (fun ch => dn (ch.flatMap (pickV d r c))) s.1 s.2.1) (fun _ => False)) := fun lo' hlo => by
    refine .next ⟨⟨n + 1, by simp only; rw [w64_id (by omega)]; simp, hlt, .inr ⟨by omega, ?_, ⟨?_, fun k hk => ?_⟩, ?_, fun k hk => ?_⟩⟩, by simp only; rw [w64_id (by omega)]; omega⟩
    ·subst hlo; simp only; split <;> omega
    ·simp only
     rcases e3 with ⟨rfl, e4, e5⟩ | ⟨h0, h1, ⟨⟨k, hk⟩, h2⟩, _⟩
     ·exact ⟨0, by rw [hD, hlo, if_pos (by omega)]⟩
     ·subst hlo
      split
      ·exact ⟨n, hD⟩
      ·exact ⟨k, hk⟩
    ·simp only
     rcases e3 with ⟨rfl, e4, e5⟩ | ⟨h0, h1, ⟨_, h2⟩, _⟩
     ·have : k = 0 := by omega
      subst this
      rw [hD, hlo, if_pos (by omega)]; exact Int.le_refl _
     ·rcases hdec k hk with g | rfl
      ·have := h2 k g; subst hlo; split <;> omega
      ·rw [hD]; subst hlo; split <;> omega
    ·simp only
     rcases e3 with ⟨rfl, e4, e5⟩ | ⟨h0, h1, _, ⟨k, hk⟩, h2⟩
     ·refine ⟨0, ?_⟩
      rw [hD]; split <;> omega
     ·split
      ·exact ⟨n, hD⟩
      ·exact ⟨k, hk⟩
    ·simp only
     rcases e3 with ⟨rfl, e4, e5⟩ | ⟨h0, h1, _, _, h2⟩
     ·have : k = 0 := by omega
      subst this
      rw [hD]; split <;> omega
     ·rcases hdec k hk with g | rfl
      ·have := h2 k g; split <;> omega
      ·rw [hD]; split <;> omega
   refine .cond (fun h => fin _ ?_) fun h => fin _ ?_
   ·rw [if_pos (by simpa using h)]
   ·rw [if_neg (by simpa using h)]
 ·have : n = prodL (blocksOf d) := by have := of_decide_eq_false h; omega
  subst this
  rcases e3 with ⟨h0, _⟩ | ⟨h0, h1, ⟨⟨k1, a1⟩, a2⟩, ⟨k2, b1⟩, b2⟩
  ·omega
  ·exact ⟨⟨_, nth_choice k1 hbn, a1⟩, fun ch hch => by obtain ⟨k, hk, rfl⟩ := nth_all hch; exact a2 k hk, ⟨_, nth_choice k2 hbn, b1⟩, fun ch hch => by obtain ⟨k, hk, rfl⟩ := nth_all hch; exact b2 k hk⟩
theorem key_DistinctRange (d : Database) (r c : Int) (hs : DbS d) : ∃ w, m_spec_DistinctRange 1048578 d r c = some w ∧ m_impl_DistinctRange 1048578 d r c = some w ∧ (w.2.2 = true → ColOK d r c ∧ Ends (blocksOf d) (fun ch => dn (ch.flatMap (pickV d r c))) w.1 w.2.1) ∧ (ColOK d r c → w.2.2 = true) := by
 obtain ⟨b, g1, g2⟩ := l27Ok_eq 1048578 d hs (by omega) r c
 cases b with
 | false =>
  have hno : ¬ ColOK d r c := fun h => by have := g2.2 h; cases this
  refine ⟨(0, 0, false), ?_, ?_, (fun h => by cases h), fun h => (hno h).elim⟩
  ·unfold m_spec_DistinctRange
   exact Ok.to (.eq g1 (.ct rfl (.ret rfl)))
  ·unfold m_impl_DistinctRange
   rw [columnRange_no hno]; rfl
 | true =>
  have hok := g2.1 rfl
  obtain ⟨lo, hi, h1, h2⟩ := impl_DistinctRange_ok (u := 1048578) hok hs (by omega)
  obtain ⟨w, h3, h4, h5⟩ := spec_DistinctRange_ok (u := 1048578) hok hs (by omega)
  obtain ⟨e1, e2⟩ := h2.uniq h5
  obtain ⟨w1, w2, w3⟩ := w
  simp only at h4 e1 e2
  subst e1 e2 h4
  exact ⟨_, h3, h1, fun _ => ⟨hok, h2⟩, fun _ => rfl⟩
end Go.Proofs.Ytlcpdlngbofgcaa
set_option linter.unusedVariables false
set_option linter.unusedSimpArgs false
namespace Go.Proofs.Ytlcpdlngbofgcaa
open Go Go.Proofs Go.Sep
theorem full_CountRange (d : Database) (r c v : Int) (hs : DbS d) : ∃ w, m_spec_CountRange 1048578 d r c v = some w ∧ m_impl_CountRange 1048578 d r c v = some w ∧ (w.2.2 = true → ColOK d r c ∧ Ends (blocksOf d) (fun ch => cnt v (ch.flatMap (pickV d r c))) w.1 w.2.1) ∧ (ColOK d r c → w.2.2 = true) := by
 obtain ⟨w, k1, k2⟩ := key_CountRange d r c v hs
 refine ⟨w, k1, k2, ?_⟩
 unfold m_impl_CountRange at k2
 obtain ⟨b, g1, g2⟩ := l27Ok_eq 1048578 d hs (by omega) r c
 cases b with
 | false =>
  have hno : ¬ ColOK d r c := fun h => by have := g2.2 h; cases this
  rw [columnRange_no hno] at k2
  have e : w = (0, 0, false) := by simpa using k2.symm
  subst e
  exact ⟨(fun h => by cases h), fun h => (hno h).elim⟩
 | true =>
  have hok := g2.1 rfl
  obtain ⟨lo, hi, j1, j2⟩ := columnRange_ok (u := 1048578) hok hs (by omega) (agg := fun x0 => m_impl_CountRange_1 x0 v) (cnt v) fun ch hc => countAgg _ v (by have := (pick_small hok hs hc).2; omega)
  rw [j1] at k2
  have e : w = (lo, hi, true) := by simpa using k2.symm
  subst e
  exact ⟨fun _ => ⟨hok, j2⟩, fun _ => rfl⟩
theorem choice_len {f : Int → List Int} {g : List Int → Nat} : ∀ {bs : List (List Int)} {ch : List Int}, Choice bs ch → (∀ b ∈ bs, ∀ x ∈ b, (f x).length = g b) → (ch.flatMap f).length = (bs.map g).sum
 | [], [], _, _ => rfl
 | [], _ :: _, h, _ => h.elim
 | _ :: _, [], h, _ => h.elim
 | b :: bs, y :: ys, h, hg => by
  rw [List.flatMap_cons, List.length_append, List.map_cons, List.sum_cons, hg b (List.mem_cons_self ..) y h.1, choice_len h.2 fun b' hb' => hg b' (List.mem_cons_of_mem _ hb')]
theorem vals_len {d : Database} {r c : Int} (hok : ColOK d r c) (hs : DbS d) {ch ch' : List Int} (h : Choice (blocksOf d) ch) (h' : Choice (blocksOf d) ch') : (ch.flatMap (pickV d r c)).length = (ch'.flatMap (pickV d r c)).length := by
 have key : ∀ b ∈ blocksOf d, ∀ x ∈ b, (pickV d r c x).length = if relF d (b.headD 0) = r then 1 else 0 := fun b hb x hx => by
  have hp := block_pick hok hs hb
  by_cases hr : relF d (b.headD 0) = r
  ·rw [if_pos hr, (hp.1 hr x hx).1]; rfl
  ·rw [if_neg hr, hp.2 hr x hx]; rfl
 rw [choice_len h key, choice_len h' key]
theorem Ends.le {bs : List (List Int)} {ag : List Int → Int} {lo hi : Int} (h : Ends bs ag lo hi) : lo ≤ hi := by
 obtain ⟨c, h1, h2⟩ := h.lo_at
 have := h.hi_ge c h1; omega
theorem law_CountRangeD (code : List Int) (hc : ∀ x ∈ code, 0 ≤ x ∧ x ≤ 255) : m_laws_FnCountRange 1048578 code = some true := by
 unfold m_laws_FnCountRange m_laws_big
 refine Ok.to (.bind (Ok.of rfl) fun b hb => ?_)
 subst hb
 refine .cond (fun _ => .ret rfl) fun hbig => ?_
 have hl : code.length ≤ 1048576 := by have := of_decide_eq_false hbig; omega
 have hdraw : Ok (m_spec_DrawCountRange 1048578 code) fun r => DbD r.1 := by
  unfold m_spec_DrawCountRange
  exact .bind (l27Draw_ok hl (by omega)) fun r1 h1 => .bind (l1Below_ok h1.1 4) fun r3 h3 => .ret h1.2
 refine .bind hdraw fun r hr => ?_
 obtain ⟨d, rr, c, v⟩ := r
 simp only at hr ⊢
 have hs := hr.s
 obtain ⟨w1, k1, k2, k3, k4⟩ := full_CountRange d rr c v hs
 obtain ⟨w2, l1, l2, l3, l4⟩ := key_DistinctRange d rr c hs
 have hsame : w1.2.2 = w2.2.2 := by
  by_cases hok : ColOK d rr c
  ·rw [k4 hok, l4 hok]
  ·have a1 : w1.2.2 = false := by
    cases h : w1.2.2 with
    | false => rfl
    | true => exact (hok (k3 h).1).elim
   have a2 : w2.2.2 = false := by
    cases h : w2.2.2 with
    | false => rfl
    | true => exact (hok (l3 h).1).elim
   rw [a1, a2]
 refine .eq k2 (.eq k1 (.eq l2 (.eq l1 (.cf (by simp [hsame]) (.cond (fun _ => .ret rfl) fun hw => ?_)))))
 have hw1 : w1.2.2 = true := by simpa using hw
 obtain ⟨hok, j1⟩ := k3 hw1
 obtain ⟨_, j2⟩ := l3 (by rw [← hsame]; exact hw1)
 obtain ⟨lo, hi, f1⟩ := w1
 obtain ⟨p, q, f2⟩ := w2
 simp only at j1 j2 ⊢
 have hd := hok.1
 obtain ⟨hcr, hp⟩ := spec_CountRepairs_eq hd hs (u := 1048578) (by omega)
 have hbn : ∀ b ∈ blocksOf d, b ≠ [] := blocksOf_ne
 obtain ⟨c1, a1, b1⟩ := j1.lo_at
 obtain ⟨c2, a2, b2⟩ := j1.hi_at
 obtain ⟨c4, a4, b4⟩ := j2.hi_at
 have hpq := j2.le
 obtain ⟨n1, x1, rfl⟩ := nth_all a1
 obtain ⟨n2, x2, rfl⟩ := nth_all a2
 refine .while (fun (s : Bool × Bool × Int) => ∃ n : Nat, s.2.2 = (n : Int) ∧ n ≤ prodL (blocksOf d) ∧ (n1 < n → s.1 = true) ∧ (n2 < n → s.2.1 = true)) (fun (s : Bool × Bool × Int) => prodL (blocksOf d) - s.2.2.toNat) (fun (s : Bool × Bool × Int) => s.1 = true ∧ s.2.1 = true) (fun _ => False) (by simp only; omega) ⟨0, rfl, by omega, fun h => by omega, fun h => by omega⟩ (fun ⟨least, most, k⟩ ⟨n, h1, h2, h3, h4⟩ => ?_) (fun ⟨least, most, k⟩ h => ?_) (fun r hr => hr.elim)
 ·simp only at h1 h3 h4
  subst h1
  refine .eq hcr (.cond (fun h => ?_) fun h => .brk ?_)
  ·have hlt : n < prodL (blocksOf d) := by have := of_decide_eq_true h; simp only at this; omega
   have hch := nth_choice n hbn
   refine .eq (spec_NthRepair_eq hd hs (by omega) hlt) ?_
   have i1 := j1.lo_le _ hch
   have i2 := j1.hi_ge _ hch
   have i3 : q ≤ ((nth (blocksOf d) n).flatMap (pickV d rr c)).length := by
    have := (dn_le (c4.flatMap (pickV d rr c))).2
    rw [b4, vals_len hok hs a4 hch] at this; exact this
   have e1 : n1 = n → cnt v ((nth (blocksOf d) n).flatMap (pickV d rr c)) = lo := fun e => by subst e; exact b1
   have e2 : n2 = n → cnt v ((nth (blocksOf d) n).flatMap (pickV d rr c)) = hi := fun e => by subst e; exact b2
   generalize nth (blocksOf d) n = ch at *
   have hsm := pick_small hok hs hch
   refine .forS (fun m s => s.1 = cnt v ((ch.take m).flatMap (pickV d rr c)) ∧ s.2 = (((ch.take m).flatMap (pickV d rr c)).length : Int)) ⟨rfl, rfl⟩ (fun m z ⟨cn, cm⟩ hz hI => ?_) (fun ⟨cn, cm⟩ hI => ?_)
   ·simp only at hI
    obtain ⟨hI1, hI2⟩ := hI
    have hzm := List.mem_of_getElem? hz
    obtain ⟨b, hb, hzb⟩ := hch.mem z hzm
    obtain ⟨_, j, _, hj, rfl, _⟩ := blocksOf_mem hb hzb
    have htk : (ch.take (m + 1)).flatMap (pickV d rr c) = (ch.take m).flatMap (pickV d rr c) ++ pickV d rr c (j : Int) := by
     rw [List.take_add_one, hz]; simp
    have hle : ((ch.take m).flatMap (pickV d rr c)).length ≤ 14 := by
     have e : ch.flatMap (pickV d rr c) = (ch.take m).flatMap (pickV d rr c) ++ (ch.drop m).flatMap (pickV d rr c) := by rw [← List.flatMap_append, List.take_append_drop]
     have h1 := hsm.2
     rw [e, List.length_append] at h1; omega
    have hcl := cnt_le v ((ch.take m).flatMap (pickV d rr c))
    refine .get rfl hj ?_
    by_cases hr : d.facts[j].relation = rr
    ·obtain ⟨v1, v2, v3, v4⟩ := valF_at hok hj hr (hs.2.2.2 _ (List.getElem_mem hj))
     rw [htk, v2, cnt_app, List.length_append]
     subst hI1 hI2
     refine .ct (decide_eq_true hr) (.eq v1 (.cond (fun h => .ret ⟨?_, ?_⟩) fun h => .ret ⟨?_, ?_⟩))
     ·simp only
      rw [w64_id (by omega)]
      have := of_decide_eq_true h
      simp [cnt, this]
     ·simp only
      rw [w64_id (by omega)]; simp
     ·simp only
      have := of_decide_eq_false h
      simp [cnt, this]
     ·simp only
      rw [w64_id (by omega)]; simp
    ·have hpk : pickV d rr c (j : Int) = [] := by simp only [pickV, Int.toNat_natCast, List.getElem?_eq_getElem hj, if_neg hr]
     rw [htk, hpk, List.append_nil]
     exact .cf (decide_eq_false hr) (.ret ⟨hI1, hI2⟩)
   ·simp only at hI
    rw [List.take_length] at hI
    obtain ⟨rfl, rfl⟩ := hI
    refine .cf (by rw [decide_eq_false (by omega), decide_eq_false (by omega), decide_eq_false (by omega)]; rfl) ?_
    have hdec : ∀ m : Nat, m < n + 1 → m < n ∨ m = n := fun m h => by omega
    have fin : ∀ y' : Bool, y' = (most || decide (cnt v (ch.flatMap (pickV d rr c)) = hi)) → (fun s' : Bool × Bool × Int => (∃ n : Nat, s'.2.2 = (n : Int) ∧ n ≤ prodL (blocksOf d) ∧ (n1 < n → s'.1 = true) ∧ (n2 < n → s'.2.1 = true)) ∧ prodL (blocksOf d) - s'.2.2.toNat < prodL (blocksOf d) - (n : Int).toNat) (least || decide (cnt v (ch.flatMap (pickV d rr c)) = lo), y', w64 ((n : Int) + 1)) := fun y' hy' => by
     refine ⟨⟨n + 1, by simp only; rw [w64_id (by omega)]; simp, hlt, fun h => ?_, fun h => ?_⟩, by simp only; rw [w64_id (by omega)]; simp only [Int.toNat_natCast]; omega⟩
     ·simp only
      rcases hdec _ h with h | h
      ·rw [h3 h]; rfl
      ·rw [e1 h]; simp
     ·simp only
      rw [hy']
      rcases hdec _ h with h | h
      ·rw [h4 h]; rfl
      ·rw [e2 h]; simp
    exact .cond (fun h => .next (fin true (by have h : most = true := h; rw [h]; rfl))) fun h => .next (fin _ (by have h : most = false := h; rw [h]; rfl))
  ·have : n = prodL (blocksOf d) := by have := of_decide_eq_false h; simp only at this; omega
   exact ⟨h3 (by omega), h4 (by omega)⟩
 ·simp only at h
  obtain ⟨rfl, rfl⟩ := h
  exact .ret (by simpa using hpq)
end Go.Proofs.Ytlcpdlngbofgcaa

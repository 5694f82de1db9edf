import Derived.Test.YtmecnecfkgneoaaCRC
import Derived.Test.YtmecnecfkgneoaaM0
import Derived.Test.YtmecnecfkgneoaaCRD
set_option linter.unusedVariables false
set_option linter.unusedSimpArgs false
namespace Go.Proofs.Ytmecnecfkgneoaa
open Go Go.Proofs Go.Sep
theorem cond_nt {α : Type} {x y : α} : cond (!true) x y = y := rfl
theorem szIntS_b (a : List Int) (hl : a.length ≤ 9223372036854775807) (left : Int) (h0 : 0 ≤ left) (h1 : left ≤ 1048576) : ∃ r, m_laws_szIntS a left = some r ∧ (r = -1 ∨ (0 ≤ r ∧ r ≤ left ∧ a.length ≤ 1048576)) := by
 unfold m_laws_szIntS
 rw [w64_id (by omega)]
 by_cases h : left < a.length
 ·rw [cond_T' (by simp; omega)]; exact ⟨_, rfl, .inl rfl⟩
 ·rw [cond_F' (by simp; omega)]; exact ⟨_, rfl, .inr ⟨by omega, by omega, by omega⟩⟩
theorem szRelation_b (a : Relation) (hl : a.name.size ≤ 9223372036854775807) (left : Int) (h0 : 0 ≤ left) (h1 : left ≤ 1048576) : ∃ r, m_laws_szRelation a left = some r ∧ (r = -1 ∨ (0 ≤ r ∧ r ≤ left ∧ a.name.size ≤ 1048576)) := by
 unfold m_laws_szRelation
 rw [w64_id (by omega)]
 by_cases h : left < a.name.size
 ·rw [cond_T' (by simp; omega)]; exact ⟨_, rfl, .inl rfl⟩
 ·rw [cond_F' (by simp; omega)]; exact ⟨_, rfl, .inr ⟨by omega, by omega, by omega⟩⟩
theorem szFact_b (a : Fact) (hl : a.values.length ≤ 9223372036854775807) (left : Int) (h0 : 0 ≤ left) (h1 : left ≤ 1048576) : ∃ r, m_laws_szFact a left = some r ∧ (r = -1 ∨ (0 ≤ r ∧ r ≤ left ∧ a.values.length ≤ 1048576)) := by
 unfold m_laws_szFact
 obtain ⟨r, h2, h3⟩ := szIntS_b a.values hl left h0 h1
 rw [h2, Option.bind_some]
 rcases h3 with rfl | h3
 ·exact ⟨_, rfl, .inl rfl⟩
 ·rw [cond_F' (by simp; omega)]; exact ⟨_, rfl, .inr h3⟩
def DbM (d : Database) : Prop := d.relations.length ≤ 9223372036854775807 ∧ d.facts.length ≤ 9223372036854775807 ∧ (∀ r ∈ d.relations, r.name.size ≤ 9223372036854775807) ∧ ∀ f ∈ d.facts, f.values.length ≤ 9223372036854775807
def DbS (d : Database) : Prop := d.relations.length ≤ 1048576 ∧ d.facts.length ≤ 1048576 ∧ (∀ r ∈ d.relations, r.name.size ≤ 1048576) ∧ ∀ f ∈ d.facts, f.values.length ≤ 1048576
theorem szDatabase_b (d : Database) (hd : DbM d) (left : Int) (h0 : 0 ≤ left) (h1 : left ≤ 1048576) : ∃ r, m_laws_szDatabase d left = some r ∧ (r = -1 ∨ (0 ≤ r ∧ r ≤ left ∧ DbS d)) := by
 obtain ⟨r1, h2, h3⟩ := sz_loop (fun r : Relation => r.name.size ≤ 1048576) (a := d.relations) (fun x hx l => szRelation_b x (hd.2.2.1 x hx) l) h0 h1 hd.1
 have h2' : m_laws_szRelationS d.relations left = some r1 := h2
 unfold m_laws_szDatabase
 rw [h2', Option.bind_some]
 rcases h3 with rfl | ⟨h3, h4, h5⟩
 ·exact ⟨_, rfl, .inl rfl⟩
 ·rw [cond_F' (by simp; omega)]
  obtain ⟨r2, h6, h7⟩ := sz_loop (fun f : Fact => f.values.length ≤ 1048576) (a := d.facts) (fun x hx l => szFact_b x (hd.2.2.2 x hx) l) h3 (by omega) hd.2.1
  have h6' : m_laws_szFactS d.facts r1 = some r2 := h6
  rw [h6', Option.bind_some]
  rcases h7 with rfl | ⟨h7, h8, h9⟩
  ·exact ⟨_, rfl, .inl rfl⟩
  ·rw [cond_F' (by simp; omega)]; exact ⟨_, rfl, .inr ⟨h7, by omega, by omega, by omega, h5, h9⟩⟩
theorem toIntS_id (a : List Int) (hl : a.length ≤ 1048576) : m_laws_toIntS a = some a := by
 unfold m_laws_toIntS
 rw [mk_ok (by omega) (by omega), Option.bind_some, forS_fill (fun x => x) (by simp) fun n x zs hx hz => ?_]
 ·simp
 ·have hn : n < zs.length := by have := (List.getElem?_eq_some_iff.1 hx).1; omega
  rw [getI_lt hn]; simp
theorem toDatabase_id (d : Database) (hd : DbS d) : m_laws_toDatabase d = some d := by
 have h1 : m_laws_toRelationS d.relations = some d.relations := by
  have := to_loop (b := 32) (z := (default : Relation)) (g := m_laws_toRelation) (fun x => x) (a := d.relations) (fun x _ => rfl) hd.1 (by omega)
  rw [List.map_id'] at this; exact this
 have h2 : m_laws_toFactS d.facts = some d.facts := by
  have := to_loop (b := 32) (z := (default : Fact)) (g := m_laws_toFact) (fun x => x) (a := d.facts) (fun x hx => by unfold m_laws_toFact; rw [toIntS_id _ (hd.2.2.2 x hx)]; rfl) hd.2.1 (by omega)
  rw [List.map_id'] at this; exact this
 unfold m_laws_toDatabase
 rw [h1, Option.bind_some, h2, Option.bind_some]
theorem eqIntS_self (a : List Int) : m_laws_eqIntS a a = some true := by
 unfold m_laws_eqIntS
 rw [cond_F' (by simp)]
 obtain ⟨o, h1, h2⟩ := forL_ok (xs := a) (s := ()) (f := fun (i_2 : Int) (x_i_2 : Int) (_ : Unit) => (getI a (i_2 : Int)).bind fun v_4 => cond (decide (x_i_2 ≠ v_4)) (some (.ret false)) (some (.next ())))
  (fun _ _ => True) (fun _ => False) (fun (_ : Bool) => False) trivial fun n x s hx _ => by
   rw [getI_nat, hx, Option.bind_some, cond_F' (by simp)]
   exact ⟨_, rfl, trivial⟩
 rw [h1, Option.bind_some]
 cases o with
 | inl s => rfl
 | inr r => exact h2.elim
theorem eqRelation_self (a : Relation) : m_laws_eqRelation a a = some true := by simp [m_laws_eqRelation]
theorem eqFact_self (a : Fact) : m_laws_eqFact a a = some true := by
 unfold m_laws_eqFact
 rw [cond_F' (by simp), eqIntS_self]; rfl
theorem eqDatabase_self (d : Database) : m_laws_eqDatabase d d = some true := by
 have h1 : m_laws_eqRelationS d.relations d.relations = some true := eq_loop (fun x _ => eqRelation_self x)
 have h2 : m_laws_eqFactS d.facts d.facts = some true := eq_loop (fun x _ => eqFact_self x)
 unfold m_laws_eqDatabase
 rw [h1, Option.bind_some, h2]; rfl
theorem cmpL_drop {a b : List Int} {i : Nat} (h1 : i < a.length) (h2 : i < b.length) : cmpL (a.drop i) (b.drop i) = if a[i] < b[i] then -1 else if b[i] < a[i] then 1 else cmpL (a.drop (i + 1)) (b.drop (i + 1)) := by
 rw [List.drop_eq_getElem_cons h1, List.drop_eq_getElem_cons h2]; rfl
theorem cmpL_nil_r (a : List Int) : cmpL a [] = if a.length = 0 then 0 else 1 := by cases a <;> simp [cmpL]
theorem cmpL_nil_l (b : List Int) : cmpL [] b = if b.length = 0 then 0 else -1 := by cases b <;> simp [cmpL]
theorem cmp_Compare_eq (x y : Int) : m_cmp_Compare_int x y = some (if x < y then -1 else if y < x then 1 else 0) := by
 unfold m_cmp_Compare_int m_cmp_isNaN_int
 simp only [Option.bind_some, ne_eq, not_true_eq_false, decide_false, cond_false]
 by_cases h1 : x < y
 ·simp [h1]
 ·by_cases h2 : y < x <;> simp [h1, h2]
theorem slices_Compare_from (a b : List Int) : ∀ (k i : Nat), i + k = a.length → (forL (R := Int) (fun (t_1 : Int) (x_t_1 : Int) (_ : Unit) => cond (decide ((b.length : Int) ≤ (t_1 : Int))) (some (.ret 1)) ((getI b (t_1 : Int)).bind fun v_4 => (m_cmp_Compare_int x_t_1 v_4).bind fun r_9 => cond (decide (r_9 ≠ 0)) (some (.ret r_9)) (some (.next ())))) (a.drop i) (i : Int) ()).bind (fun O2_ => onS O2_ (fun (_ : Unit) => cond (decide ((a.length : Int) < (b.length : Int))) (some (-1)) (some 0)) (fun r => some r)) = some (cmpL (a.drop i) (b.drop i))
 | 0, i, hk => by
  rw [List.drop_eq_nil_of_le (show a.length ≤ i by omega), cmpL_nil_l]
  simp only [forL, Option.bind_some, onS, List.length_drop]
  by_cases h : a.length < b.length
  ·rw [cond_T' (by simpa using h), if_neg (by omega)]
  ·rw [cond_F' (by simpa using h), if_pos (by omega)]
 | k + 1, i, hk => by
  have hi : i < a.length := by omega
  rw [List.drop_eq_getElem_cons hi]
  simp only [forL]
  by_cases hb : b.length ≤ i
  ·rw [cond_T' (by simpa using hb), List.drop_eq_nil_of_le hb]; rfl
  ·rw [cond_F' (by simpa using hb), getI_lt (show i < b.length by omega), Option.bind_some, cmp_Compare_eq, Option.bind_some]
   rw [← List.drop_eq_getElem_cons hi, cmpL_drop hi (by omega)]
   by_cases h1 : a[i] < b[i]
   ·simp [h1, onS]
   ·by_cases h2 : b[i] < a[i]
    ·simp [h1, h2, onS]
    ·simp only [h1, h2, if_false, ne_eq, not_true_eq_false, decide_false, cond_false, Option.bind_some]
     exact slices_Compare_from a b k (i + 1) (by omega)
theorem slices_Compare_eq (a b : List Int) : m_slices_Compare_Sint_int a b = some (cmpL a b) := slices_Compare_from a b a.length 0 (by omega)
theorem l3Ints_cmp (a b : List Int) (u : Nat) (hu : a.length < u) (ha : a.length ≤ 1048576) (hb : b.length ≤ 9223372036854775807) : m_spec_l3Ints u a b = some (cmpL a b) := by
 unfold m_spec_l3Ints
 obtain ⟨o, h1, h2⟩ := while_ok (f := fun (i5 : Int) => cond ((decide (i5 < (a.length : Int))) && (decide (i5 < (b.length : Int)))) ((getI a i5).bind fun v_6 => (getI b i5).bind fun v_11 => cond (decide (v_6 < v_11)) (some (.ret (-1))) (cond (decide (v_11 < v_6)) (some (.ret 1)) (some (.next (w64 (i5 + 1)))))) (some (.brk i5)))
  (fun i => ∃ n : Nat, i = n ∧ n ≤ a.length ∧ n ≤ b.length ∧ cmpL a b = cmpL (a.drop n) (b.drop n)) (fun i => a.length - i.toNat) (fun i => ∃ n : Nat, i = n ∧ n ≤ a.length ∧ n ≤ b.length ∧ cmpL a b = cmpL (a.drop n) (b.drop n) ∧ (n = a.length ∨ n = b.length)) (fun (r : Int) => r = cmpL a b)
  (fun i ⟨n, hi, hn1, hn2, hI⟩ => by
   subst hi
   by_cases h : n < a.length ∧ n < b.length
   ·rw [cond_T' (by simp; omega), getI_lt h.1, Option.bind_some, getI_lt h.2, Option.bind_some]
    rw [cmpL_drop h.1 h.2] at hI
    by_cases c1 : a[n] < b[n]
    ·rw [cond_T' (by simpa using c1)]; exact ⟨_, rfl, by rw [if_pos c1] at hI; exact hI.symm⟩
    ·rw [cond_F' (by simpa using c1)]
     rw [if_neg c1] at hI
     by_cases c2 : b[n] < a[n]
     ·rw [cond_T' (by simpa using c2)]; exact ⟨_, rfl, by rw [if_pos c2] at hI; exact hI.symm⟩
     ·rw [cond_F' (by simpa using c2), w64_id (by omega)]
      rw [if_neg c2] at hI
      exact ⟨_, rfl, ⟨n + 1, by omega, h.1, h.2, hI⟩, by have := h.1; omega⟩
   ·rw [cond_F' (by simp; omega)]
    exact ⟨_, rfl, n, rfl, hn1, hn2, hI, by omega⟩)
  u 0 (by simpa using hu) ⟨0, rfl, by omega, by omega, rfl⟩
 rw [h1, Option.bind_some]
 cases o with
 | inr r => simp only [onS]; rw [h2]
 | inl i =>
  obtain ⟨n, rfl, hn1, hn2, hI, hn⟩ := h2
  simp only [onS]
  rw [hI]
  by_cases c1 : a.length < b.length
  ·have e : n = a.length := by omega
   rw [cond_T' (by simpa using c1), e, List.drop_eq_nil_of_le (Nat.le_refl _), cmpL_nil_l, if_neg (by simp; omega)]
  ·rw [cond_F' (by simpa using c1)]
   by_cases c2 : b.length < a.length
   ·have e : n = b.length := by omega
    rw [cond_T' (by simpa using c2), e, List.drop_eq_nil_of_le (Nat.le_refl b.length), cmpL_nil_r, if_neg (by simp; omega)]
   ·have e : n = a.length := by omega
    rw [cond_F' (by simpa using c2), e, List.drop_eq_nil_of_le (Nat.le_refl _), cmpL_nil_l, if_pos (by simp; omega)]
theorem validRelation_tot (r : Relation) : ∃ b, m_impl_IsValidRelation r = some b := by
 unfold m_impl_IsValidRelation m_impl_within
 by_cases h : r.name.size = 1
 ·have hb : ∃ z, getB r.name 0 = some z := by
   have h0 : 0 < r.name.size := by omega
   exact ⟨((r.name[0]'h0).toNat : Int), by unfold getB; rw [if_pos (by omega)]; simp [h0]⟩
  obtain ⟨z, hz⟩ := hb
  rw [cond_T' (by simp [h])]
  simp only [hz, Option.bind_some]
  cases decide (97 ≤ z) <;> cases decide (z ≤ 122) <;> simp only [cond_true, cond_false, Option.bind_some] <;> first | exact ⟨_, rfl⟩ | skip
  cases (decide (1 ≤ r.arity) && decide (r.arity ≤ 3)) <;> exact ⟨_, rfl⟩
 ·rw [cond_F' (by simp; omega)]; exact ⟨_, rfl⟩
theorem validRelations_tot (l : List Relation) : ∃ b, m_impl_AreValidRelations l = some b := by
 unfold m_impl_AreValidRelations
 obtain ⟨o, h1, h2⟩ := forL_ok (xs := l) (s := ()) (f := fun (t_1 : Int) (x_t_1 : Relation) (_ : Unit) => ((m_impl_IsValidRelation x_t_1).bind fun r_5 => cond (!r_5) (some true) (cond (decide (0 < (t_1 : Int))) ((getI l ((t_1 : Int) - 1)).bind fun v_9 => some (!ltS v_9.name x_t_1.name)) (some false))).bind fun (t29 : Bool) => cond t29 (some (.ret false)) (some (.next ())))
  (fun _ _ => True) (fun _ => False) (fun (_ : Bool) => True) trivial fun n x s hx _ => by
   obtain ⟨b, hb⟩ := validRelation_tot x
   have hn : n < l.length := (List.getElem?_eq_some_iff.1 hx).1
   rw [hb, Option.bind_some]
   have key : ∃ t, cond (!b) (some true) (cond (decide (0 < (n : Int))) ((getI l ((n : Int) - 1)).bind fun v_9 => some (!ltS v_9.name x.name)) (some false)) = some t := by
    cases b with
    | false => exact ⟨_, rfl⟩
    | true =>
     by_cases h0 : 0 < n
     ·have e : (n : Int) - 1 = ((n - 1 : Nat) : Int) := by omega
      rw [cond_nt, cond_T' (by simpa using h0), e, getI_lt (show n - 1 < l.length by omega)]; exact ⟨_, rfl⟩
     ·rw [cond_nt, cond_F' (by simpa using h0)]; exact ⟨_, rfl⟩
   obtain ⟨t, ht⟩ := key
   rw [ht, Option.bind_some]
   cases t <;> exact ⟨_, rfl, trivial⟩
 rw [h1, Option.bind_some]
 cases o <;> exact ⟨_, rfl⟩
theorem spec_validRelations (l : List Relation) : m_spec_AreValidRelations l = m_impl_AreValidRelations l := rfl
def FactOK (l : List Relation) (f : Fact) : Prop := ∃ (n : Nat) (r : Relation), f.relation = n ∧ l[n]? = some r ∧ (f.values.length : Int) = r.arity ∧ ∀ v ∈ f.values, 0 ≤ v ∧ v ≤ 9
theorem areValues_eq (l : List Int) : ∃ b, m_impl_areValues l = some b ∧ (b = true ↔ ∀ v ∈ l, 0 ≤ v ∧ v ≤ 9) := by
 unfold m_impl_areValues m_slices_ContainsFunc_Sint_int m_slices_IndexFunc_Sint_int
 obtain ⟨o, h1, h2⟩ := forL_ok (xs := l) (s := ()) (f := fun (t_1 : Int) (x_t_1 : Int) (_ : Unit) => (m_impl_areValues_1 x_t_1).bind fun r_3 => cond r_3 (some (.ret (t_1 : Int))) (some (.next ())))
  (fun n _ => ∀ (j : Nat) x, j < n → l[j]? = some x → 0 ≤ x ∧ x ≤ 9) (fun _ => False) (fun r => 0 ≤ r ∧ ∃ x ∈ l, ¬ (0 ≤ x ∧ x ≤ 9)) (fun j x hj => by omega) fun n x s hx hI => by
   simp only [m_impl_areValues_1, m_impl_within, Option.bind_some]
   by_cases hp : 0 ≤ x ∧ x ≤ 9
   ·rw [cond_F' (by simp [hp])]
    refine ⟨_, rfl, fun j y hj hy => ?_⟩
    by_cases e : j = n
    ·subst e; rw [hx] at hy; cases hy; exact hp
    ·exact hI j y (by omega) hy
   ·rw [cond_T' (by simp; omega)]
    exact ⟨_, rfl, by omega, x, List.mem_of_getElem? hx, hp⟩
 rw [h1]
 cases o with
 | inl s =>
  refine ⟨_, rfl, ?_⟩
  have := h2.resolve_right id
  refine ⟨fun _ v hv => ?_, fun _ => by simp⟩
  obtain ⟨j, hj⟩ := List.getElem?_of_mem hv
  exact this j v (List.getElem?_eq_some_iff.1 hj).1 hj
 | inr r =>
  refine ⟨_, rfl, ?_⟩
  obtain ⟨h3, x, hx, hp⟩ := h2
  refine ⟨fun h => by simp at h; omega, fun h => (hp (h x hx)).elim⟩
theorem isFact_eq (l : List Relation) (f : Fact) : ∃ b, m_impl_isFact l f = some b ∧ (b = true ↔ FactOK l f) := by
 unfold m_impl_isFact m_impl_within
 simp only [Option.bind_some]
 by_cases h : 0 ≤ f.relation ∧ f.relation ≤ (l.length : Int) - 1
 ·rw [cond_T' (by simp [h])]
  obtain ⟨n, hn⟩ : ∃ n : Nat, f.relation = n := ⟨f.relation.toNat, by omega⟩
  have hnl : n < l.length := by omega
  rw [hn, getI_lt hnl, Option.bind_some]
  by_cases ha : (f.values.length : Int) = l[n].arity
  ·rw [cond_T' (by simpa using ha)]
   obtain ⟨b, h1, h2⟩ := areValues_eq f.values
   rw [h1]
   refine ⟨b, rfl, h2.trans ⟨fun hv => ⟨n, l[n], hn, List.getElem?_eq_getElem hnl, ha, hv⟩, fun ⟨_, _, _, _, _, hv⟩ => hv⟩⟩
  ·rw [cond_F' (by simpa using ha)]
   refine ⟨false, rfl, by simp, fun ⟨n', r, h3, h4, h5, _⟩ => ?_⟩
   have : n' = n := by omega
   subst this
   rw [List.getElem?_eq_getElem hnl] at h4; cases h4
   exact (ha h5).elim
 ·rw [cond_F' (by simp; omega)]
  refine ⟨false, rfl, by simp, fun ⟨n', r, h3, h4, _⟩ => ?_⟩
  have := (List.getElem?_eq_some_iff.1 h4).1
  omega
theorem spec_isFact_eq (u : Nat) (l : List Relation) (f : Fact) (hu : f.values.length < u) (hf : f.values.length ≤ 1048576) : ∃ b, m_spec_IsValidFact u l f = some b ∧ (b = true ↔ m_impl_AreValidRelations l = some true ∧ FactOK l f) := by
 unfold m_spec_IsValidFact m_spec_l1In
 rw [spec_validRelations]
 obtain ⟨bl, hbl⟩ := validRelations_tot l
 rw [hbl, Option.bind_some]
 cases bl with
 | false => exact ⟨false, rfl, by simp⟩
 | true =>
  rw [cond_nt]
  simp only [Option.bind_some]
  by_cases h : 0 ≤ f.relation ∧ f.relation ≤ (l.length : Int) - 1
  ·rw [cond_F' (by simp [h])]
   obtain ⟨n, hn⟩ : ∃ n : Nat, f.relation = n := ⟨f.relation.toNat, by omega⟩
   have hnl : n < l.length := by omega
   rw [hn, getI_lt hnl, Option.bind_some, Option.bind_some]
   by_cases ha : (f.values.length : Int) = l[n].arity
   ·rw [cond_F' (by simpa using ha)]
    obtain ⟨o, h1, h2⟩ := while_ok (f := fun (i5 : Int) => cond (decide (i5 < (f.values.length : Int))) ((getI f.values i5).bind fun v_18 => (some ((decide (0 ≤ v_18)) && (decide (v_18 ≤ 9)))).bind fun r_23 => cond (!r_23) (some (.ret false)) (some (.next (w64 (i5 + 1))))) (some (.brk i5)))
     (fun i => ∃ n : Nat, i = n ∧ n ≤ f.values.length ∧ ∀ (j : Nat) x, j < n → f.values[j]? = some x → 0 ≤ x ∧ x ≤ 9) (fun i => f.values.length - i.toNat) (fun i => ∀ v ∈ f.values, 0 ≤ v ∧ v ≤ 9) (fun (r : Bool) => r = false ∧ ¬ ∀ v ∈ f.values, 0 ≤ v ∧ v ≤ 9)
     (fun i ⟨n, hi, hn1, hI⟩ => by
      subst hi
      by_cases h : n < f.values.length
      ·rw [cond_T' (by simpa using h), getI_lt h, Option.bind_some, Option.bind_some]
       by_cases hp : 0 ≤ f.values[n] ∧ f.values[n] ≤ 9
       ·rw [cond_F' (by simp [hp]), w64_id (by omega)]
        refine ⟨_, rfl, ⟨n + 1, by omega, h, fun j x hj hx => ?_⟩, by omega⟩
        by_cases e : j = n
        ·subst e; rw [List.getElem?_eq_getElem h] at hx; cases hx; exact hp
        ·exact hI j x (by omega) hx
       ·rw [cond_T' (by simp; omega)]
        exact ⟨_, rfl, rfl, fun hv => hp (hv _ (List.getElem_mem h))⟩
      ·rw [cond_F' (by simpa using h)]
       refine ⟨_, rfl, fun v hv => ?_⟩
       obtain ⟨j, hj⟩ := List.getElem?_of_mem hv
       have := (List.getElem?_eq_some_iff.1 hj).1
       exact hI j v (by omega) hj)
     u 0 (by simpa using hu) ⟨0, rfl, by omega, fun j x hj => by omega⟩
    simp only [Option.bind_some] at h1
    rw [h1, Option.bind_some]
    cases o with
    | inl i => exact ⟨true, rfl, by simp; exact ⟨n, l[n], hn, List.getElem?_eq_getElem hnl, ha, h2⟩⟩
    | inr r =>
     obtain ⟨rfl, h3⟩ := h2
     exact ⟨false, rfl, by simp; rintro ⟨_, _, _, _, _, hv⟩; exact h3 hv⟩
   ·rw [cond_T' (by simpa using ha)]
    refine ⟨false, rfl, by simp, fun ⟨_, n', r, h3, h4, h5, _⟩ => ?_⟩
    have : n' = n := by omega
    subst this
    rw [List.getElem?_eq_getElem hnl] at h4; cases h4
    exact (ha h5).elim
  ·rw [cond_T' (by simp; omega)]
   refine ⟨false, rfl, by simp, fun ⟨_, n', r, h3, h4, _⟩ => ?_⟩
   have := (List.getElem?_eq_some_iff.1 h4).1
   omega
def cmpF (a b : Fact) : Int := if a.relation < b.relation then -1 else if b.relation < a.relation then 1 else cmpL a.values b.values
theorem impl_CompareFacts_eq (a b : Fact) : m_impl_CompareFacts a b = some (cmpF a b) := by
 unfold m_impl_CompareFacts m_impl_compare cmpF
 rw [slices_Compare_eq]
 by_cases h1 : a.relation < b.relation
 ·rw [cond_T' (by simp; omega), cond_T' (by simpa using h1), if_pos h1]; rfl
 ·by_cases h2 : b.relation < a.relation
  ·rw [cond_T' (by simp; omega), cond_F' (by simpa using h1), cond_T' (by simpa using h2), if_neg h1, if_pos h2]; rfl
  ·rw [cond_F' (by simp; omega), if_neg h1, if_neg h2]; rfl
theorem spec_CompareFacts_eq (u : Nat) (a b : Fact) (hu : a.values.length < u) (ha : a.values.length ≤ 1048576) (hb : b.values.length ≤ 1048576) : m_spec_CompareFacts u a b = some (cmpF a b) := by
 unfold m_spec_CompareFacts cmpF
 rw [l3Ints_cmp _ _ u hu ha (by omega)]
 by_cases h1 : a.relation < b.relation
 ·rw [cond_T' (by simpa using h1), if_pos h1]
 ·by_cases h2 : b.relation < a.relation
  ·rw [cond_F' (by simpa using h1), cond_T' (by simpa using h2), if_neg h1, if_pos h2]
  ·rw [cond_F' (by simpa using h1), cond_F' (by simpa using h2), if_neg h1, if_neg h2]; rfl
structure DbOK (d : Database) : Prop where
  rels : m_impl_AreValidRelations d.relations = some true
  few : d.facts.length ≤ 14
  fact : ∀ (n : Nat) f, d.facts[n]? = some f → FactOK d.relations f
  sorted : ∀ (n : Nat) f g, d.facts[n]? = some f → d.facts[n + 1]? = some g → cmpF f g < 0
theorem round_eq (d : Database) {n : Nat} (hn : n < d.facts.length) (b : Bool) (p : Prop) (hb : b = true ↔ p) : ∃ t, cond (!b) (some true) (cond (decide (0 < (n : Int))) ((getI d.facts ((n : Int) - 1)).bind fun v_15 => some (decide (0 ≤ cmpF v_15 d.facts[n]))) (some false)) = some t ∧ (t = false ↔ p ∧ ∀ m f, m + 1 = n → d.facts[m]? = some f → cmpF f d.facts[n] < 0) := by
 cases b with
 | false => exact ⟨true, rfl, by simp at hb; simp [hb]⟩
 | true =>
  have hp : p := hb.1 rfl
  by_cases h0 : 0 < n
  ·have e : (n : Int) - 1 = ((n - 1 : Nat) : Int) := by omega
   rw [cond_nt, cond_T' (by simpa using h0), e, getI_lt (show n - 1 < d.facts.length by omega)]
   refine ⟨_, rfl, ?_⟩
   simp only [decide_eq_false_iff_not, hp, true_and]
   constructor
   ·intro h m f hm hf
    have : m = n - 1 := by omega
    subst this
    rw [List.getElem?_eq_getElem (by omega)] at hf; cases hf; omega
   ·intro h
    have := h (n - 1) d.facts[n - 1] (by omega) (List.getElem?_eq_getElem (by omega)); omega
  ·rw [cond_nt, cond_F' (by simpa using h0)]
   exact ⟨_, rfl, by simp [hp]; intro m f hm; omega⟩
theorem impl_IsValidDatabase_eq (d : Database) : ∃ b, m_impl_IsValidDatabase d = some b ∧ (b = true ↔ DbOK d) := by
 unfold m_impl_IsValidDatabase
 obtain ⟨bl, hbl⟩ := validRelations_tot d.relations
 rw [hbl, Option.bind_some]
 cases bl with
 | false => exact ⟨false, rfl, by simp; intro h; have := h.rels; rw [hbl] at this; cases this⟩
 | true =>
  rw [cond_nt, Option.bind_some]
  by_cases hf : d.facts.length ≤ 14
  ·rw [cond_F' (by simp; omega)]
   obtain ⟨o, h1, h2⟩ := forL_ok (xs := d.facts) (s := ()) (f := fun (t_7 : Int) (x_t_7 : Fact) (_ : Unit) => ((m_impl_isFact d.relations x_t_7).bind fun r_11 => cond (!r_11) (some true) (cond (decide (0 < (t_7 : Int))) ((getI d.facts ((t_7 : Int) - 1)).bind fun v_15 => (m_impl_CompareFacts v_15 x_t_7).bind fun r_20 => some (decide (0 ≤ r_20))) (some false))).bind fun (t42 : Bool) => cond t42 (some (.ret false)) (some (.next ())))
    (fun n _ => ∀ (j : Nat) (h : j < d.facts.length), j < n → FactOK d.relations d.facts[j] ∧ ∀ m f, m + 1 = j → d.facts[m]? = some f → cmpF f d.facts[j] < 0) (fun _ => False) (fun r => r = false ∧ ¬ DbOK d) (fun j _ hj => by omega) fun n x s hx hI => by
     have hn : n < d.facts.length := (List.getElem?_eq_some_iff.1 hx).1
     rw [List.getElem?_eq_getElem hn] at hx; cases hx
     obtain ⟨b, h3, h4⟩ := isFact_eq d.relations d.facts[n]
     rw [h3, Option.bind_some]
     simp only [impl_CompareFacts_eq, Option.bind_some]
     obtain ⟨t, h5, h6⟩ := round_eq d hn b _ h4
     rw [h5, Option.bind_some]
     cases t with
     | false =>
      refine ⟨_, rfl, fun j hj hjn => ?_⟩
      by_cases e : j = n
      ·subst e; exact h6.1 rfl
      ·exact hI j hj (by omega)
     | true =>
      refine ⟨_, rfl, rfl, fun hok => ?_⟩
      have := h6.2 ⟨hok.fact n _ (List.getElem?_eq_getElem hn), fun m f hm hf => hok.sorted m f _ hf (by rw [hm]; exact List.getElem?_eq_getElem hn)⟩
      cases this
   rw [h1, Option.bind_some]
   cases o with
   | inl s =>
    have h3 := h2.resolve_right id
    refine ⟨true, rfl, fun _ => ⟨hbl, hf, fun n f hn => ?_, fun n f g hn hg => ?_⟩, fun _ => rfl⟩
    ·obtain ⟨hl, rfl⟩ := List.getElem?_eq_some_iff.1 hn; exact (h3 n hl hl).1
    ·obtain ⟨hl, rfl⟩ := List.getElem?_eq_some_iff.1 hg; exact (h3 (n + 1) hl hl).2 n f rfl hn
   | inr r => obtain ⟨rfl, h3⟩ := h2; exact ⟨false, rfl, by simp [h3]⟩
  ·rw [cond_T' (by simp; omega)]
   exact ⟨false, rfl, by simp; intro h; exact hf h.few⟩
theorem spec_IsValidDatabase_eq (u : Nat) (d : Database) (hd : DbS d) (hu : 1048577 < u) : ∃ b, m_spec_IsValidDatabase u d = some b ∧ (b = true ↔ DbOK d) := by
 unfold m_spec_IsValidDatabase
 have hfl := hd.2.1
 obtain ⟨o, h1, h2⟩ := while_ok (f := fun (i3 : Int) => cond (decide (i3 < (d.facts.length : Int))) (((getI d.facts i3).bind fun v_5 => (m_spec_IsValidFact u d.relations v_5).bind fun r_10 => cond (!r_10) (some true) (cond (decide (0 < i3)) ((getI d.facts (w64 (i3 - 1))).bind fun v_14 => (m_spec_CompareFacts u v_14 v_5).bind fun r_19 => some (decide (0 ≤ r_19))) (some false))).bind fun (t38 : Bool) => cond t38 (some (.ret false)) (some (.next (w64 (i3 + 1))))) (some (.brk i3)))
  (fun i => ∃ n : Nat, i = n ∧ n ≤ d.facts.length ∧ ∀ (j : Nat) (h : j < d.facts.length), j < n → FactOK d.relations d.facts[j] ∧ ∀ m f, m + 1 = j → d.facts[m]? = some f → cmpF f d.facts[j] < 0) (fun i => d.facts.length - i.toNat)
  (fun i => ∀ (j : Nat) (h : j < d.facts.length), FactOK d.relations d.facts[j] ∧ ∀ m f, m + 1 = j → d.facts[m]? = some f → cmpF f d.facts[j] < 0) (fun (r : Bool) => r = false ∧ ¬ DbOK d)
  (fun i ⟨n, hi, hn1, hI⟩ => by
   subst hi
   by_cases h : n < d.facts.length
   ·have hv := hd.2.2.2 _ (List.getElem_mem h)
    rw [cond_T' (by simpa using h), getI_lt h, Option.bind_some]
    obtain ⟨b, h3, h4⟩ := spec_isFact_eq u d.relations d.facts[n] (by omega) hv
    rw [h3, Option.bind_some, w64_id (x := (n : Int) - 1) (by omega)]
    have e : ((getI d.facts ((n : Int) - 1)).bind fun v_14 => (m_spec_CompareFacts u v_14 d.facts[n]).bind fun r_19 => some (decide (0 ≤ r_19))) = (getI d.facts ((n : Int) - 1)).bind fun v_15 => some (decide (0 ≤ cmpF v_15 d.facts[n])) := by
     cases hg : getI d.facts ((n : Int) - 1) with
     | none => rfl
     | some f =>
      obtain ⟨m, _, hm⟩ := getI_inv hg
      have hv2 := hd.2.2.2 f (List.mem_of_getElem? hm)
      rw [Option.bind_some, Option.bind_some, spec_CompareFacts_eq u f _ (by omega) hv2 hv]; rfl
    rw [e]
    obtain ⟨t, h5, h6⟩ := round_eq d h b _ h4
    rw [h5, Option.bind_some]
    cases t with
    | false =>
     rw [cond_F' rfl, w64_id (by omega)]
     refine ⟨_, rfl, ⟨n + 1, by omega, h, fun j hj hjn => ?_⟩, by omega⟩
     by_cases e : j = n
     ·subst e; have := h6.1 rfl; exact ⟨this.1.2, this.2⟩
     ·exact hI j hj (by omega)
    | true =>
     refine ⟨_, rfl, rfl, fun hok => ?_⟩
     have := h6.2 ⟨⟨hok.rels, hok.fact n _ (List.getElem?_eq_getElem h)⟩, fun m f hm hf => hok.sorted m f _ hf (by rw [hm]; exact List.getElem?_eq_getElem h)⟩
     cases this
   ·rw [cond_F' (by simpa using h)]
    exact ⟨_, rfl, fun j hj => hI j hj (by omega)⟩)
  u 0 (by simp; omega) ⟨0, rfl, by omega, fun j _ hj => by omega⟩
 rw [h1, Option.bind_some]
 cases o with
 | inr r => obtain ⟨rfl, h3⟩ := h2; exact ⟨false, rfl, by simp [h3]⟩
 | inl i =>
  simp only [onS, spec_validRelations]
  obtain ⟨bl, hbl⟩ := validRelations_tot d.relations
  rw [hbl, Option.bind_some]
  cases bl with
  | false => exact ⟨false, rfl, by simp; intro h; have := h.rels; rw [hbl] at this; cases this⟩
  | true =>
   refine ⟨_, rfl, ?_⟩
   simp only [decide_eq_true_eq]
   refine ⟨fun hf => ⟨hbl, by omega, fun n f hn => ?_, fun n f g hn hg => ?_⟩, fun h => by have := h.few; omega⟩
   ·obtain ⟨hl, rfl⟩ := List.getElem?_eq_some_iff.1 hn; exact (h2 n hl).1
   ·obtain ⟨hl, rfl⟩ := List.getElem?_eq_some_iff.1 hg; exact (h2 (n + 1) hl).2 n f rfl hn
end Go.Proofs.Ytmecnecfkgneoaa
set_option linter.unusedVariables false
set_option linter.unusedSimpArgs false
namespace Go.Proofs.Ytmecnecfkgneoaa
open Go Go.Proofs Go.Sep
def Choice : List (List Int) → List Int → Prop
 | [], [] => True
 | b :: bs, x :: xs => x ∈ b ∧ Choice bs xs
 | _, _ => False
theorem Choice.get : ∀ {bs : List (List Int)} {c : List Int}, Choice bs c → ∀ (i : Nat) b, bs[i]? = some b → ∃ x, c[i]? = some x ∧ x ∈ b
 | b :: bs, x :: xs, h, 0, b', hb => by simp at hb; subst hb; exact ⟨x, rfl, h.1⟩
 | b :: bs, x :: xs, h, i + 1, b', hb => by simpa using Choice.get h.2 i b' (by simpa using hb)
end Go.Proofs.Ytmecnecfkgneoaa
set_option linter.unusedVariables false
set_option linter.unusedSimpArgs false
namespace Go.Proofs.Ytmecnecfkgneoaa
open Go Go.Proofs Go.Sep
def keyLen (l : List Relation) (f : Fact) : Nat := match l[f.relation.toNat]? with
 | some r => r.keyLength.toNat
 | none => 0
def keyF (l : List Relation) (f : Fact) : Int × List Int := (f.relation, f.values.take (keyLen l f))
end Go.Proofs.Ytmecnecfkgneoaa
set_option linter.unusedVariables false
set_option linter.unusedSimpArgs false
namespace Go.Proofs.Ytmecnecfkgneoaa
open Go Go.Proofs Go.Sep
theorem cmpL_zero : ∀ (a b : List Int), cmpL a b = 0 ↔ a = b
 | [], [] => by simp [cmpL]
 | [], y :: b => by simp [cmpL]
 | x :: a, [] => by simp [cmpL]
 | x :: a, y :: b => by
  simp only [cmpL, List.cons.injEq]
  by_cases h1 : x < y
  ·rw [if_pos h1]; constructor
   ·intro h; omega
   ·intro h; omega
  ·by_cases h2 : y < x
   ·rw [if_neg h1, if_pos h2]; constructor
    ·intro h; omega
    ·intro h; omega
   ·rw [if_neg h1, if_neg h2, cmpL_zero a b]
    constructor
    ·intro h; exact ⟨by omega, h⟩
    ·intro h; exact h.2
theorem cmpL_trans : ∀ (a b c : List Int), cmpL a b ≤ 0 → cmpL b c ≤ 0 → cmpL a c ≤ 0
 | [], b, c, h1, h2 => by rw [cmpL_nil_l]; split <;> omega
 | x :: a, [], c, h1, h2 => by simp [cmpL] at h1
 | x :: a, y :: b, [], h1, h2 => by simp [cmpL] at h2
 | x :: a, y :: b, z :: c, h1, h2 => by
  simp only [cmpL] at h1 h2 ⊢
  by_cases c1 : x < z
  ·rw [if_pos c1]; omega
  ·rw [if_neg c1]
   by_cases c2 : x < y
   ·have : z < y := by omega
    rw [if_neg (by omega), if_pos this] at h2; omega
   ·rw [if_neg c2] at h1
    by_cases c3 : y < x
    ·rw [if_pos c3] at h1; omega
    ·rw [if_neg c3] at h1
     have : y = x := by omega
     subst this
     rw [if_neg c1] at h2
     by_cases c4 : z < y
     ·rw [if_pos c4] at h2; omega
     ·rw [if_neg c4] at h2 ⊢
      exact cmpL_trans a b c h1 h2
theorem cmpF_trans {a b c : Fact} (h1 : cmpF a b ≤ 0) (h2 : cmpF b c ≤ 0) : cmpF a c ≤ 0 := by
 unfold cmpF at *
 by_cases c1 : a.relation < c.relation
 ·rw [if_pos c1]; omega
 ·rw [if_neg c1]
  by_cases c2 : a.relation < b.relation
  ·rw [if_neg (by omega), if_pos (by omega)] at h2; omega
  ·rw [if_neg c2] at h1
   by_cases c3 : b.relation < a.relation
   ·rw [if_pos c3] at h1; omega
   ·rw [if_neg c3] at h1
    rw [if_neg (by omega)] at h2
    by_cases c4 : c.relation < b.relation
    ·rw [if_pos c4] at h2; omega
    ·rw [if_neg c4] at h2
     rw [if_neg (by omega)]
     exact cmpL_trans _ _ _ h1 h2
end Go.Proofs.Ytmecnecfkgneoaa
set_option linter.unusedVariables false
set_option linter.unusedSimpArgs false
namespace Go.Proofs.Ytmecnecfkgneoaa
open Go Go.Proofs Go.Sep
theorem cmpF_zero (a b : Fact) : cmpF a b = 0 ↔ a = b := by
 unfold cmpF
 cases a; cases b
 simp only [Fact.mk.injEq]
 constructor
 ·intro h
  split at h
  ·cases h
  ·split at h
   ·cases h
   ·exact ⟨by omega, (cmpL_zero _ _).1 h⟩
 ·rintro ⟨rfl, rfl⟩
  rw [if_neg (by omega), if_neg (by omega)]
  exact (cmpL_zero _ _).2 rfl
end Go.Proofs.Ytmecnecfkgneoaa
set_option linter.unusedVariables false
set_option linter.unusedSimpArgs false
namespace Go.Proofs.Ytmecnecfkgneoaa
open Go Go.Proofs Go.Sep
end Go.Proofs.Ytmecnecfkgneoaa
set_option linter.unusedVariables false
set_option linter.unusedSimpArgs false
namespace Go.Proofs.Ytmecnecfkgneoaa
open Go Go.Proofs Go.Sep
end Go.Proofs.Ytmecnecfkgneoaa
set_option linter.unusedVariables false
set_option linter.unusedSimpArgs false
namespace Go.Proofs.Ytmecnecfkgneoaa
open Go Go.Proofs Go.Sep
end Go.Proofs.Ytmecnecfkgneoaa
set_option linter.unusedVariables false
set_option linter.unusedSimpArgs false
namespace Go.Proofs.Ytmecnecfkgneoaa
open Go Go.Proofs Go.Sep
theorem l4Copy_eq {u : Nat} {d : Database} (hd : DbS d) (hu : 1048577 < u) : m_spec_l4Copy u d = some d := by
 unfold m_spec_l4Copy
 refine Ok.to (.app (by have := hd.1; simp; omega) ?_)
 refine .while (fun (s : Int × List Fact) => ∃ n : Nat, s.1 = (n : Int) ∧ n ≤ d.facts.length ∧ s.2 = d.facts.take n) (fun (s : Int × List Fact) => d.facts.length - s.1.toNat) (fun (s : Int × List Fact) => s.2 = d.facts) (fun _ => False) (by have := hd.2.1; simp only; omega) ⟨0, rfl, by omega, rfl⟩ (fun ⟨i, fs⟩ ⟨n, h1, h2, h3⟩ => ?_) (fun ⟨i, fs⟩ h => .ret (by simp only at h; subst h; simp)) (fun _ h => h.elim)
 simp only at h1 h3
 subst h1 h3
 simp only
 have hf := hd.2.1
 refine .cond (fun h => ?_) fun h => .brk ?_
 ·have hlt : n < d.facts.length := by simpa using h
  have hv := hd.2.2.2 _ (List.getElem_mem hlt)
  refine .get rfl hlt (.app (by simp; omega) (.app (by simp; omega) (.next ⟨⟨n + 1, by rw [w64_id (by omega)]; simp, hlt, ?_⟩, by simp only; rw [w64_id (by omega)]; omega⟩)))
  simp only [List.nil_append]
  rw [List.take_add_one, List.getElem?_eq_getElem hlt]; rfl
 ·have : ¬ n < d.facts.length := by simpa using h
  simp only
  rw [List.take_of_length_le (by omega)]
end Go.Proofs.Ytmecnecfkgneoaa
set_option linter.unusedVariables false
set_option linter.unusedSimpArgs false
namespace Go.Sep
section
variable {κ : Type} [DecidableEq κ] (K : Nat → κ)
variable {K}
end
end Go.Sep
set_option linter.unusedVariables false
set_option linter.unusedSimpArgs false
namespace Go.Proofs.Ytmecnecfkgneoaa
open Go Go.Proofs Go.Sep
end Go.Proofs.Ytmecnecfkgneoaa
set_option linter.unusedVariables false
set_option linter.unusedSimpArgs false
namespace Go.Proofs.Ytmecnecfkgneoaa
open Go Go.Proofs Go.Sep
end Go.Proofs.Ytmecnecfkgneoaa
set_option linter.unusedVariables false
set_option linter.unusedSimpArgs false
namespace Go.Proofs.Ytmecnecfkgneoaa
open Go Go.Proofs Go.Sep
end Go.Proofs.Ytmecnecfkgneoaa
set_option linter.unusedVariables false
set_option linter.unusedSimpArgs false
namespace Go.Proofs.Ytmecnecfkgneoaa
open Go Go.Proofs Go.Sep
end Go.Proofs.Ytmecnecfkgneoaa
set_option linter.unusedVariables false
set_option linter.unusedSimpArgs false
namespace Go.Proofs.Ytmecnecfkgneoaa
open Go Go.Proofs Go.Sep
theorem impl_copyDatabase_eq {d : Database} (hd : DbS d) : m_impl_copyDatabase d = some d := by
 unfold m_impl_copyDatabase
 have hf := hd.2.1
 refine Ok.to (.app (by have := hd.1; simp; omega) ?_)
 refine .forS (fun n s => s = d.facts.take n) (by simp) (fun n x s hx hI => ?_) (fun s hI => .ret ?_)
 ·have hn := (List.getElem?_eq_some_iff.1 hx).1
  have hv := hd.2.2.2 _ (List.mem_of_getElem? hx)
  subst hI
  refine .app (by simp; omega) (.app (by simp; omega) (.ret ?_))
  rw [List.take_add_one, hx]; rfl
 ·rw [hI, List.take_length, List.nil_append]
def FirstAt (l : List Fact) (f : Fact) (k : Int) : Prop := (k = -1 ∧ ∀ (j : Nat), l[j]? ≠ some f) ∨ ∃ n : Nat, k = n ∧ l[n]? = some f ∧ ∀ (j : Nat), j < n → l[j]? ≠ some f
theorem FirstAt.uniq {l : List Fact} {f : Fact} {k k' : Int} (h : FirstAt l f k) (h' : FirstAt l f k') : k = k' := by
 rcases h with ⟨rfl, h⟩ | ⟨n, rfl, h1, h2⟩ <;> rcases h' with ⟨rfl, h'⟩ | ⟨m, rfl, h3, h4⟩
 ·rfl
 ·exact (h m h3).elim
 ·exact (h' n h1).elim
 ·rcases Nat.lt_trichotomy n m with g | g | g
  ·exact (h4 n g h1).elim
  ·rw [g]
  ·exact (h2 m g h3).elim
theorem spec_FactIndex_ok {u : Nat} {d : Database} (hd : DbS d) {f : Fact} (hf : f.values.length ≤ 1048576) (hu : 1048577 < u) : Ok (m_spec_FactIndex u d f) (FirstAt d.facts f) := by
 unfold m_spec_FactIndex
 have hfl := hd.2.1
 refine .while (fun (i : Int) => ∃ n : Nat, i = (n : Int) ∧ n ≤ d.facts.length ∧ ∀ (j : Nat), j < n → d.facts[j]? ≠ some f) (fun i => d.facts.length - i.toNat) (fun _ => ∀ (j : Nat), d.facts[j]? ≠ some f) (FirstAt d.facts f) (by omega) ⟨0, rfl, by omega, by omega⟩ (fun i ⟨n, h1, h2, h3⟩ => ?_) (fun _ h => .ret (.inl ⟨rfl, h⟩)) (fun _ h => .ret h)
 subst h1
 refine .cond (fun h => ?_) fun h => .brk fun j hj => ?_
 ·have hlt : n < d.facts.length := by simpa using h
  have hv := hd.2.2.2 _ (List.getElem_mem hlt)
  refine .get rfl hlt (.eq (spec_CompareFacts_eq u _ f (by omega) hv hf) (.cond (fun h4 => .out (.inr ⟨n, rfl, ?_, h3⟩)) fun h4 => .next ⟨⟨n + 1, by rw [w64_id (by omega)]; simp, hlt, fun j hj hjf => ?_⟩, by rw [w64_id (by omega)]; omega⟩))
  ·rw [List.getElem?_eq_getElem hlt, (cmpF_zero _ f).1 (of_decide_eq_true h4)]
  ·by_cases e : j = n
   ·subst e; rw [List.getElem?_eq_getElem hlt] at hjf; cases hjf; exact (of_decide_eq_false h4) ((cmpF_zero _ _).2 rfl)
   ·exact h3 j (by omega) hjf
 ·have : ¬ n < d.facts.length := by simpa using h
  exact h3 j (by have := (List.getElem?_eq_some_iff.1 hj).1; omega) hj
end Go.Proofs.Ytmecnecfkgneoaa
set_option linter.unusedVariables false
set_option linter.unusedSimpArgs false
namespace Go.Proofs.Ytmecnecfkgneoaa
open Go Go.Proofs Go.Sep
theorem cmpL_anti : ∀ a b : List Int, cmpL b a = - cmpL a b
 | [], [] => rfl
 | [], y :: b => by simp [cmpL]
 | x :: a, [] => by simp [cmpL]
 | x :: a, y :: b => by
  simp only [cmpL]
  rw [cmpL_anti a b]
  by_cases h1 : x < y
  ·rw [if_neg (by omega), if_pos h1, if_pos h1]; rfl
  ·by_cases h2 : y < x
   ·rw [if_pos h2, if_neg h1, if_pos h2]
   ·rw [if_neg h2, if_neg h1, if_neg h1, if_neg h2]
theorem cmpF_anti (a b : Fact) : cmpF b a = - cmpF a b := by
 unfold cmpF
 rw [cmpL_anti a.values b.values]
 by_cases h1 : a.relation < b.relation
 ·rw [if_neg (by omega), if_pos h1, if_pos h1]; rfl
 ·by_cases h2 : b.relation < a.relation
  ·rw [if_pos h2, if_neg h1, if_pos h2]
  ·rw [if_neg h2, if_neg h1, if_neg h1, if_neg h2]
theorem cmpF_lt_le {a b c : Fact} (h1 : cmpF a b < 0) (h2 : cmpF b c ≤ 0) : cmpF a c < 0 := by
 have h3 := cmpF_trans (Int.le_of_lt h1) h2
 by_cases e : cmpF a c = 0
 ·have := (cmpF_zero a c).1 e
  subst this
  have := cmpF_anti a b
  omega
 ·omega
structure Red (d x : Database) : Prop where
  rel : x.relations = d.relations
  sub : x.facts.Sublist d.facts
  keys : ∀ f ∈ d.facts, ∃ g ∈ x.facts, keyF d.relations g = keyF d.relations f
theorem Red.trans {a b c : Database} (h : Red a b) (k : Red b c) : Red a c := by
 refine ⟨k.rel.trans h.rel, k.sub.trans h.sub, fun f hf => ?_⟩
 obtain ⟨g, g1, g2⟩ := h.keys f hf
 obtain ⟨x, x1, x2⟩ := k.keys g g1
 rw [h.rel] at x2
 exact ⟨x, x1, x2.trans g2⟩
end Go.Proofs.Ytmecnecfkgneoaa
set_option linter.unusedVariables false
set_option linter.unusedSimpArgs false
namespace Go.Proofs.Ytmecnecfkgneoaa
open Go Go.Proofs Go.Sep
def marks (k : Int) (n : Nat) : List Int := (List.range n).map fun (i : Nat) => k + (i : Int)
theorem marks_len (k : Int) (n : Nat) : (marks k n).length = n := by simp [marks]
theorem marks_get (k : Int) (n i : Nat) (h : i < n) : (marks k n)[i]? = some (k + i) := by simp [marks, h]
theorem markIntS_eq (a : List Int) (k : Int) (h0 : 0 ≤ k) (h1 : k + a.length ≤ 4611686018427387904) : m_laws_markIntS a k = some (k + a.length, marks k a.length) := by
 unfold m_laws_markIntS
 obtain ⟨s, h2, h3⟩ := forM_ok (m := a.length) (s := (a, k)) (f := fun (i_1 : Int) (⟨a0m, k1⟩ : (List Int) × Int) => (getI a0m (i_1 : Int)).bind fun v_3 => some ((a0m.set ((i_1 : Int)).toNat k1), (w64 (k1 + 1))))
  (fun n s => s.2 = k + n ∧ s.1.length = a.length ∧ ∀ j, j < n → s.1[j]? = some (k + (j : Int))) ⟨by simp, rfl, fun j hj => by omega⟩ fun n s hn ⟨hk, hl, hI⟩ => by
   obtain ⟨xs, c⟩ := s
   simp only at hk hl hI
   refine ⟨(xs.set n c, c + 1), ?_, by simp only; omega, by simpa using hl, fun j hj => ?_⟩
   ·show ((getI xs (n : Int)).bind fun v_3 => some ((xs.set (n : Int).toNat c), (w64 (c + 1)))) = _
    rw [getI_lt (by omega), Option.bind_some, w64_id (by omega)]; rfl
   ·simp only
    by_cases e : n = j
    ·subst e; rw [List.getElem?_set_self (by omega), hk]
    ·rw [List.getElem?_set_ne e]; exact hI j (by omega)
 rw [h2, Option.bind_some]
 obtain ⟨xs, c⟩ := s
 obtain ⟨hk, hl, hI⟩ := h3
 simp only at hk hl hI
 show some (c, xs) = _
 rw [hk]
 congr 2
 apply List.ext_getElem?
 intro j
 by_cases hj : j < a.length
 ·rw [hI j hj, marks_get _ _ _ hj]
 ·rw [List.getElem?_eq_none (by omega), List.getElem?_eq_none (by rw [marks_len]; omega)]
theorem heldIntS_eq (k : Int) (n : Nat) (h0 : 0 ≤ k) (h1 : k + n ≤ 4611686018427387904) : m_laws_heldIntS (marks k n) k = some (k + n) := by
 unfold m_laws_heldIntS
 obtain ⟨o, h2, h3⟩ := forL_ok (xs := marks k n) (s := k) (f := fun (i_1 : Int) (x_i_1 : Int) (k1 : Int) => cond (decide (x_i_1 ≠ k1)) (some (.ret (-1))) (some (.next (w64 (k1 + 1)))))
  (fun j s => s = k + j) (fun _ => False) (fun (_ : Int) => False) (by simp) fun j x s hx hI => by
   have hj : j < n := by have := (List.getElem?_eq_some_iff.1 hx).1; rwa [marks_len] at this
   rw [marks_get _ _ _ hj] at hx
   cases hx
   refine ⟨.next (s + 1), ?_, by simp only [CtlP]; omega⟩
   rw [cond_F' (by simp [hI]), w64_id (by omega)]
 rw [h2, Option.bind_some]
 cases o with
 | inl s => have := h3.resolve_right id; rw [marks_len] at this; simp only [onS, this]
 | inr r => exact h3.elim
end Go.Proofs.Ytmecnecfkgneoaa
set_option linter.unusedVariables false
set_option linter.unusedSimpArgs false
namespace Go.Proofs.Ytmecnecfkgneoaa
open Go Go.Proofs Go.Sep
theorem strOf_one (z : Int) : (strOf [z]).size = 1 := by simp [strOf, ByteArray.size_push]
theorem markText_ok {u : Nat} (hu : 1048577 < u) {k : Int} (h0 : 0 ≤ k) (h1 : k ≤ 4611686018427387904) : Ok (m_laws_markText u k) fun _ => True := by
 unfold m_laws_markText
 refine .cond (fun _ => .ret trivial) fun _ => ?_
 refine .while (fun (s : Int × ByteArray) => ∃ m n : Nat, s.1 = (m : Int) ∧ m < 10 ^ n ∧ s.2.size + n ≤ 25 ∧ m ≤ 4611686018427387904) (fun (s : Int × ByteArray) => 25 - s.2.size) (fun (s : Int × ByteArray) => s.2.size ≤ 25) (fun _ => False) (by omega) ⟨k.toNat, 25, by simp only; omega, by have : (10 : Nat) ^ 25 = 10000000000000000000000000 := rfl; omega, Nat.le_refl 25, by omega⟩ (fun ⟨k, out⟩ ⟨m, n, g1, g2, g3, g4⟩ => ?_) (fun ⟨k, out⟩ h => ?_) (fun _ h => h.elim)
 ·simp only at g1 g3
  subst g1
  refine .cond (fun h => ?_) fun h => .brk (by simp only; omega)
  have hm : 0 < m := by have := of_decide_eq_true h; omega
  have hn : 0 < n := by
   rcases Nat.eq_zero_or_pos n with e | e
   ·subst e; simp at g2; omega
   ·exact e
  have hsz : (strOf [IntKind.wrap .u8 (w64 (48 + (m : Int).tmod 10))] ++ out).size = out.size + 1 := by
   rw [ByteArray.size_append, strOf_one]; omega
  refine .eq (catS_ok (by rw [strOf_one]; omega)) (.next ⟨⟨m / 10, n - 1, ?_, ?_, by simp only; rw [hsz]; omega, by omega⟩, by simp only; rw [hsz]; omega⟩)
  ·have e : (m : Int).tdiv 10 = ((m / 10 : Nat) : Int) := by rw [Int.tdiv_eq_ediv_of_nonneg (by omega)]; rfl
   simp only
   rw [e, w64_id (by omega)]
  ·have e : 10 ^ n = 10 * 10 ^ (n - 1) := by rw [← Nat.pow_succ', show (n - 1).succ = n by omega]
   rw [e] at g2
   exact Nat.div_lt_of_lt_mul g2
 ·simp only at h
  exact .eq (catS_ok (by show 1 + out.size ≤ _; omega)) (.ret trivial)
end Go.Proofs.Ytmecnecfkgneoaa
set_option linter.unusedVariables false
set_option linter.unusedSimpArgs false
namespace Go.Proofs.Ytmecnecfkgneoaa
open Go Go.Proofs Go.Sep
def relMark (u : Nat) (c : Int) : Relation := { name := (m_laws_markText u c).getD ByteArray.empty, arity := c + 1, keyLength := c + 2 }
theorem markText_some {u : Nat} (hu : 1048577 < u) {k : Int} (h0 : 0 ≤ k) (h1 : k ≤ 4611686018427387904) : m_laws_markText u k = some (relMark u k).name := by
 obtain ⟨r, h2, _⟩ := markText_ok hu h0 h1
 rw [h2]; simp only [relMark, h2, Option.getD_some]
theorem markRelationS_held {u : Nat} (hu : 1048577 < u) {a : List Relation} (ha : a.length ≤ 1048576) {k : Int} (h0 : 0 ≤ k) (h1 : k ≤ 1125899906842624) : Ok (m_laws_markRelationS u a k) fun r => r.1 = k + 3 * a.length ∧ m_laws_heldRelationS u r.2 k = some (k + 3 * a.length) := by
 unfold m_laws_markRelationS
 refine .forM (m := a.length) (fun n s => s.1.length = a.length ∧ s.2 = k + 3 * (n : Int) ∧ ∀ j, j < n → s.1[j]? = some (relMark u (k + 3 * (j : Int)))) ⟨rfl, by simp, fun j hj => by omega⟩ (fun n s hn hI => ?_) (fun s hI => ?_)
 ·obtain ⟨xs, c⟩ := s
  obtain ⟨hl, hc, hj⟩ := hI
  simp only at hl hc hj ⊢
  have hx : n < xs.length := by omega
  refine .eq (markText_some hu (by omega) (by omega)) (.get rfl hx ?_)
  simp only [Int.toNat_natCast]
  refine .get rfl (by simpa using hx) (.get rfl (by simpa using hx) (.ret ⟨by simpa using hl, ?_, fun j hjn => ?_⟩))
  ·simp only
   rw [w64_id (x := c + 1) (by omega), w64_id (x := c + 1 + 1) (by omega), w64_id (by omega)]
   omega
  ·simp only [List.set_set, List.getElem_set_self]
   by_cases e : n = j
   ·subst e
    rw [List.getElem?_set_self (by omega)]
    subst hc
    rw [w64_id (x := _ + 1) (by omega), w64_id (by omega)]
    simp only [relMark]
    congr 2
    omega
   ·rw [List.getElem?_set_ne e]; exact hj j (by omega)
 ·obtain ⟨xs, c⟩ := s
  obtain ⟨hl, hc, hj⟩ := hI
  simp only at hl hc hj ⊢
  refine .ret ⟨by simp only; omega, ?_⟩
  show m_laws_heldRelationS u xs k = _
  unfold m_laws_heldRelationS
  refine Ok.to (.forL (fun n s => s = k + 3 * (n : Int)) (fun _ => False) (fun _ => False) (by simp) (fun n x s hx hI => ?_) (fun s hs => .ret (by have := hs.resolve_right id; rw [this, hl])) (fun r hr => hr.elim))
  have hn : n < a.length := by have := (List.getElem?_eq_some_iff.1 hx).1; omega
  rw [hj n hn] at hx
  cases hx
  subst hI
  refine .eq (markText_some hu (by omega) (by omega)) (.cf (by simp) (.cf ?_ (.cf ?_ (.next ?_))))
  ·rw [w64_id (by omega)]; simp [relMark]
  ·rw [w64_id (x := k + 3 * (n : Int) + 1) (by omega), w64_id (by omega)]; have e : k + 3 * (n : Int) + 2 = k + 3 * (n : Int) + 1 + 1 := by omega
   simp [relMark, e]
  ·rw [w64_id (x := k + 3 * (n : Int) + 1) (by omega), w64_id (x := k + 3 * (n : Int) + 1 + 1) (by omega), w64_id (by omega)]; omega
def factOff (a : List Fact) (n : Nat) : Nat := ((a.take n).map fun f => 1 + f.values.length).sum
theorem factOff_succ {a : List Fact} {n : Nat} {f : Fact} (h : a[n]? = some f) : factOff a (n + 1) = factOff a n + (1 + f.values.length) := by
 obtain ⟨hn, rfl⟩ := List.getElem?_eq_some_iff.1 h
 unfold factOff
 rw [List.take_succ_eq_append_getElem hn, List.map_append, List.sum_append]
 simp
theorem factOff_le {a : List Fact} (hv : ∀ f ∈ a, f.values.length ≤ 1048576) : ∀ n, n ≤ a.length → factOff a n ≤ 1048577 * n
 | 0, _ => by simp [factOff]
 | n + 1, h => by
  have hn : n < a.length := by omega
  have h1 := factOff_le hv n (by omega)
  rw [factOff_succ (List.getElem?_eq_getElem hn)]
  have := hv _ (List.getElem_mem hn)
  omega
def factMark (c : Int) (f : Fact) : Fact := { relation := c, values := marks (c + 1) f.values.length }
theorem markFactS_held {a : List Fact} (ha : a.length ≤ 1048576) (hv : ∀ f ∈ a, f.values.length ≤ 1048576) {k : Int} (h0 : 0 ≤ k) (h1 : k ≤ 1125899906842624) : Ok (m_laws_markFactS a k) fun r => r.1 = k + factOff a a.length ∧ m_laws_heldFactS r.2 k = some (k + factOff a a.length) := by
 have hle := factOff_le hv
 have hlt : ∀ n, n < a.length → k + factOff a n + 1 + 1048576 ≤ 1152921504606846976 := fun n hn => by have := hle n (by omega); omega
 unfold m_laws_markFactS
 refine .forM (m := a.length) (fun n s => s.1.length = a.length ∧ s.2 = k + factOff a n ∧ (∀ j f, j < n → a[j]? = some f → s.1[j]? = some (factMark (k + factOff a j) f)) ∧ ∀ j, n ≤ j → s.1[j]? = a[j]?) ⟨rfl, by simp [factOff], fun j f hj => by omega, fun j _ => rfl⟩ (fun n s hn hI => ?_) (fun s hI => ?_)
 ·obtain ⟨xs, c⟩ := s
  obtain ⟨hl, hc, hj, hr⟩ := hI
  simp only at hl hc hj hr ⊢
  have hx : n < xs.length := by omega
  have hxa : a[n]? = some xs[n] := by rw [← hr n (Nat.le_refl _)]; exact List.getElem?_eq_getElem hx
  have hxv := hv _ (List.mem_of_getElem? hxa)
  have hb := hlt n hn
  refine .get rfl hx ?_
  simp only [Int.toNat_natCast]
  refine .get rfl (by simpa using hx) ?_
  rw [List.getElem_set_self, w64_id (by omega)]
  simp only
  refine .eq (markIntS_eq _ _ (by omega) (by omega)) (.ret ⟨by simpa using hl, ?_, fun j f hjn hf => ?_, fun j hjn => ?_⟩)
  ·simp only; rw [factOff_succ hxa]; omega
  ·simp only [List.set_set]
   by_cases e : n = j
   ·subst e
    rw [List.getElem?_set_self (by omega)]
    rw [hxa] at hf
    cases hf
    simp only [factMark, hc]
   ·rw [List.getElem?_set_ne e]; exact hj j f (by omega) hf
  ·simp only [List.set_set]
   rw [List.getElem?_set_ne (by omega)]; exact hr j (by omega)
 ·obtain ⟨xs, c⟩ := s
  obtain ⟨hl, hc, hj, hr⟩ := hI
  simp only at hl hc hj hr ⊢
  refine .ret ⟨hc, ?_⟩
  show m_laws_heldFactS xs k = _
  unfold m_laws_heldFactS
  refine Ok.to (.forL (fun n s => s = k + factOff a n) (fun _ => False) (fun _ => False) (by simp [factOff]) (fun n x s hx hI => ?_) (fun s hs => .ret (by have := hs.resolve_right id; rw [this, hl])) (fun r hr => hr.elim))
  have hn : n < a.length := by have := (List.getElem?_eq_some_iff.1 hx).1; omega
  rw [hj n _ hn (List.getElem?_eq_getElem hn)] at hx
  cases hx
  subst hI
  have hb := hlt n hn
  have hxv := hv _ (List.getElem_mem hn)
  refine .cf (by simp [factMark]) ?_
  rw [w64_id (by omega)]
  refine .eq (heldIntS_eq _ _ (by omega) (by omega)) (.cf (decide_eq_false (by omega)) (.next ?_))
  rw [factOff_succ (List.getElem?_eq_getElem hn)]; omega
theorem markDatabase_held {u : Nat} (hu : 1048577 < u) {d : Database} (hd : DbS d) : Ok (m_laws_markDatabase u d 1) fun r => (0 ≤ r.1 ∧ r.1 ≤ 1125899906842624) ∧ m_laws_heldDatabase u r.2 1 = some r.1 := by
 have hle := factOff_le hd.2.2.2 d.facts.length (Nat.le_refl _)
 have h1 := hd.1
 have h2 := hd.2.1
 unfold m_laws_markDatabase
 refine .bind (markRelationS_held hu hd.1 (by omega) (by omega)) fun r hr => .bind (markFactS_held hd.2.1 hd.2.2.2 (by omega) (by omega)) fun r' hr' => .ret ⟨⟨by simp only; omega, by simp only; omega⟩, ?_⟩
 unfold m_laws_heldDatabase
 refine Ok.to (.eq hr.2 (.cf (decide_eq_false (by omega)) ?_))
 rw [← hr.1]
 exact .eq hr'.2 (.cf (decide_eq_false (by omega)) (.ret hr'.1.symm))
end Go.Proofs.Ytmecnecfkgneoaa
set_option linter.unusedVariables false
set_option linter.unusedSimpArgs false
namespace Go.Proofs.Ytmecnecfkgneoaa
open Go Go.Proofs Go.Sep
def AscF (l : List Fact) : Prop := l.Pairwise fun f g => cmpF f g < 0
theorem cmpF_irr (f : Fact) : cmpF f f = 0 := (cmpF_zero f f).2 rfl
theorem AscF.uniq : ∀ {l m : List Fact}, AscF l → AscF m → (∀ x, x ∈ l ↔ x ∈ m) → l = m
 | [], [], _, _, _ => rfl
 | [], b :: m, _, _, h => by have := (h b).2 (List.mem_cons_self ..); simp at this
 | a :: l, [], _, _, h => by have := (h a).1 (List.mem_cons_self ..); simp at this
 | a :: l, b :: m, hl, hm, h => by
  obtain ⟨h1, h2⟩ := List.pairwise_cons.1 hl
  obtain ⟨h3, h4⟩ := List.pairwise_cons.1 hm
  have hab : a = b := by
   rcases List.mem_cons.1 ((h a).1 (List.mem_cons_self ..)) with e | g1
   ·exact e
   ·rcases List.mem_cons.1 ((h b).2 (List.mem_cons_self ..)) with e | g2
    ·exact e.symm
    ·have := h1 b g2; have := h3 a g1; have := cmpF_anti a b; omega
  subst hab
  congr 1
  refine AscF.uniq h2 h4 fun x => ⟨fun hx => ?_, fun hx => ?_⟩
  ·rcases List.mem_cons.1 ((h x).1 (List.mem_cons_of_mem _ hx)) with e | g
   ·subst e; have := h1 x hx; rw [cmpF_irr] at this; omega
   ·exact g
  ·rcases List.mem_cons.1 ((h x).2 (List.mem_cons_of_mem _ hx)) with e | g
   ·subst e; have := h3 x hx; rw [cmpF_irr] at this; omega
   ·exact g
theorem cmpF_ok (l : List Fact) : CmpOK (fun x y => m_impl_CompareFacts x y) l where
 tot := fun x _ y _ => by
  refine ⟨_, impl_CompareFacts_eq x y, ?_⟩
  have : ∀ a b : List Int, -1 ≤ cmpL a b ∧ cmpL a b ≤ 1 := fun a => by
   induction a with
   | nil => intro b; rw [cmpL_nil_l]; split <;> omega
   | cons x a ih =>
    intro b
    cases b with
    | nil => rw [cmpL_nil_r]; split <;> omega
    | cons y b => have := ih b; simp only [cmpL]; split <;> (try split) <;> omega
  have := this x.values y.values
  unfold cmpF
  split <;> (try split) <;> omega
 irr := fun x _ r h => by rw [impl_CompareFacts_eq] at h; cases h; rw [cmpF_irr]; omega
 tr := fun x _ y _ z _ r s t h1 h2 h3 h4 h5 => by
  rw [impl_CompareFacts_eq] at h1 h2 h3; cases h1; cases h2; cases h3
  exact cmpF_lt_le h4 (by omega)
 ntr := fun x _ y _ z _ r s t h1 h2 h3 h4 h5 => by
  rw [impl_CompareFacts_eq] at h1 h2 h3; cases h1; cases h2; cases h3
  have e1 := cmpF_anti x y; have e2 := cmpF_anti y z; have e3 := cmpF_anti x z
  have := cmpF_trans (a := z) (b := y) (c := x) (by omega) (by omega)
  omega
 anti := fun x _ y _ r s h1 h2 h3 h4 => by
  rw [impl_CompareFacts_eq] at h1 h2; cases h1; cases h2
  have := cmpF_anti x y
  exact (cmpF_zero x y).1 (by omega)
theorem sortF (l : List Fact) (hl : l.length < 4611686018427387904) : ∃ so, sortM (fun x y => m_impl_CompareFacts x y) l = some so ∧ so.Perm l ∧ so.Pairwise fun f g => cmpF f g ≤ 0 := by
 have hp : (l.mergeSort fun x y => decide (cmpF x y ≤ 0)).Perm l := List.mergeSort_perm ..
 have hs : (l.mergeSort fun x y => decide (cmpF x y ≤ 0)).Pairwise fun f g => cmpF f g ≤ 0 := by
  have := List.pairwise_mergeSort (le := fun x y => decide (cmpF x y ≤ 0)) (fun a b c h1 h2 => by simp only [decide_eq_true_eq] at h1 h2 ⊢; exact cmpF_trans h1 h2) (fun a b => by have := cmpF_anti a b; simp only [Bool.or_eq_true, decide_eq_true_eq]; omega) l
  simpa using this
 refine ⟨_, sortM_eq hl (cmpF_ok l) ⟨hp, hs.imp fun {x y} h r hr => ?_⟩, hp, hs⟩
 have hr : m_impl_CompareFacts y x = some r := hr
 rw [impl_CompareFacts_eq] at hr; cases hr
 have := cmpF_anti x y; omega
theorem compG_memF : ∀ (l : List Fact) (p x : Fact), x ∈ compG (fun x y => decide (cmpF x y = 0)) p l ∨ x = p ↔ x ∈ l ∨ x = p
 | [], p, x => by simp [compG]
 | y :: l, p, x => by
  have h := compG_memF l y x
  simp only [compG]
  split
  ·rename_i e
   have e := (cmpF_zero _ _).1 (of_decide_eq_true e)
   subst e
   simp only [List.mem_cons]
   constructor
   ·intro g; rcases h.1 g with g | g
    ·exact .inl (.inr g)
    ·exact .inr g
   ·intro g; rcases g with (g | g) | g
    ·exact .inr g
    ·exact h.2 (.inl g)
    ·exact .inr g
  ·simp only [List.mem_cons]
   constructor
   ·intro g; rcases g with (g | g) | g
    ·exact .inl (.inl g)
    ·rcases h.1 (.inl g) with k | k
     ·exact .inl (.inr k)
     ·exact .inl (.inl k)
    ·exact .inr g
   ·intro g; rcases g with (g | g) | g
    ·exact .inl (.inl g)
    ·rcases h.2 (.inl g) with k | k
     ·exact .inl (.inr k)
     ·exact .inl (.inl k)
    ·exact .inr g
theorem compG_ascF : ∀ (l : List Fact) (p : Fact), (p :: l).Pairwise (fun f g => cmpF f g ≤ 0) → AscF (p :: compG (fun x y => decide (cmpF x y = 0)) p l)
 | [], p, _ => by simp [compG, AscF]
 | y :: l, p, h => by
  obtain ⟨h1, h2⟩ := List.pairwise_cons.1 h
  have ih := compG_ascF l y h2
  simp only [compG]
  split
  ·rename_i e
   have e := (cmpF_zero _ _).1 (of_decide_eq_true e)
   subst e
   exact ih
  ·rename_i e
   have hy := h1 y (List.mem_cons_self ..)
   have hne : cmpF p y < 0 := by
    have : cmpF y p ≠ 0 := fun k => e (decide_eq_true k)
    have := cmpF_anti p y; omega
   refine List.pairwise_cons.2 ⟨fun z hz => ?_, ih⟩
   rcases List.mem_cons.1 hz with rfl | hz
   ·exact hne
   ·exact cmpF_lt_le hne (by have := (List.pairwise_cons.1 ih).1 z hz; omega)
theorem compF_F {l : List Fact} (h : l.Pairwise fun f g => cmpF f g ≤ 0) : AscF (compF (fun x y => decide (cmpF x y = 0)) l) ∧ ∀ x, x ∈ compF (fun x y => decide (cmpF x y = 0)) l ↔ x ∈ l := by
 cases l with
 | nil => exact ⟨.nil, fun x => Iff.rfl⟩
 | cons p l =>
  refine ⟨compG_ascF l p h, fun x => ?_⟩
  have := compG_memF l p x
  simp only [compF, List.mem_cons]
  rw [or_comm, this, or_comm]
def repV (a b v : Int) : Int := if v = a then b else v
def repF (a b : Int) (f : Fact) : Fact := ⟨f.relation, f.values.map (repV a b)⟩
theorem repF_ok {l : List Relation} {a b : Int} (hb : 0 ≤ b ∧ b ≤ 9) {f : Fact} (h : FactOK l f) : FactOK l (repF a b f) := by
 obtain ⟨n, r, h1, h2, h3, h4⟩ := h
 refine ⟨n, r, h1, h2, by simpa [repF] using h3, fun v hv => ?_⟩
 simp only [repF, List.mem_map] at hv
 obtain ⟨w, hw, rfl⟩ := hv
 unfold repV
 split
 ·exact hb
 ·exact h4 w hw
theorem getElem?_repl {α : Type} {f : α → α} {xs t : List α} {n : Nat} {x : α} (hl : t.length = xs.length) (hI : ∀ j, t[j]? = if j < n then (xs[j]?).map f else xs[j]?) (hx : xs[n]? = some x) (j : Nat) : (t.set n (f x))[j]? = if j < n + 1 then (xs[j]?).map f else xs[j]? := by
 have hn := (List.getElem?_eq_some_iff.1 hx).1
 by_cases e : j = n
 ·subst e; rw [List.getElem?_set_self (by omega), if_pos (Nat.lt_succ_self _), hx]; rfl
 ·rw [List.getElem?_set_ne (Ne.symm e), hI]
  by_cases h : j < n
  ·rw [if_pos h, if_pos (by omega)]
  ·rw [if_neg h, if_neg (by omega)]
theorem repl_done {α : Type} {f : α → α} {xs t : List α} (hI : ∀ j, t[j]? = if j < xs.length then (xs[j]?).map f else xs[j]?) : t = xs.map f := by
 apply List.ext_getElem?
 intro j
 rw [hI, List.getElem?_map]
 split
 ·rfl
 ·rw [List.getElem?_eq_none (by omega)]; rfl
theorem impl_merge {d : Database} (hs : DbS d) {a b : Int} (hd : DbOK d) (ha : 0 ≤ a ∧ a ≤ 9) (hb : 0 ≤ b ∧ b ≤ 9) : Ok (m_impl_MergeValues d a b) fun r => r.1.relations = d.relations ∧ r.2 = true ∧ AscF r.1.facts ∧ ∀ x, x ∈ r.1.facts ↔ x ∈ d.facts.map (repF a b) := by
 obtain ⟨v, g1, g2⟩ := impl_IsValidDatabase_eq d
 have hv : v = true := g2.2 hd
 subst hv
 unfold m_impl_MergeValues m_impl_within
 refine .eq (impl_copyDatabase_eq hs) (.bind (P := fun t => t = false) (.eq g1 (.cf rfl (.eq rfl (.cf (by simp; omega) (.eq rfl (.ret (by simp; omega))))))) fun t ht => .cf ht ?_)
 refine .forM (fun n t => t.length = d.facts.length ∧ ∀ j, t[j]? = if j < n then (d.facts[j]?).map (repF a b) else d.facts[j]?) ⟨rfl, fun j => by simp⟩ (fun n t hn hI => ?_) fun t hI => ?_
 ·have hx : d.facts[n]? = some d.facts[n] := List.getElem?_eq_getElem hn
  have htn : t[n]? = some d.facts[n] := by rw [hI.2, if_neg (Nat.lt_irrefl n)]; exact hx
  have htl : n < t.length := by omega
  have hte : t[n] = d.facts[n] := by rw [List.getElem?_eq_getElem htl] at htn; simpa using htn
  refine .get rfl htl ?_
  rw [hte]
  generalize d.facts[n] = f at hx
  refine .forM (fun k s => s.length = f.values.length ∧ ∀ j, s[j]? = if j < k then (f.values[j]?).map (repV a b) else f.values[j]?) ⟨rfl, fun j => by simp⟩ (fun k s hk hJ => ?_) fun s hJ => .ret ⟨by simp [hI.1], fun j => ?_⟩
  ·have hy : f.values[k]? = some f.values[k] := List.getElem?_eq_getElem hk
   have hsk : s[k]? = some f.values[k] := by rw [hJ.2, if_neg (Nat.lt_irrefl k)]; exact hy
   have hsl : k < s.length := by omega
   have hse : s[k] = f.values[k] := by rw [List.getElem?_eq_getElem hsl] at hsk; simpa using hsk
   refine .get rfl hsl ?_
   rw [hse]
   generalize f.values[k] = v at hy hsk
   refine .cond (fun h => .ret ⟨by simp [hJ.1], fun j => ?_⟩) fun h => .ret ⟨hJ.1, fun j => ?_⟩
   ·have e : repV a b v = b := if_pos (of_decide_eq_true h)
    have := getElem?_repl (f := repV a b) hJ.1 hJ.2 hy j
    rw [e] at this; exact this
   ·have e : repV a b v = v := if_neg (of_decide_eq_false h)
    have := getElem?_repl (f := repV a b) hJ.1 hJ.2 hy j
    rw [e] at this
    rw [← this]
    by_cases ej : j = k
    ·subst ej; rw [List.getElem?_set_self hsl]; exact hsk
    ·rw [List.getElem?_set_ne (Ne.symm ej)]
  ·have e : s = f.values.map (repV a b) := repl_done hJ.2
   subst e
   exact getElem?_repl (f := repF a b) hI.1 hI.2 hx j
 ·have e : t = d.facts.map (repF a b) := repl_done hI.2
  subst e
  have hf := hs.2.1
  obtain ⟨so, h1, h2, h3⟩ := sortF (d.facts.map (repF a b)) (by simp; omega)
  have h4 : compM (fun x y => m_impl_MergeValues_1 x y) so = some (compF (fun x y => decide (cmpF x y = 0)) so) := compM_eq (fun x _ y _ => by unfold m_impl_MergeValues_1; rw [impl_CompareFacts_eq]; rfl) (by rw [h2.length_eq]; simp; omega)
  obtain ⟨h5, h6⟩ := compF_F h3
  exact .eq h1 (.eq h4 (.ret ⟨rfl, rfl, h5, fun x => (h6 x).trans h2.mem_iff⟩))
theorem spec_contains {u : Nat} {d : Database} (hs : DbS d) {f : Fact} (hf : f.values.length ≤ 1048576) (hu : 1048577 < u) (hd : DbOK d) : m_spec_ContainsFact u d f = some (decide (f ∈ d.facts)) := by
 obtain ⟨b, g3, g4⟩ := spec_IsValidDatabase_eq u d hs hu
 have hb : b = true := g4.2 hd
 subst hb
 obtain ⟨k, i1, i2⟩ := spec_FactIndex_ok hs hf hu
 unfold m_spec_ContainsFact
 refine Ok.to (.bind (P := fun t => t = decide (f ∈ d.facts)) (.eq g3 (.ct rfl (.eq i1 (.ret ?_)))) fun t ht => .ret ht)
 rcases i2 with ⟨rfl, h⟩ | ⟨n, rfl, h, _⟩
 ·rw [decide_eq_false (by omega)]
  refine (decide_eq_false fun hm => ?_).symm
  obtain ⟨j, hj⟩ := List.getElem?_of_mem hm
  exact h j hj
 ·rw [decide_eq_true (by omega)]
  exact (decide_eq_true (List.mem_of_getElem? h)).symm
theorem spec_insert {u : Nat} {d : Database} (hs : DbS d) {f : Fact} (hf : f.values.length ≤ 1048576) (hu : 1048577 < u) (hd : DbOK d) (hfo : FactOK d.relations f) (h14 : d.facts.length < 14) (hasc : AscF d.facts) :
  Ok (m_spec_InsertFact u d f) fun r => r.1.relations = d.relations ∧ r.1.facts.length ≤ d.facts.length + 1 ∧ AscF r.1.facts ∧ ∀ x, x ∈ r.1.facts ↔ x ∈ d.facts ∨ x = f := by
 obtain ⟨b, g3, g4⟩ := spec_IsValidDatabase_eq u d hs hu
 have hb : b = true := g4.2 hd
 subst hb
 obtain ⟨q, i3, i4⟩ := spec_isFact_eq u d.relations f (by omega) hf
 have hq : q = true := i4.2 ⟨hd.rels, hfo⟩
 subst hq
 have hfl := hs.2.1
 unfold m_spec_InsertFact
 refine .eq (l4Copy_eq hs hu) (.bind (P := fun t => t = decide (f ∈ d.facts)) (.eq g3 (.cf rfl (.eq i3 (.cf rfl (.eq (spec_contains hs hf hu hd) (.cond (fun h => .ret h.symm) fun h => .ret ?_)))))) fun t ht => ?_)
 ·rw [h]; exact decide_eq_false (by omega)
 subst ht
 refine .cond (fun h => .ret ⟨rfl, by simp, hasc, fun x => ⟨.inl, fun h1 => h1.elim id fun e => e ▸ of_decide_eq_true h⟩⟩) fun h => ?_
 have hnew := of_decide_eq_false h
 refine .while (fun (i : Int) => ∃ n : Nat, i = (n : Int) ∧ n ≤ d.facts.length ∧ ∀ (j : Nat) x, j < n → d.facts[j]? = some x → cmpF x f < 0) (fun i => d.facts.length - i.toNat) (fun (i : Int) => ∃ n : Nat, i = (n : Int) ∧ n ≤ d.facts.length ∧ (∀ (j : Nat) x, j < n → d.facts[j]? = some x → cmpF x f < 0) ∧ ∀ x, d.facts[n]? = some x → ¬ cmpF x f < 0) (fun _ => False) (by omega) ⟨0, rfl, by omega, fun j x hj => by omega⟩ (fun i ⟨n, h1, h2, h3⟩ => ?_) (fun i ⟨n, h1, h2, h3, h4⟩ => ?_) (fun _ h => h.elim)
 ·subst h1
  by_cases hlt : n < d.facts.length
  ·have hv := hs.2.2.2 _ (List.getElem_mem hlt)
   by_cases hc : cmpF d.facts[n] f < 0
   ·refine .bind (P := fun t => t = true) (.ct (decide_eq_true (by omega)) (.get rfl hlt (.eq (spec_CompareFacts_eq u _ f (by omega) hv hf) (.ret (decide_eq_true hc))))) fun t ht => .ct ht (.next ⟨⟨n + 1, by rw [w64_id (by omega)]; simp, hlt, fun j x hj hx => ?_⟩, by rw [w64_id (by omega)]; omega⟩)
    rcases Nat.lt_succ_iff_lt_or_eq.1 hj with h | rfl
    ·exact h3 j x h hx
    ·rw [List.getElem?_eq_getElem hlt] at hx; cases hx; exact hc
   ·refine .bind (P := fun t => t = false) (.ct (decide_eq_true (by omega)) (.get rfl hlt (.eq (spec_CompareFacts_eq u _ f (by omega) hv hf) (.ret (decide_eq_false hc))))) fun t ht => .cf ht (.brk ⟨n, rfl, h2, h3, fun x hx => ?_⟩)
    rw [List.getElem?_eq_getElem hlt] at hx; cases hx; exact hc
  ·refine .bind (P := fun t => t = false) (.cf (decide_eq_false (by omega)) (.ret rfl)) fun t ht => .cf ht (.brk ⟨n, rfl, h2, h3, fun x hx => ?_⟩)
   rw [List.getElem?_eq_none (by omega)] at hx; cases hx
 ·subst h1
  refine .app (by simp; omega) (.cut (i := n) (j := d.facts.length) rfl rfl h2 (Nat.le_refl _) (.app (by simp; omega) (.cut (i := 0) (j := n) rfl rfl (by omega) h2 (.app (by simp; omega) (.app (by simp; omega) (.ret ?_))))))
  have e : [] ++ (d.facts.take n).drop 0 ++ ([({ relation := f.relation, values := [] ++ f.values } : Fact)] ++ (d.facts.take d.facts.length).drop n) = d.facts.take n ++ f :: d.facts.drop n := by simp
  have hmem : ∀ x, x ∈ d.facts.take n ++ f :: d.facts.drop n ↔ x ∈ d.facts ∨ x = f := fun x => by
   conv => rhs; rw [← List.take_append_drop n d.facts]
   simp only [List.mem_append, List.mem_cons]
   constructor
   ·rintro (h | h | h)
    ·exact .inl (.inl h)
    ·exact .inr h
    ·exact .inl (.inr h)
   ·rintro ((h | h) | h)
    ·exact .inl h
    ·exact .inr (.inr h)
    ·exact .inr (.inl h)
  simp only [e]
  refine ⟨trivial, by simp; omega, ?_, hmem⟩
  have ha := hasc
  unfold AscF at ha
  rw [← List.take_append_drop n d.facts] at ha
  obtain ⟨k1, k2, k3⟩ := List.pairwise_append.1 ha
  have hlow : ∀ x ∈ d.facts.take n, cmpF x f < 0 := fun x hx => by
   obtain ⟨j, hj⟩ := List.getElem?_of_mem hx
   have hjn : j < n := by have := (List.getElem?_eq_some_iff.1 hj).1; simp only [List.length_take] at this; omega
   rw [List.getElem?_take_of_lt hjn] at hj
   exact h3 j x hjn hj
  have hhigh : ∀ x ∈ d.facts.drop n, cmpF f x < 0 := fun x hx => by
   have hnl : n < d.facts.length := by
    rcases Nat.lt_or_ge n d.facts.length with h | h
    ·exact h
    ·rw [List.drop_eq_nil_of_le h] at hx; simp at hx
   have h5 := h4 _ (List.getElem?_eq_getElem hnl)
   have h6 : cmpF d.facts[n] f ≠ 0 := fun h => hnew ((cmpF_zero _ _).1 h ▸ List.getElem_mem hnl)
   have h7 : cmpF f d.facts[n] < 0 := by have := cmpF_anti f d.facts[n]; omega
   rw [List.drop_eq_getElem_cons hnl] at hx k2
   rcases List.mem_cons.1 hx with rfl | hx
   ·exact h7
   ·exact cmpF_lt_le h7 (by have := (List.pairwise_cons.1 k2).1 x hx; omega)
  refine List.pairwise_append.2 ⟨k1, List.pairwise_cons.2 ⟨hhigh, k2⟩, fun x hx y hy => ?_⟩
  rcases List.mem_cons.1 hy with rfl | hy
  ·exact hlow x hx
  ·exact k3 x hx y hy
theorem dbOK_of {d : Database} (h1 : m_impl_AreValidRelations d.relations = some true) (h2 : d.facts.length ≤ 14) (h3 : ∀ f ∈ d.facts, FactOK d.relations f) (h4 : AscF d.facts) : DbOK d := by
 refine ⟨h1, h2, fun n f hf => h3 f (List.mem_of_getElem? hf), fun n f g hf hg => ?_⟩
 obtain ⟨i1, rfl⟩ := List.getElem?_eq_some_iff.1 hf
 obtain ⟨i2, rfl⟩ := List.getElem?_eq_some_iff.1 hg
 exact List.pairwise_iff_getElem.1 h4 n (n + 1) i1 i2 (Nat.lt_succ_self n)
theorem spec_merge {u : Nat} {d : Database} (hs : DbS d) (hu : 1048577 < u) {a b : Int} (hd : DbOK d) (ha : 0 ≤ a ∧ a ≤ 9) (hb : 0 ≤ b ∧ b ≤ 9) : Ok (m_spec_MergeValues u d a b) fun r => r.1.relations = d.relations ∧ r.2 = true ∧ AscF r.1.facts ∧ ∀ x, x ∈ r.1.facts ↔ x ∈ d.facts.map (repF a b) := by
 obtain ⟨v, g1, g2⟩ := spec_IsValidDatabase_eq u d hs hu
 have hv : v = true := g2.2 hd
 subst hv
 have hfl := hs.2.1
 have hfew := hd.few
 unfold m_spec_MergeValues m_spec_l1In
 refine .bind (P := fun t => t = false) (.eq g1 (.cf rfl (.eq rfl (.cf (by simp; omega) (.eq rfl (.ret (by simp; omega))))))) fun t ht => .cf ht (.app (by have := hs.1; simp; omega) ?_)
 refine .while (fun (s : Int × List Relation × List Fact) => ∃ n : Nat, s.1 = (n : Int) ∧ n ≤ d.facts.length ∧ s.2.1 = d.relations ∧ AscF s.2.2 ∧ s.2.2.length ≤ n ∧ ∀ x, x ∈ s.2.2 ↔ x ∈ (d.facts.take n).map (repF a b)) (fun s => d.facts.length - s.1.toNat) (fun s => s.2.1 = d.relations ∧ AscF s.2.2 ∧ ∀ x, x ∈ s.2.2 ↔ x ∈ d.facts.map (repF a b)) (fun _ => False) (by omega) ⟨0, rfl, by omega, by simp, .nil, by simp, fun x => by simp⟩ (fun s ⟨n, h1, h2, h3, h4, h5, h6⟩ => ?_) (fun s ⟨h1, h2, h3⟩ => .ret ⟨h1, rfl, h2, h3⟩) (fun _ h => h.elim)
 obtain ⟨i, rels, facts⟩ := s
 simp only at h1 h3 h4 h5 h6
 subst h1 h3
 refine .cond (fun h => ?_) fun h => .brk ⟨rfl, h4, fun x => ?_⟩
 ·have hn : n < d.facts.length := by have := of_decide_eq_true h; omega
  have hfv := hs.2.2.2 _ (List.getElem_mem hn)
  have hfo := hd.fact n _ (List.getElem?_eq_getElem hn)
  have htake : d.facts.take (n + 1) = d.facts.take n ++ [d.facts[n]] := by rw [List.take_add_one, List.getElem?_eq_getElem hn]; rfl
  refine .get rfl hn ?_
  generalize d.facts[n] = f at hfv hfo htake
  refine .while (fun (s : Int × List Int) => ∃ k : Nat, s.1 = (k : Int) ∧ k ≤ f.values.length ∧ s.2 = (f.values.take k).map (repV a b)) (fun s => f.values.length - s.1.toNat) (fun s => s.2 = f.values.map (repV a b)) (fun _ => False) (by omega) ⟨0, rfl, by omega, by simp⟩ (fun s ⟨k, k1, k2, k3⟩ => ?_) (fun s k3 => ?_) (fun _ h => h.elim)
  ·obtain ⟨k', vals⟩ := s
   simp only at k1 k3
   subst k1 k3
   refine .cond (fun h => ?_) fun h => .brk ?_
   ·have hk : k < f.values.length := by have := of_decide_eq_true h; omega
    have hvt : f.values.take (k + 1) = f.values.take k ++ [f.values[k]] := by rw [List.take_add_one, List.getElem?_eq_getElem hk]; rfl
    refine .get rfl hk ?_
    refine .cond (fun h => .app (by simp; omega) (.next ⟨⟨k + 1, by simp only; rw [w64_id (by omega)]; simp, hk, ?_⟩, by simp only; rw [w64_id (by omega)]; omega⟩)) fun h => .app (by simp; omega) (.next ⟨⟨k + 1, by simp only; rw [w64_id (by omega)]; simp, hk, ?_⟩, by simp only; rw [w64_id (by omega)]; omega⟩)
    ·rw [hvt, List.map_append, List.map_singleton, repV, if_pos (of_decide_eq_true h)]
    ·rw [hvt, List.map_append, List.map_singleton, repV, if_neg (of_decide_eq_false h)]
   ·have : f.values.length ≤ k := by have := of_decide_eq_false h; omega
    simp only [List.take_of_length_le this]
  ·obtain ⟨k', vals⟩ := s
   simp only at k3
   subst k3
   have hmem : ∀ g ∈ facts, FactOK d.relations g ∧ g.values.length ≤ 1048576 := fun g hg => by
    have := (h6 g).1 hg
    simp only [List.mem_map] at this
    obtain ⟨y, hy, rfl⟩ := this
    have hy := List.mem_of_mem_take hy
    obtain ⟨j, hj⟩ := List.getElem?_of_mem hy
    exact ⟨repF_ok hb (hd.fact j y hj), by simpa [repF] using hs.2.2.2 y hy⟩
   have hdb : DbOK ⟨d.relations, facts⟩ := dbOK_of hd.rels (by show facts.length ≤ 14; omega) (fun g hg => (hmem g hg).1) h4
   have hsb : DbS ⟨d.relations, facts⟩ := ⟨hs.1, by show facts.length ≤ 1048576; omega, hs.2.2.1, fun g hg => (hmem g hg).2⟩
   refine .bind (spec_insert (f := repF a b f) hsb (by simpa [repF] using hfv) hu hdb (repF_ok hb hfo) (by show facts.length < 14; omega) h4) fun r ⟨r1, r2, r3, r4⟩ => .next ⟨⟨n + 1, by simp only; rw [w64_id (by omega)]; simp, hn, r1, r3, by have : r.1.facts.length ≤ facts.length + 1 := r2; simp only; omega, fun x => ?_⟩, by simp only; rw [w64_id (by omega)]; omega⟩
   simp only
   rw [r4, htake, List.map_append, List.mem_append, ← h6]
   simp
 ·have : d.facts.length ≤ n := by have := of_decide_eq_false h; omega
  simp only
  rw [h6, List.take_of_length_le this]
theorem merge_ok {u : Nat} {d : Database} (hs : DbS d) (hu : 1048577 < u) (a b : Int) : ∃ y k, m_impl_MergeValues d a b = some (y, k) ∧ m_spec_MergeValues u d a b = some (y, k) ∧ DbS y ∧ ((DbOK d ∧ (0 ≤ a ∧ a ≤ 9) ∧ (0 ≤ b ∧ b ≤ 9)) ∧ k = true ∧ y.relations = d.relations ∧ AscF y.facts ∧ (∀ x, x ∈ y.facts ↔ x ∈ d.facts.map (repF a b)) ∨ ¬ (DbOK d ∧ (0 ≤ a ∧ a ≤ 9) ∧ (0 ≤ b ∧ b ≤ 9)) ∧ k = false ∧ y = d) := by
 by_cases hg : DbOK d ∧ (0 ≤ a ∧ a ≤ 9) ∧ (0 ≤ b ∧ b ≤ 9)
 ·obtain ⟨r, e1, h1, h2, h3, h4⟩ := impl_merge hs hg.1 hg.2.1 hg.2.2
  obtain ⟨r', e1', h1', h2', h3', h4'⟩ := spec_merge hs hu hg.1 hg.2.1 hg.2.2
  have e : r'.1 = r.1 := by
   have : r'.1.facts = r.1.facts := AscF.uniq h3' h3 fun x => (h4' x).trans (h4 x).symm
   have h5 := h1'.trans h1.symm
   obtain ⟨⟨x1, x2⟩, k⟩ := r
   obtain ⟨⟨y1, y2⟩, k'⟩ := r'
   simp only at this h5
   subst this h5
   rfl
  refine ⟨r.1, r.2, e1, by rw [e1', ← e, h2, ← h2'], ⟨by rw [h1]; exact hs.1, ?_, by rw [h1]; exact hs.2.2.1, fun f hf => ?_⟩, .inl ⟨hg, h2, h1, h3, h4⟩⟩
  ·have h14 : r.1.facts.length ≤ (d.facts.map (repF a b)).length := List.Nodup.length_le_of_subset (h3.imp fun {x y} h e => by subst e; rw [cmpF_irr] at h; omega) fun x hx => (h4 x).1 hx
   have := hs.2.1
   simp only [List.length_map] at h14; omega
  ·have := (h4 f).1 hf
   simp only [List.mem_map] at this
   obtain ⟨y, hy, rfl⟩ := this
   simpa [repF] using hs.2.2.2 y hy
 ·have hsp : m_spec_MergeValues u d a b = some (d, false) := by
   obtain ⟨v, g1, g2⟩ := spec_IsValidDatabase_eq u d hs hu
   unfold m_spec_MergeValues m_spec_l1In
   refine Ok.to (.bind (P := fun t => t = true) (.eq g1 (.cond (fun _ => .ret rfl) fun h1 => .eq rfl (.cond (fun _ => .ret rfl) fun h2 => .eq rfl (.ret ?_)))) fun t ht => .ct ht (.eq (l4Copy_eq hs hu) (.ret rfl)))
   have hd : DbOK d := g2.1 (by simpa using h1)
   simp only [Bool.not_eq_true', Bool.and_eq_true, decide_eq_true_eq, Bool.not_eq_false', Bool.and_eq_false_imp, decide_eq_false_iff_not] at h2 ⊢
   intro h3 h4
   exact hg ⟨hd, h2, h3, h4⟩
  have him : m_impl_MergeValues d a b = some (d, false) := by
   obtain ⟨v, g1, g2⟩ := impl_IsValidDatabase_eq d
   unfold m_impl_MergeValues m_impl_within
   refine Ok.to (.eq (impl_copyDatabase_eq hs) (.bind (P := fun t => t = true) (.eq g1 (.cond (fun _ => .ret rfl) fun h1 => .eq rfl (.cond (fun _ => .ret rfl) fun h2 => .eq rfl (.ret ?_)))) fun t ht => .ct ht (.ret rfl)))
   have hd : DbOK d := g2.1 (by simpa using h1)
   simp only [Bool.not_eq_true', Bool.and_eq_true, decide_eq_true_eq, Bool.not_eq_false', Bool.and_eq_false_imp, decide_eq_false_iff_not] at h2 ⊢
   intro h3 h4
   exact hg ⟨hd, h2, h3, h4⟩
  exact ⟨d, false, him, hsp, hs, .inr ⟨hg, rfl, rfl⟩⟩
theorem law_MergeValues (d : Database) (a b : Int) (hd : DbM d) : m_laws_FnExactMergeValues 1048578 d a b = some true := by
 unfold m_laws_FnExactMergeValues
 obtain ⟨z, h1, h2⟩ := szDatabase_b d hd 1048576 (by omega) (by omega)
 refine Ok.to (.eq h1 (.cond (fun _ => .ret rfl) fun hz => ?_))
 have hz' := of_decide_eq_false hz
 have h2 := h2.resolve_left (by omega)
 obtain ⟨_, _, hs⟩ := h2
 have e1 := toDatabase_id d hs
 obtain ⟨x, is, k1, k2, k3, _⟩ := merge_ok (u := 1048578) hs (by omega) a b
 have ex := eqDatabase_self x
 have eis : (is != is) = false := by cases is <;> rfl
 refine .eq e1 (.eq k2 (.eq e1 (.eq k1 (.bind (P := fun t => t = false) (.eq ex (.cf rfl (.ret eis))) fun t ht => .cf ht (.eq e1 (.eq (eqDatabase_self d) (.cf rfl (.bind (markDatabase_held (by omega) hs) fun r hr => .bind (P := fun t => t = false) (.cf (decide_eq_false (by omega)) (.eq ex (.cf rfl (.ret eis)))) fun t ht => .cf ht (.bind (markDatabase_held (by omega) k3) fun r3 hr3 => .eq hr3.2 (.cf (decide_eq_false (by omega)) (.cf (by simp) (.eq e1 (.eq k1 (.bind (P := fun t => t = false) (.eq ex (.cf rfl (.ret eis))) fun t ht => .cf ht (.eq hr3.2 (.cf (decide_eq_false (by omega)) (.cf (by simp) (.ret rfl))))))))))))))))))
end Go.Proofs.Ytmecnecfkgneoaa

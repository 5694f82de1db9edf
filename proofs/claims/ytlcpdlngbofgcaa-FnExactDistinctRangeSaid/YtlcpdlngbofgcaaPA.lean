import Derived.Test.YtlcpdlngbofgcaaCRC
import Derived.Test.YtlcpdlngbofgcaaM0
import Derived.Test.YtlcpdlngbofgcaaCRD
set_option linter.unusedVariables false
set_option linter.unusedSimpArgs false
namespace Go.Proofs.Ytlcpdlngbofgcaa
open Go Go.Proofs Go.Sep
theorem cond_nt {α : Type} {x y : α} : cond (!true) x y = y := rfl
theorem szIntS_b (a : List Int) (hl : a.length ≤ 9223372036854775807) (left : Int) (h0 : 0 ≤ left) (h1 : left ≤ 1048576) : ∃ r, m_laws_szIntS a left = some r ∧ (r = -1 ∨ (0 ≤ r ∧ r ≤ left ∧ a.length ≤ 1048576)) := by
 unfold m_laws_szIntS
 rw [w64_id (by omega)]
 by_cases h : left < a.length
 ·rw [cond_T' (by simp; omega)]; exact ⟨_, rfl, .inl rfl⟩
 ·rw [cond_F' (by simp; omega)]; exact ⟨_, rfl, .inr ⟨by omega, by omega, by omega⟩⟩
theorem szRelation_b (a : Relation) (hl : a.name.size ≤ 9223372036854775807) (left : Int) (h0 : 0 ≤ left) (h1 : left ≤ 1048576) : ∃ r, m_laws_szRelation a left = some r ∧ (r = -1 ∨ (0 ≤ r ∧ r ≤ left ∧ a.name.size ≤ 1048576)) := by
 unfold m_laws_szRelation
 rw [w64_id (by omega)]
 by_cases h : left < a.name.size
 ·rw [cond_T' (by simp; omega)]; exact ⟨_, rfl, .inl rfl⟩
 ·rw [cond_F' (by simp; omega)]; exact ⟨_, rfl, .inr ⟨by omega, by omega, by omega⟩⟩
theorem szFact_b (a : Fact) (hl : a.values.length ≤ 9223372036854775807) (left : Int) (h0 : 0 ≤ left) (h1 : left ≤ 1048576) : ∃ r, m_laws_szFact a left = some r ∧ (r = -1 ∨ (0 ≤ r ∧ r ≤ left ∧ a.values.length ≤ 1048576)) := by
 unfold m_laws_szFact
 obtain ⟨r, h2, h3⟩ := szIntS_b a.values hl left h0 h1
 rw [h2, Option.bind_some]
 rcases h3 with rfl | h3
 ·exact ⟨_, rfl, .inl rfl⟩
 ·rw [cond_F' (by simp; omega)]; exact ⟨_, rfl, .inr h3⟩
def DbM (d : Database) : Prop := d.relations.length ≤ 9223372036854775807 ∧ d.facts.length ≤ 9223372036854775807 ∧ (∀ r ∈ d.relations, r.name.size ≤ 9223372036854775807) ∧ ∀ f ∈ d.facts, f.values.length ≤ 9223372036854775807
def DbS (d : Database) : Prop := d.relations.length ≤ 1048576 ∧ d.facts.length ≤ 1048576 ∧ (∀ r ∈ d.relations, r.name.size ≤ 1048576) ∧ ∀ f ∈ d.facts, f.values.length ≤ 1048576
theorem szDatabase_b (d : Database) (hd : DbM d) (left : Int) (h0 : 0 ≤ left) (h1 : left ≤ 1048576) : ∃ r, m_laws_szDatabase d left = some r ∧ (r = -1 ∨ (0 ≤ r ∧ r ≤ left ∧ DbS d)) := by
 obtain ⟨r1, h2, h3⟩ := sz_loop (fun r : Relation => r.name.size ≤ 1048576) (a := d.relations) (fun x hx l => szRelation_b x (hd.2.2.1 x hx) l) h0 h1 hd.1
 have h2' : m_laws_szRelationS d.relations left = some r1 := h2
 unfold m_laws_szDatabase
 rw [h2', Option.bind_some]
 rcases h3 with rfl | ⟨h3, h4, h5⟩
 ·exact ⟨_, rfl, .inl rfl⟩
 ·rw [cond_F' (by simp; omega)]
  obtain ⟨r2, h6, h7⟩ := sz_loop (fun f : Fact => f.values.length ≤ 1048576) (a := d.facts) (fun x hx l => szFact_b x (hd.2.2.2 x hx) l) h3 (by omega) hd.2.1
  have h6' : m_laws_szFactS d.facts r1 = some r2 := h6
  rw [h6', Option.bind_some]
  rcases h7 with rfl | ⟨h7, h8, h9⟩
  ·exact ⟨_, rfl, .inl rfl⟩
  ·rw [cond_F' (by simp; omega)]; exact ⟨_, rfl, .inr ⟨h7, by omega, by omega, by omega, h5, h9⟩⟩
theorem toIntS_id (a : List Int) (hl : a.length ≤ 1048576) : m_laws_toIntS a = some a := by
 unfold m_laws_toIntS
 rw [mk_ok (by omega) (by omega), Option.bind_some, forS_fill (fun x => x) (by simp) fun n x zs hx hz => ?_]
 ·simp
 ·have hn : n < zs.length := by have := (List.getElem?_eq_some_iff.1 hx).1; omega
  rw [getI_lt hn]; simp
theorem toDatabase_id (d : Database) (hd : DbS d) : m_laws_toDatabase d = some d := by
 have h1 : m_laws_toRelationS d.relations = some d.relations := by
  have := to_loop (b := 32) (z := (default : Relation)) (g := m_laws_toRelation) (fun x => x) (a := d.relations) (fun x _ => rfl) hd.1 (by omega)
  rw [List.map_id'] at this; exact this
 have h2 : m_laws_toFactS d.facts = some d.facts := by
  have := to_loop (b := 32) (z := (default : Fact)) (g := m_laws_toFact) (fun x => x) (a := d.facts) (fun x hx => by unfold m_laws_toFact; rw [toIntS_id _ (hd.2.2.2 x hx)]; rfl) hd.2.1 (by omega)
  rw [List.map_id'] at this; exact this
 unfold m_laws_toDatabase
 rw [h1, Option.bind_some, h2, Option.bind_some]
theorem eqIntS_self (a : List Int) : m_laws_eqIntS a a = some true := by
 unfold m_laws_eqIntS
 rw [cond_F' (by simp)]
 obtain ⟨o, h1, h2⟩ := forL_ok (xs := a) (s := ()) (f := fun (i_2 : Int) (x_i_2 : Int) (_ : Unit) => (getI a (i_2 : Int)).bind fun v_4 => cond (decide (x_i_2 ≠ v_4)) (some (.ret false)) (some (.next ())))
  (fun _ _ => True) (fun _ => False) (fun (_ : Bool) => False) trivial fun n x s hx _ => by
   rw [getI_nat, hx, Option.bind_some, cond_F' (by simp)]
   exact ⟨_, rfl, trivial⟩
 rw [h1, Option.bind_some]
 cases o with
 | inl s => rfl
 | inr r => exact h2.elim
theorem eqRelation_self (a : Relation) : m_laws_eqRelation a a = some true := by simp [m_laws_eqRelation]
theorem eqFact_self (a : Fact) : m_laws_eqFact a a = some true := by
 unfold m_laws_eqFact
 rw [cond_F' (by simp), eqIntS_self]; rfl
theorem eqDatabase_self (d : Database) : m_laws_eqDatabase d d = some true := by
 have h1 : m_laws_eqRelationS d.relations d.relations = some true := eq_loop (fun x _ => eqRelation_self x)
 have h2 : m_laws_eqFactS d.facts d.facts = some true := eq_loop (fun x _ => eqFact_self x)
 unfold m_laws_eqDatabase
 rw [h1, Option.bind_some, h2]; rfl
theorem cmpL_drop {a b : List Int} {i : Nat} (h1 : i < a.length) (h2 : i < b.length) : cmpL (a.drop i) (b.drop i) = if a[i] < b[i] then -1 else if b[i] < a[i] then 1 else cmpL (a.drop (i + 1)) (b.drop (i + 1)) := by
 rw [List.drop_eq_getElem_cons h1, List.drop_eq_getElem_cons h2]; rfl
theorem cmpL_nil_r (a : List Int) : cmpL a [] = if a.length = 0 then 0 else 1 := by cases a <;> simp [cmpL]
theorem cmpL_nil_l (b : List Int) : cmpL [] b = if b.length = 0 then 0 else -1 := by cases b <;> simp [cmpL]
theorem cmp_Compare_eq (x y : Int) : m_cmp_Compare_int x y = some (if x < y then -1 else if y < x then 1 else 0) := by
 unfold m_cmp_Compare_int m_cmp_isNaN_int
 simp only [Option.bind_some, ne_eq, not_true_eq_false, decide_false, cond_false]
 by_cases h1 : x < y
 ·simp [h1]
 ·by_cases h2 : y < x <;> simp [h1, h2]
theorem slices_Compare_from (a b : List Int) : ∀ (k i : Nat), i + k = a.length → (forL (R := Int) (fun (t_1 : Int) (x_t_1 : Int) (_ : Unit) => cond (decide ((b.length : Int) ≤ (t_1 : Int))) (some (.ret 1)) ((getI b (t_1 : Int)).bind fun v_4 => (m_cmp_Compare_int x_t_1 v_4).bind fun r_9 => cond (decide (r_9 ≠ 0)) (some (.ret r_9)) (some (.next ())))) (a.drop i) (i : Int) ()).bind (fun O2_ => onS O2_ (fun (_ : Unit) => cond (decide ((a.length : Int) < (b.length : Int))) (some (-1)) (some 0)) (fun r => some r)) = some (cmpL (a.drop i) (b.drop i))
 | 0, i, hk => by
  rw [List.drop_eq_nil_of_le (show a.length ≤ i by omega), cmpL_nil_l]
  simp only [forL, Option.bind_some, onS, List.length_drop]
  by_cases h : a.length < b.length
  ·rw [cond_T' (by simpa using h), if_neg (by omega)]
  ·rw [cond_F' (by simpa using h), if_pos (by omega)]
 | k + 1, i, hk => by
  have hi : i < a.length := by omega
  rw [List.drop_eq_getElem_cons hi]
  simp only [forL]
  by_cases hb : b.length ≤ i
  ·rw [cond_T' (by simpa using hb), List.drop_eq_nil_of_le hb]; rfl
  ·rw [cond_F' (by simpa using hb), getI_lt (show i < b.length by omega), Option.bind_some, cmp_Compare_eq, Option.bind_some]
   rw [← List.drop_eq_getElem_cons hi, cmpL_drop hi (by omega)]
   by_cases h1 : a[i] < b[i]
   ·simp [h1, onS]
   ·by_cases h2 : b[i] < a[i]
    ·simp [h1, h2, onS]
    ·simp only [h1, h2, if_false, ne_eq, not_true_eq_false, decide_false, cond_false, Option.bind_some]
     exact slices_Compare_from a b k (i + 1) (by omega)
theorem slices_Compare_eq (a b : List Int) : m_slices_Compare_Sint_int a b = some (cmpL a b) := slices_Compare_from a b a.length 0 (by omega)
theorem l3Ints_cmp (a b : List Int) (u : Nat) (hu : a.length < u) (ha : a.length ≤ 1048576) (hb : b.length ≤ 9223372036854775807) : m_spec_l3Ints u a b = some (cmpL a b) := by
 unfold m_spec_l3Ints
 obtain ⟨o, h1, h2⟩ := while_ok (f := fun (i5 : Int) => cond ((decide (i5 < (a.length : Int))) && (decide (i5 < (b.length : Int)))) ((getI a i5).bind fun v_6 => (getI b i5).bind fun v_11 => cond (decide (v_6 < v_11)) (some (.ret (-1))) (cond (decide (v_11 < v_6)) (some (.ret 1)) (some (.next (w64 (i5 + 1)))))) (some (.brk i5)))
  (fun i => ∃ n : Nat, i = n ∧ n ≤ a.length ∧ n ≤ b.length ∧ cmpL a b = cmpL (a.drop n) (b.drop n)) (fun i => a.length - i.toNat) (fun i => ∃ n : Nat, i = n ∧ n ≤ a.length ∧ n ≤ b.length ∧ cmpL a b = cmpL (a.drop n) (b.drop n) ∧ (n = a.length ∨ n = b.length)) (fun (r : Int) => r = cmpL a b)
  (fun i ⟨n, hi, hn1, hn2, hI⟩ => by
   subst hi
   by_cases h : n < a.length ∧ n < b.length
   ·rw [cond_T' (by simp; omega), getI_lt h.1, Option.bind_some, getI_lt h.2, Option.bind_some]
    rw [cmpL_drop h.1 h.2] at hI
    by_cases c1 : a[n] < b[n]
    ·rw [cond_T' (by simpa using c1)]; exact ⟨_, rfl, by rw [if_pos c1] at hI; exact hI.symm⟩
    ·rw [cond_F' (by simpa using c1)]
     rw [if_neg c1] at hI
     by_cases c2 : b[n] < a[n]
     ·rw [cond_T' (by simpa using c2)]; exact ⟨_, rfl, by rw [if_pos c2] at hI; exact hI.symm⟩
     ·rw [cond_F' (by simpa using c2), w64_id (by omega)]
      rw [if_neg c2] at hI
      exact ⟨_, rfl, ⟨n + 1, by omega, h.1, h.2, hI⟩, by have := h.1; omega⟩
   ·rw [cond_F' (by simp; omega)]
    exact ⟨_, rfl, n, rfl, hn1, hn2, hI, by omega⟩)
  u 0 (by simpa using hu) ⟨0, rfl, by omega, by omega, rfl⟩
 rw [h1, Option.bind_some]
 cases o with
 | inr r => simp only [onS]; rw [h2]
 | inl i =>
  obtain ⟨n, rfl, hn1, hn2, hI, hn⟩ := h2
  simp only [onS]
  rw [hI]
  by_cases c1 : a.length < b.length
  ·have e : n = a.length := by omega
   rw [cond_T' (by simpa using c1), e, List.drop_eq_nil_of_le (Nat.le_refl _), cmpL_nil_l, if_neg (by simp; omega)]
  ·rw [cond_F' (by simpa using c1)]
   by_cases c2 : b.length < a.length
   ·have e : n = b.length := by omega
    rw [cond_T' (by simpa using c2), e, List.drop_eq_nil_of_le (Nat.le_refl b.length), cmpL_nil_r, if_neg (by simp; omega)]
   ·have e : n = a.length := by omega
    rw [cond_F' (by simpa using c2), e, List.drop_eq_nil_of_le (Nat.le_refl _), cmpL_nil_l, if_pos (by simp; omega)]
theorem validRelation_tot (r : Relation) : ∃ b, m_impl_IsValidRelation r = some b := by
 unfold m_impl_IsValidRelation m_impl_within
 by_cases h : r.name.size = 1
 ·have hb : ∃ z, getB r.name 0 = some z := by
   have h0 : 0 < r.name.size := by omega
   exact ⟨((r.name[0]'h0).toNat : Int), by unfold getB; rw [if_pos (by omega)]; simp [h0]⟩
  obtain ⟨z, hz⟩ := hb
  rw [cond_T' (by simp [h])]
  simp only [hz, Option.bind_some]
  cases decide (97 ≤ z) <;> cases decide (z ≤ 122) <;> simp only [cond_true, cond_false, Option.bind_some] <;> first | exact ⟨_, rfl⟩ | skip
  cases (decide (1 ≤ r.arity) && decide (r.arity ≤ 3)) <;> exact ⟨_, rfl⟩
 ·rw [cond_F' (by simp; omega)]; exact ⟨_, rfl⟩
theorem validRelations_tot (l : List Relation) : ∃ b, m_impl_AreValidRelations l = some b := by
 unfold m_impl_AreValidRelations
 obtain ⟨o, h1, h2⟩ := forL_ok (xs := l) (s := ()) (f := fun (t_1 : Int) (x_t_1 : Relation) (_ : Unit) => ((m_impl_IsValidRelation x_t_1).bind fun r_5 => cond (!r_5) (some true) (cond (decide (0 < (t_1 : Int))) ((getI l ((t_1 : Int) - 1)).bind fun v_9 => some (!ltS v_9.name x_t_1.name)) (some false))).bind fun (t29 : Bool) => cond t29 (some (.ret false)) (some (.next ())))
  (fun _ _ => True) (fun _ => False) (fun (_ : Bool) => True) trivial fun n x s hx _ => by
   obtain ⟨b, hb⟩ := validRelation_tot x
   have hn : n < l.length := (List.getElem?_eq_some_iff.1 hx).1
   rw [hb, Option.bind_some]
   have key : ∃ t, cond (!b) (some true) (cond (decide (0 < (n : Int))) ((getI l ((n : Int) - 1)).bind fun v_9 => some (!ltS v_9.name x.name)) (some false)) = some t := by
    cases b with
    | false => exact ⟨_, rfl⟩
    | true =>
     by_cases h0 : 0 < n
     ·have e : (n : Int) - 1 = ((n - 1 : Nat) : Int) := by omega
      rw [cond_nt, cond_T' (by simpa using h0), e, getI_lt (show n - 1 < l.length by omega)]; exact ⟨_, rfl⟩
     ·rw [cond_nt, cond_F' (by simpa using h0)]; exact ⟨_, rfl⟩
   obtain ⟨t, ht⟩ := key
   rw [ht, Option.bind_some]
   cases t <;> exact ⟨_, rfl, trivial⟩
 rw [h1, Option.bind_some]
 cases o <;> exact ⟨_, rfl⟩
theorem spec_validRelations (l : List Relation) : m_spec_AreValidRelations l = m_impl_AreValidRelations l := rfl
def FactOK (l : List Relation) (f : Fact) : Prop := ∃ (n : Nat) (r : Relation), f.relation = n ∧ l[n]? = some r ∧ (f.values.length : Int) = r.arity ∧ ∀ v ∈ f.values, 0 ≤ v ∧ v ≤ 9
theorem areValues_eq (l : List Int) : ∃ b, m_impl_areValues l = some b ∧ (b = true ↔ ∀ v ∈ l, 0 ≤ v ∧ v ≤ 9) := by
 unfold m_impl_areValues m_slices_ContainsFunc_Sint_int m_slices_IndexFunc_Sint_int
 obtain ⟨o, h1, h2⟩ := forL_ok (xs := l) (s := ()) (f := fun (t_1 : Int) (x_t_1 : Int) (_ : Unit) => (m_impl_areValues_1 x_t_1).bind fun r_3 => cond r_3 (some (.ret (t_1 : Int))) (some (.next ())))
  (fun n _ => ∀ (j : Nat) x, j < n → l[j]? = some x → 0 ≤ x ∧ x ≤ 9) (fun _ => False) (fun r => 0 ≤ r ∧ ∃ x ∈ l, ¬ (0 ≤ x ∧ x ≤ 9)) (fun j x hj => by omega) fun n x s hx hI => by
   simp only [m_impl_areValues_1, m_impl_within, Option.bind_some]
   by_cases hp : 0 ≤ x ∧ x ≤ 9
   ·rw [cond_F' (by simp [hp])]
    refine ⟨_, rfl, fun j y hj hy => ?_⟩
    by_cases e : j = n
    ·subst e; rw [hx] at hy; cases hy; exact hp
    ·exact hI j y (by omega) hy
   ·rw [cond_T' (by simp; omega)]
    exact ⟨_, rfl, by omega, x, List.mem_of_getElem? hx, hp⟩
 rw [h1]
 cases o with
 | inl s =>
  refine ⟨_, rfl, ?_⟩
  have := h2.resolve_right id
  refine ⟨fun _ v hv => ?_, fun _ => by simp⟩
  obtain ⟨j, hj⟩ := List.getElem?_of_mem hv
  exact this j v (List.getElem?_eq_some_iff.1 hj).1 hj
 | inr r =>
  refine ⟨_, rfl, ?_⟩
  obtain ⟨h3, x, hx, hp⟩ := h2
  refine ⟨fun h => by simp at h; omega, fun h => (hp (h x hx)).elim⟩
theorem isFact_eq (l : List Relation) (f : Fact) : ∃ b, m_impl_isFact l f = some b ∧ (b = true ↔ FactOK l f) := by
 unfold m_impl_isFact m_impl_within
 simp only [Option.bind_some]
 by_cases h : 0 ≤ f.relation ∧ f.relation ≤ (l.length : Int) - 1
 ·rw [cond_T' (by simp [h])]
  obtain ⟨n, hn⟩ : ∃ n : Nat, f.relation = n := ⟨f.relation.toNat, by omega⟩
  have hnl : n < l.length := by omega
  rw [hn, getI_lt hnl, Option.bind_some]
  by_cases ha : (f.values.length : Int) = l[n].arity
  ·rw [cond_T' (by simpa using ha)]
   obtain ⟨b, h1, h2⟩ := areValues_eq f.values
   rw [h1]
   refine ⟨b, rfl, h2.trans ⟨fun hv => ⟨n, l[n], hn, List.getElem?_eq_getElem hnl, ha, hv⟩, fun ⟨_, _, _, _, _, hv⟩ => hv⟩⟩
  ·rw [cond_F' (by simpa using ha)]
   refine ⟨false, rfl, by simp, fun ⟨n', r, h3, h4, h5, _⟩ => ?_⟩
   have : n' = n := by omega
   subst this
   rw [List.getElem?_eq_getElem hnl] at h4; cases h4
   exact (ha h5).elim
 ·rw [cond_F' (by simp; omega)]
  refine ⟨false, rfl, by simp, fun ⟨n', r, h3, h4, _⟩ => ?_⟩
  have := (List.getElem?_eq_some_iff.1 h4).1
  omega
theorem spec_isFact_eq (u : Nat) (l : List Relation) (f : Fact) (hu : f.values.length < u) (hf : f.values.length ≤ 1048576) : ∃ b, m_spec_IsValidFact u l f = some b ∧ (b = true ↔ m_impl_AreValidRelations l = some true ∧ FactOK l f) := by
 unfold m_spec_IsValidFact m_spec_l1In
 rw [spec_validRelations]
 obtain ⟨bl, hbl⟩ := validRelations_tot l
 rw [hbl, Option.bind_some]
 cases bl with
 | false => exact ⟨false, rfl, by simp⟩
 | true =>
  rw [cond_nt]
  simp only [Option.bind_some]
  by_cases h : 0 ≤ f.relation ∧ f.relation ≤ (l.length : Int) - 1
  ·rw [cond_F' (by simp [h])]
   obtain ⟨n, hn⟩ : ∃ n : Nat, f.relation = n := ⟨f.relation.toNat, by omega⟩
   have hnl : n < l.length := by omega
   rw [hn, getI_lt hnl, Option.bind_some, Option.bind_some]
   by_cases ha : (f.values.length : Int) = l[n].arity
   ·rw [cond_F' (by simpa using ha)]
    obtain ⟨o, h1, h2⟩ := while_ok (f := fun (i5 : Int) => cond (decide (i5 < (f.values.length : Int))) ((getI f.values i5).bind fun v_18 => (some ((decide (0 ≤ v_18)) && (decide (v_18 ≤ 9)))).bind fun r_23 => cond (!r_23) (some (.ret false)) (some (.next (w64 (i5 + 1))))) (some (.brk i5)))
     (fun i => ∃ n : Nat, i = n ∧ n ≤ f.values.length ∧ ∀ (j : Nat) x, j < n → f.values[j]? = some x → 0 ≤ x ∧ x ≤ 9) (fun i => f.values.length - i.toNat) (fun i => ∀ v ∈ f.values, 0 ≤ v ∧ v ≤ 9) (fun (r : Bool) => r = false ∧ ¬ ∀ v ∈ f.values, 0 ≤ v ∧ v ≤ 9)
     (fun i ⟨n, hi, hn1, hI⟩ => by
      subst hi
      by_cases h : n < f.values.length
      ·rw [cond_T' (by simpa using h), getI_lt h, Option.bind_some, Option.bind_some]
       by_cases hp : 0 ≤ f.values[n] ∧ f.values[n] ≤ 9
       ·rw [cond_F' (by simp [hp]), w64_id (by omega)]
        refine ⟨_, rfl, ⟨n + 1, by omega, h, fun j x hj hx => ?_⟩, by omega⟩
        by_cases e : j = n
        ·subst e; rw [List.getElem?_eq_getElem h] at hx; cases hx; exact hp
        ·exact hI j x (by omega) hx
       ·rw [cond_T' (by simp; omega)]
        exact ⟨_, rfl, rfl, fun hv => hp (hv _ (List.getElem_mem h))⟩
      ·rw [cond_F' (by simpa using h)]
       refine ⟨_, rfl, fun v hv => ?_⟩
       obtain ⟨j, hj⟩ := List.getElem?_of_mem hv
       have := (List.getElem?_eq_some_iff.1 hj).1
       exact hI j v (by omega) hj)
     u 0 (by simpa using hu) ⟨0, rfl, by omega, fun j x hj => by omega⟩
    simp only [Option.bind_some] at h1
    rw [h1, Option.bind_some]
    cases o with
    | inl i => exact ⟨true, rfl, by simp; exact ⟨n, l[n], hn, List.getElem?_eq_getElem hnl, ha, h2⟩⟩
    | inr r =>
     obtain ⟨rfl, h3⟩ := h2
     exact ⟨false, rfl, by simp; rintro ⟨_, _, _, _, _, hv⟩; exact h3 hv⟩
   ·rw [cond_T' (by simpa using ha)]
    refine ⟨false, rfl, by simp, fun ⟨_, n', r, h3, h4, h5, _⟩ => ?_⟩
    have : n' = n := by omega
    subst this
    rw [List.getElem?_eq_getElem hnl] at h4; cases h4
    exact (ha h5).elim
  ·rw [cond_T' (by simp; omega)]
   refine ⟨false, rfl, by simp, fun ⟨_, n', r, h3, h4, _⟩ => ?_⟩
   have := (List.getElem?_eq_some_iff.1 h4).1
   omega
def cmpF (a b : Fact) : Int := if a.relation < b.relation then -1 else if b.relation < a.relation then 1 else cmpL a.values b.values
theorem impl_CompareFacts_eq (a b : Fact) : m_impl_CompareFacts a b = some (cmpF a b) := by
 unfold m_impl_CompareFacts m_impl_compare cmpF
 rw [slices_Compare_eq]
 by_cases h1 : a.relation < b.relation
 ·rw [cond_T' (by simp; omega), cond_T' (by simpa using h1), if_pos h1]; rfl
 ·by_cases h2 : b.relation < a.relation
  ·rw [cond_T' (by simp; omega), cond_F' (by simpa using h1), cond_T' (by simpa using h2), if_neg h1, if_pos h2]; rfl
  ·rw [cond_F' (by simp; omega), if_neg h1, if_neg h2]; rfl
theorem spec_CompareFacts_eq (u : Nat) (a b : Fact) (hu : a.values.length < u) (ha : a.values.length ≤ 1048576) (hb : b.values.length ≤ 1048576) : m_spec_CompareFacts u a b = some (cmpF a b) := by
 unfold m_spec_CompareFacts cmpF
 rw [l3Ints_cmp _ _ u hu ha (by omega)]
 by_cases h1 : a.relation < b.relation
 ·rw [cond_T' (by simpa using h1), if_pos h1]
 ·by_cases h2 : b.relation < a.relation
  ·rw [cond_F' (by simpa using h1), cond_T' (by simpa using h2), if_neg h1, if_pos h2]
  ·rw [cond_F' (by simpa using h1), cond_F' (by simpa using h2), if_neg h1, if_neg h2]; rfl
structure DbOK (d : Database) : Prop where
  rels : m_impl_AreValidRelations d.relations = some true
  few : d.facts.length ≤ 14
  fact : ∀ (n : Nat) f, d.facts[n]? = some f → FactOK d.relations f
  sorted : ∀ (n : Nat) f g, d.facts[n]? = some f → d.facts[n + 1]? = some g → cmpF f g < 0
theorem round_eq (d : Database) {n : Nat} (hn : n < d.facts.length) (b : Bool) (p : Prop) (hb : b = true ↔ p) : ∃ t, cond (!b) (some true) (cond (decide (0 < (n : Int))) ((getI d.facts ((n : Int) - 1)).bind fun v_15 => some (decide (0 ≤ cmpF v_15 d.facts[n]))) (some false)) = some t ∧ (t = false ↔ p ∧ ∀ m f, m + 1 = n → d.facts[m]? = some f → cmpF f d.facts[n] < 0) := by
 cases b with
 | false => exact ⟨true, rfl, by simp at hb; simp [hb]⟩
 | true =>
  have hp : p := hb.1 rfl
  by_cases h0 : 0 < n
  ·have e : (n : Int) - 1 = ((n - 1 : Nat) : Int) := by omega
   rw [cond_nt, cond_T' (by simpa using h0), e, getI_lt (show n - 1 < d.facts.length by omega)]
   refine ⟨_, rfl, ?_⟩
   simp only [decide_eq_false_iff_not, hp, true_and]
   constructor
   ·intro h m f hm hf
    have : m = n - 1 := by omega
    subst this
    rw [List.getElem?_eq_getElem (by omega)] at hf; cases hf; omega
   ·intro h
    have := h (n - 1) d.facts[n - 1] (by omega) (List.getElem?_eq_getElem (by omega)); omega
  ·rw [cond_nt, cond_F' (by simpa using h0)]
   exact ⟨_, rfl, by simp [hp]; intro m f hm; omega⟩
theorem impl_IsValidDatabase_eq (d : Database) : ∃ b, m_impl_IsValidDatabase d = some b ∧ (b = true ↔ DbOK d) := by
 unfold m_impl_IsValidDatabase
 obtain ⟨bl, hbl⟩ := validRelations_tot d.relations
 rw [hbl, Option.bind_some]
 cases bl with
 | false => exact ⟨false, rfl, by simp; intro h; have := h.rels; rw [hbl] at this; cases this⟩
 | true =>
  rw [cond_nt, Option.bind_some]
  by_cases hf : d.facts.length ≤ 14
  ·rw [cond_F' (by simp; omega)]
   obtain ⟨o, h1, h2⟩ := forL_ok (xs := d.facts) (s := ()) (f := fun (t_7 : Int) (x_t_7 : Fact) (_ : Unit) => ((m_impl_isFact d.relations x_t_7).bind fun r_11 => cond (!r_11) (some true) (cond (decide (0 < (t_7 : Int))) ((getI d.facts ((t_7 : Int) - 1)).bind fun v_15 => (m_impl_CompareFacts v_15 x_t_7).bind fun r_20 => some (decide (0 ≤ r_20))) (some false))).bind fun (t42 : Bool) => cond t42 (some (.ret false)) (some (.next ())))
    (fun n _ => ∀ (j : Nat) (h : j < d.facts.length), j < n → FactOK d.relations d.facts[j] ∧ ∀ m f, m + 1 = j → d.facts[m]? = some f → cmpF f d.facts[j] < 0) (fun _ => False) (fun r => r = false ∧ ¬ DbOK d) (fun j _ hj => by omega) fun n x s hx hI => by
     have hn : n < d.facts.length := (List.getElem?_eq_some_iff.1 hx).1
     rw [List.getElem?_eq_getElem hn] at hx; cases hx
     obtain ⟨b, h3, h4⟩ := isFact_eq d.relations d.facts[n]
     rw [h3, Option.bind_some]
     simp only [impl_CompareFacts_eq, Option.bind_some]
     obtain ⟨t, h5, h6⟩ := round_eq d hn b _ h4
     rw [h5, Option.bind_some]
     cases t with
     | false =>
      refine ⟨_, rfl, fun j hj hjn => ?_⟩
      by_cases e : j = n
      ·subst e; exact h6.1 rfl
      ·exact hI j hj (by omega)
     | true =>
      refine ⟨_, rfl, rfl, fun hok => ?_⟩
      have := h6.2 ⟨hok.fact n _ (List.getElem?_eq_getElem hn), fun m f hm hf => hok.sorted m f _ hf (by rw [hm]; exact List.getElem?_eq_getElem hn)⟩
      cases this
   rw [h1, Option.bind_some]
   cases o with
   | inl s =>
    have h3 := h2.resolve_right id
    refine ⟨true, rfl, fun _ => ⟨hbl, hf, fun n f hn => ?_, fun n f g hn hg => ?_⟩, fun _ => rfl⟩
    ·obtain ⟨hl, rfl⟩ := List.getElem?_eq_some_iff.1 hn; exact (h3 n hl hl).1
    ·obtain ⟨hl, rfl⟩ := List.getElem?_eq_some_iff.1 hg; exact (h3 (n + 1) hl hl).2 n f rfl hn
   | inr r => obtain ⟨rfl, h3⟩ := h2; exact ⟨false, rfl, by simp [h3]⟩
  ·rw [cond_T' (by simp; omega)]
   exact ⟨false, rfl, by simp; intro h; exact hf h.few⟩
theorem spec_IsValidDatabase_eq (u : Nat) (d : Database) (hd : DbS d) (hu : 1048577 < u) : ∃ b, m_spec_IsValidDatabase u d = some b ∧ (b = true ↔ DbOK d) := by
 unfold m_spec_IsValidDatabase
 have hfl := hd.2.1
 obtain ⟨o, h1, h2⟩ := while_ok (f := fun (i3 : Int) => cond (decide (i3 < (d.facts.length : Int))) (((getI d.facts i3).bind fun v_5 => (m_spec_IsValidFact u d.relations v_5).bind fun r_10 => cond (!r_10) (some true) (cond (decide (0 < i3)) ((getI d.facts (w64 (i3 - 1))).bind fun v_14 => (m_spec_CompareFacts u v_14 v_5).bind fun r_19 => some (decide (0 ≤ r_19))) (some false))).bind fun (t38 : Bool) => cond t38 (some (.ret false)) (some (.next (w64 (i3 + 1))))) (some (.brk i3)))
  (fun i => ∃ n : Nat, i = n ∧ n ≤ d.facts.length ∧ ∀ (j : Nat) (h : j < d.facts.length), j < n → FactOK d.relations d.facts[j] ∧ ∀ m f, m + 1 = j → d.facts[m]? = some f → cmpF f d.facts[j] < 0) (fun i => d.facts.length - i.toNat)
  (fun i => ∀ (j : Nat) (h : j < d.facts.length), FactOK d.relations d.facts[j] ∧ ∀ m f, m + 1 = j → d.facts[m]? = some f → cmpF f d.facts[j] < 0) (fun (r : Bool) => r = false ∧ ¬ DbOK d)
  (fun i ⟨n, hi, hn1, hI⟩ => by
   subst hi
   by_cases h : n < d.facts.length
   ·have hv := hd.2.2.2 _ (List.getElem_mem h)
    rw [cond_T' (by simpa using h), getI_lt h, Option.bind_some]
    obtain ⟨b, h3, h4⟩ := spec_isFact_eq u d.relations d.facts[n] (by omega) hv
    rw [h3, Option.bind_some, w64_id (x := (n : Int) - 1) (by omega)]
    have e : ((getI d.facts ((n : Int) - 1)).bind fun v_14 => (m_spec_CompareFacts u v_14 d.facts[n]).bind fun r_19 => some (decide (0 ≤ r_19))) = (getI d.facts ((n : Int) - 1)).bind fun v_15 => some (decide (0 ≤ cmpF v_15 d.facts[n])) := by
     cases hg : getI d.facts ((n : Int) - 1) with
     | none => rfl
     | some f =>
      obtain ⟨m, _, hm⟩ := getI_inv hg
      have hv2 := hd.2.2.2 f (List.mem_of_getElem? hm)
      rw [Option.bind_some, Option.bind_some, spec_CompareFacts_eq u f _ (by omega) hv2 hv]; rfl
    rw [e]
    obtain ⟨t, h5, h6⟩ := round_eq d h b _ h4
    rw [h5, Option.bind_some]
    cases t with
    | false =>
     rw [cond_F' rfl, w64_id (by omega)]
     refine ⟨_, rfl, ⟨n + 1, by omega, h, fun j hj hjn => ?_⟩, by omega⟩
     by_cases e : j = n
     ·subst e; have := h6.1 rfl; exact ⟨this.1.2, this.2⟩
     ·exact hI j hj (by omega)
    | true =>
     refine ⟨_, rfl, rfl, fun hok => ?_⟩
     have := h6.2 ⟨⟨hok.rels, hok.fact n _ (List.getElem?_eq_getElem h)⟩, fun m f hm hf => hok.sorted m f _ hf (by rw [hm]; exact List.getElem?_eq_getElem h)⟩
     cases this
   ·rw [cond_F' (by simpa using h)]
    exact ⟨_, rfl, fun j hj => hI j hj (by omega)⟩)
  u 0 (by simp; omega) ⟨0, rfl, by omega, fun j _ hj => by omega⟩
 rw [h1, Option.bind_some]
 cases o with
 | inr r => obtain ⟨rfl, h3⟩ := h2; exact ⟨false, rfl, by simp [h3]⟩
 | inl i =>
  simp only [onS, spec_validRelations]
  obtain ⟨bl, hbl⟩ := validRelations_tot d.relations
  rw [hbl, Option.bind_some]
  cases bl with
  | false => exact ⟨false, rfl, by simp; intro h; have := h.rels; rw [hbl] at this; cases this⟩
  | true =>
   refine ⟨_, rfl, ?_⟩
   simp only [decide_eq_true_eq]
   refine ⟨fun hf => ⟨hbl, by omega, fun n f hn => ?_, fun n f g hn hg => ?_⟩, fun h => by have := h.few; omega⟩
   ·obtain ⟨hl, rfl⟩ := List.getElem?_eq_some_iff.1 hn; exact (h2 n hl).1
   ·obtain ⟨hl, rfl⟩ := List.getElem?_eq_some_iff.1 hg; exact (h2 (n + 1) hl).2 n f rfl hn
end Go.Proofs.Ytlcpdlngbofgcaa
set_option linter.unusedVariables false
set_option linter.unusedSimpArgs false
namespace Go.Proofs.Ytlcpdlngbofgcaa
open Go Go.Proofs Go.Sep
def Choice : List (List Int) → List Int → Prop
 | [], [] => True
 | b :: bs, x :: xs => x ∈ b ∧ Choice bs xs
 | _, _ => False
theorem Choice.len : ∀ {bs : List (List Int)} {c : List Int}, Choice bs c → c.length = bs.length
 | [], [], _ => rfl
 | b :: bs, x :: xs, h => by simp [Choice.len h.2]
theorem Choice.get : ∀ {bs : List (List Int)} {c : List Int}, Choice bs c → ∀ (i : Nat) b, bs[i]? = some b → ∃ x, c[i]? = some x ∧ x ∈ b
 | b :: bs, x :: xs, h, 0, b', hb => by simp at hb; subst hb; exact ⟨x, rfl, h.1⟩
 | b :: bs, x :: xs, h, i + 1, b', hb => by simpa using Choice.get h.2 i b' (by simpa using hb)
def prodL (bs : List (List Int)) : Nat := (bs.map List.length).foldr (· * ·) 1
theorem prodL_cons (b : List Int) (bs : List (List Int)) : prodL (b :: bs) = b.length * prodL bs := rfl
theorem prodL_pos : ∀ {bs : List (List Int)}, (∀ b ∈ bs, b ≠ []) → 0 < prodL bs
 | [], _ => by decide
 | b :: bs, h => by
  rw [prodL_cons]
  have h1 : 0 < b.length := List.length_pos_iff.2 (h b (List.mem_cons_self ..))
  exact Nat.mul_pos h1 (prodL_pos fun x hx => h x (List.mem_cons_of_mem _ hx))
theorem prodL_le' : ∀ bs : List (List Int), prodL bs ≤ 2 ^ (bs.map List.length).sum
 | [] => by decide
 | b :: bs => by
  rw [prodL_cons, List.map_cons, List.sum_cons, Nat.pow_add]
  exact Nat.mul_le_mul (Nat.le_of_lt (Nat.lt_two_pow_self)) (prodL_le' bs)
def nth : List (List Int) → Nat → List Int
 | [], _ => []
 | b :: bs, k => b.getD (k / prodL bs % b.length) 0 :: nth bs k
theorem nth_len : ∀ (bs : List (List Int)) (k : Nat), (nth bs k).length = bs.length
 | [], k => rfl
 | b :: bs, k => by simp [nth, nth_len bs k]
theorem nth_choice : ∀ {bs : List (List Int)} (k : Nat), (∀ b ∈ bs, b ≠ []) → Choice bs (nth bs k)
 | [], k, _ => trivial
 | b :: bs, k, h => by
  have h1 : 0 < b.length := List.length_pos_iff.2 (h b (List.mem_cons_self ..))
  refine ⟨?_, nth_choice k fun x hx => h x (List.mem_cons_of_mem _ hx)⟩
  have hlt := Nat.mod_lt (k / prodL bs) h1
  rw [List.getD_eq_getElem?_getD, List.getElem?_eq_getElem hlt]
  exact List.getElem_mem hlt
theorem nth_mod : ∀ (bs : List (List Int)) (k m : Nat), (∀ b ∈ bs, b ≠ []) → nth bs (k + m * prodL bs) = nth bs k
 | [], k, m, _ => rfl
 | b :: bs, k, m, h => by
  have h' : ∀ x ∈ bs, x ≠ [] := fun x hx => h x (List.mem_cons_of_mem _ hx)
  have hp := prodL_pos h'
  have e : k + m * prodL (b :: bs) = k + (m * b.length) * prodL bs := by rw [prodL_cons, Nat.mul_assoc]
  simp only [nth]
  rw [e, nth_mod bs k (m * b.length) h', Nat.add_mul_div_right _ _ hp, Nat.add_mul_mod_self_right]
theorem nth_all : ∀ {bs : List (List Int)} {c : List Int}, Choice bs c → ∃ k, k < prodL bs ∧ nth bs k = c
 | [], [], _ => ⟨0, by decide, rfl⟩
 | b :: bs, x :: xs, h => by
  obtain ⟨k, hk, e⟩ := nth_all h.2
  obtain ⟨j, hj⟩ := List.getElem?_of_mem h.1
  have hjl : j < b.length := (List.getElem?_eq_some_iff.1 hj).1
  have hne : ∀ y ∈ bs, y ≠ [] := fun y hy e0 => by
   obtain ⟨i, hi⟩ := List.getElem?_of_mem hy
   obtain ⟨z, _, hz⟩ := h.2.get i y hi
   rw [e0] at hz; cases hz
  have hp := prodL_pos hne
  refine ⟨k + j * prodL bs, ?_, ?_⟩
  ·rw [prodL_cons]
   have : j * prodL bs + prodL bs ≤ b.length * prodL bs := by rw [← Nat.succ_mul]; exact Nat.mul_le_mul_right _ hjl
   omega
  ·simp only [nth]
   rw [nth_mod bs k j hne, e, Nat.add_mul_div_right _ _ hp, Nat.div_eq_of_lt hk, Nat.zero_add, Nat.mod_eq_of_lt hjl, List.getD_eq_getElem?_getD, hj]; rfl
theorem prodL_append (a b : List (List Int)) : prodL (a ++ b) = prodL a * prodL b := by
 induction a with
 | nil => simp [prodL]
 | cons x a ih => rw [List.cons_append, prodL_cons, prodL_cons, ih, Nat.mul_assoc]
theorem nth_get : ∀ (bs : List (List Int)) (k i : Nat) (b : List Int), bs[i]? = some b → (nth bs k)[i]? = some (b.getD (k / prodL (bs.drop (i + 1)) % b.length) 0)
 | [], k, i, b, h => by simp at h
 | b0 :: bs, k, 0, b, h => by simp at h; subst h; simp [nth]
 | b0 :: bs, k, i + 1, b, h => by simpa [nth] using nth_get bs k i b (by simpa using h)
theorem countRepairs_eq (bs : List (List Int)) (hne : ∀ b ∈ bs, b ≠ []) (hb : prodL bs ≤ 9223372036854775807) : m_impl_countRepairs bs = some (prodL bs : Int) := by
 unfold m_impl_countRepairs
 obtain ⟨s, h1, h2⟩ := forS_ok (xs := bs) (s := (1 : Int)) (f := fun (t_1 : Int) (x_t_1 : (List Int)) (out3 : Int) => some (w64 (out3 * (x_t_1.length : Int)))) (fun n s => s = ((prodL (bs.take n) : Nat) : Int)) rfl fun n x s hx hI => by
  refine ⟨_, rfl, ?_⟩
  have e : prodL (bs.take (n + 1)) = prodL (bs.take n) * x.length := by
   rw [List.take_add_one, hx, prodL_append]; simp [prodL]
  have hle : prodL (bs.take (n + 1)) ≤ prodL bs := by
   have e2 : prodL bs = prodL (bs.take (n + 1)) * prodL (bs.drop (n + 1)) := by rw [← prodL_append, List.take_append_drop]
   rw [e2]
   exact Nat.le_mul_of_pos_right _ (prodL_pos fun y hy => hne y (List.mem_of_mem_drop hy))
  rw [hI, ← Int.natCast_mul, ← e, w64_id (by omega)]
 rw [h1, Option.bind_some, h2, List.take_length]
end Go.Proofs.Ytlcpdlngbofgcaa
set_option linter.unusedVariables false
set_option linter.unusedSimpArgs false
namespace Go.Proofs.Ytlcpdlngbofgcaa
open Go Go.Proofs Go.Sep
theorem nthRepair_eq (u : Nat) (bs : List (List Int)) (k : Nat) (hne : ∀ b ∈ bs, b ≠ []) (hk : k ≤ 9223372036854775807) (hl : bs.length ≤ 1048576) (hlb : ∀ b ∈ bs, b.length ≤ 1048576) (hu : bs.length < u) : m_impl_nthRepair u bs (k : Int) = some (nth bs k) := by
 unfold m_impl_nthRepair
 rw [mk_ok (by omega) (by omega), Option.bind_some]
 obtain ⟨o, h1, h2⟩ := while_ok (f := fun (⟨rank1, out5, i6⟩ : Int × (List Int) × Int) => cond (decide (0 ≤ i6)) ((getI bs i6).bind fun v_6 => (gD (v_6.length : Int)).bind fun _u => (getI v_6 (rank1.tmod (v_6.length : Int))).bind fun v_12 => (getI out5 i6).bind fun v_17 => (gD (v_6.length : Int)).bind fun _u => some (Ctl.next (R := List Int) ((w64 (rank1.tdiv (v_6.length : Int))), (out5.set (i6).toNat v_12), (w64 (i6 - 1))))) (some (.brk (rank1, out5, i6))))
  (fun (s : Int × List Int × Int) => ∃ n : Nat, s.2.2 = (n : Int) - 1 ∧ n ≤ bs.length ∧ s.1 = ((k / prodL (bs.drop n) : Nat) : Int) ∧ s.2.1.length = bs.length ∧ ∀ j, n ≤ j → j < bs.length → s.2.1[j]? = (nth bs k)[j]?)
  (fun (s : Int × List Int × Int) => (s.2.2 + 1).toNat) (fun (s : Int × List Int × Int) => s.2.1 = nth bs k) (fun (_ : List Int) => False)
  (fun ⟨rk, out, i⟩ ⟨n, hi, hn, hr, hol, hI⟩ => by
   simp only at hi hr hol hI
   subst hi hr
   by_cases h : 0 < n
   ·have e : (n : Int) - 1 = ((n - 1 : Nat) : Int) := by omega
    have hn1 : n - 1 < bs.length := by omega
    have hb := hne _ (List.getElem_mem hn1)
    have hbl := hlb _ (List.getElem_mem hn1)
    have hpos : 0 < bs[n - 1].length := List.length_pos_iff.2 hb
    have hd : gD ((bs[n - 1].length : Nat) : Int) = some () := gD_ok (by omega)
    have hdr : bs.drop (n - 1) = bs[n - 1] :: bs.drop n := by
     have := List.drop_eq_getElem_cons hn1
     rwa [show n - 1 + 1 = n by omega] at this
    have hmod : (((k / prodL (bs.drop n) : Nat) : Int)).tmod ((bs[n - 1].length : Nat) : Int) = ((k / prodL (bs.drop n) % bs[n - 1].length : Nat) : Int) := by
     rw [Int.tmod_eq_emod_of_nonneg (Int.natCast_nonneg _)]; rfl
    obtain ⟨q, hq⟩ : ∃ q, k / prodL (bs.drop n) / bs[n - 1].length = q := ⟨_, rfl⟩
    have hdiv : (((k / prodL (bs.drop n) : Nat) : Int)).tdiv ((bs[n - 1].length : Nat) : Int) = ((q : Nat) : Int) := by
     rw [Int.tdiv_eq_ediv_of_nonneg (Int.natCast_nonneg _), ← hq]; rfl
    have hlt := Nat.mod_lt (k / prodL (bs.drop n)) hpos
    have hkk : q ≤ k := by rw [← hq]; exact Nat.le_trans (Nat.div_le_self ..) (Nat.div_le_self ..)
    simp only
    rw [cond_T' (by simp; omega), e, getI_lt hn1, Option.bind_some, hd, Option.bind_some, hmod, getI_lt hlt, Option.bind_some, getI_lt (show n - 1 < out.length by omega), Option.bind_some, Option.bind_some, hdiv, w64_id (by omega), w64_id (by omega)]
    refine ⟨_, rfl, ⟨n - 1, by simp only, by omega, ?_, by simpa using hol, fun j hj hjl => ?_⟩, by simp only; omega⟩
    ·simp only
     rw [hdr, prodL_cons, ← hq, Nat.div_div_eq_div_mul, Nat.mul_comm]
    ·simp only [Int.toNat_natCast]
     by_cases ej : n - 1 = j
     ·subst ej
      rw [List.getElem?_set_self (by omega), nth_get bs k (n - 1) bs[n - 1] (List.getElem?_eq_getElem hn1), show n - 1 + 1 = n by omega, List.getD_eq_getElem?_getD, List.getElem?_eq_getElem hlt]; rfl
     ·rw [List.getElem?_set_ne ej]; exact hI j (by omega) hjl
   ·simp only
    rw [cond_F' (by simp; omega)]
    refine ⟨_, rfl, ?_⟩
    simp only [CtlP]
    apply List.ext_getElem?
    intro j
    by_cases hj : j < bs.length
    ·exact hI j (by omega) hj
    ·rw [List.getElem?_eq_none (by omega), List.getElem?_eq_none (by rw [nth_len]; omega)])
  u ((k : Int), List.replicate bs.length 0, (bs.length : Int) - 1) (by show ((bs.length : Int) - 1 + 1).toNat < u; omega) ⟨bs.length, rfl, Nat.le_refl _, (by show (k : Int) = ((k / prodL (bs.drop bs.length) : Nat) : Int); rw [List.drop_eq_nil_of_le (Nat.le_refl _)]; simp [prodL]), by simp, fun j h1 h2 => by omega⟩
 rw [h1, Option.bind_some]
 cases o with
 | inr r => exact h2.elim
 | inl s => obtain ⟨rk, out, i⟩ := s; simp only [SumP] at h2; subst h2; rfl
end Go.Proofs.Ytlcpdlngbofgcaa
set_option linter.unusedVariables false
set_option linter.unusedSimpArgs false
namespace Go.Proofs.Ytlcpdlngbofgcaa
open Go Go.Proofs Go.Sep
theorem prodL_le : ∀ bs : List (List Int), prodL bs ≤ 2 ^ (bs.map List.length).sum
 | [] => by decide
 | b :: bs => by
  rw [prodL_cons, List.map_cons, List.sum_cons, Nat.pow_add]
  exact Nat.mul_le_mul (Nat.le_of_lt (Nat.lt_two_pow_self)) (prodL_le bs)
structure Ends (bs : List (List Int)) (ag : List Int → Int) (lo hi : Int) : Prop where
  lo_at : ∃ c, Choice bs c ∧ ag c = lo
  lo_le : ∀ c, Choice bs c → lo ≤ ag c
  hi_at : ∃ c, Choice bs c ∧ ag c = hi
  hi_ge : ∀ c, Choice bs c → ag c ≤ hi
theorem Ends.uniq {bs ag lo hi lo' hi'} (h : Ends bs ag lo hi) (h' : Ends bs ag lo' hi') : lo = lo' ∧ hi = hi' := by
 obtain ⟨c1, a1, b1⟩ := h.lo_at
 obtain ⟨c2, a2, b2⟩ := h'.lo_at
 obtain ⟨c3, a3, b3⟩ := h.hi_at
 obtain ⟨c4, a4, b4⟩ := h'.hi_at
 have := h'.lo_le c1 a1; have := h.lo_le c2 a2; have := h'.hi_ge c3 a3; have := h.hi_ge c4 a4
 omega
theorem rangeOf_eq (u : Nat) (d : Database) (bs : List (List Int)) (hb : m_impl_blocks d = some bs) (hne : ∀ b ∈ bs, b ≠ []) (hs : (bs.map List.length).sum ≤ 14) (hl : bs.length ≤ 14) (hu : 1048576 < u) {agg : List Int → Option Int} (ag : List Int → Int) (hag : ∀ c, Choice bs c → agg c = some (ag c)) : ∃ lo hi, m_impl_rangeOf u d agg = some (lo, hi) ∧ Ends bs ag lo hi := by
 have hp : prodL bs ≤ 16384 := Nat.le_trans (prodL_le bs) (Nat.le_trans (Nat.pow_le_pow_right (by decide) hs) (by decide))
 have hlb : ∀ b ∈ bs, b.length ≤ 1048576 := fun b hb => by
  have : ∀ {l : List (List Int)}, b ∈ l → b.length ≤ (l.map List.length).sum := fun {l} => by
   induction l with
   | nil => intro h; cases h
   | cons x l ih =>
    intro h
    rw [List.map_cons, List.sum_cons]
    rcases List.mem_cons.1 h with rfl | h
    ·omega
    ·have := ih h; omega
  have := this hb; omega
 have hpos := prodL_pos hne
 have hn : ∀ k : Nat, k ≤ 1048576 → m_impl_nthRepair u bs (k : Int) = some (nth bs k) := fun k hk => nthRepair_eq u bs k hne (by omega) (by omega) hlb (by omega)
 have ha : ∀ k : Nat, agg (nth bs k) = some (ag (nth bs k)) := fun k => hag _ (nth_choice k hne)
 unfold m_impl_rangeOf
 have h0 := hn 0 (by omega)
 rw [hb, Option.bind_some, show (0 : Int) = ((0 : Nat) : Int) from rfl, h0, Option.bind_some, ha, Option.bind_some, countRepairs_eq bs hne (by omega), Option.bind_some, gN_ok (by omega), Option.bind_some]
 obtain ⟨s, h1, h2⟩ := forM_ok (m := prodL bs) (s := (ag (nth bs 0), ag (nth bs 0))) (f := fun (t_9 : Int) (⟨least7, most8⟩ : Int × Int) => (m_impl_nthRepair u bs (t_9 : Int)).bind fun r_12 => (agg r_12).bind fun r_14 => some ((if r_14 < least7 then r_14 else least7), (if most8 < r_14 then r_14 else most8)))
  (fun n (s : Int × Int) => ((∃ k, ag (nth bs k) = s.1) ∧ ∀ k, k = 0 ∨ k < n → s.1 ≤ ag (nth bs k)) ∧ ((∃ k, ag (nth bs k) = s.2) ∧ ∀ k, k = 0 ∨ k < n → ag (nth bs k) ≤ s.2))
  ⟨⟨⟨0, rfl⟩, fun k hk => by rcases hk with rfl | hk; exact Int.le_refl _; omega⟩, ⟨0, rfl⟩, fun k hk => by rcases hk with rfl | hk; exact Int.le_refl _; omega⟩
  fun n ⟨lo, hi⟩ hnlt ⟨⟨⟨k1, e1⟩, hlo⟩, ⟨k2, e2⟩, hhi⟩ => by
   simp only at e1 hlo e2 hhi
   simp only
   rw [hn n (by omega), Option.bind_some, ha, Option.bind_some]
   refine ⟨_, rfl, ⟨?_, fun k hk => ?_⟩, ?_, fun k hk => ?_⟩
   ·simp only; split
    ·exact ⟨n, rfl⟩
    ·exact ⟨k1, e1⟩
   ·simp only
    by_cases e : k = n
    ·subst e; split <;> omega
    ·have := hlo k (by omega); split <;> omega
   ·simp only; split
    ·exact ⟨n, rfl⟩
    ·exact ⟨k2, e2⟩
   ·simp only
    by_cases e : k = n
    ·subst e; split <;> omega
    ·have := hhi k (by omega); split <;> omega
 rw [show ((0 : Nat) : Int) = (0 : Int) from rfl, h1, Option.bind_some]
 obtain ⟨lo, hi⟩ := s
 obtain ⟨⟨⟨k1, e1⟩, hlo⟩, ⟨k2, e2⟩, hhi⟩ := h2
 simp only at e1 hlo e2 hhi
 refine ⟨lo, hi, rfl, ⟨⟨_, nth_choice k1 hne, e1⟩, fun c hc => ?_, ⟨_, nth_choice k2 hne, e2⟩, fun c hc => ?_⟩⟩
 ·obtain ⟨k, hk, rfl⟩ := nth_all hc; exact hlo k (.inr hk)
 ·obtain ⟨k, hk, rfl⟩ := nth_all hc; exact hhi k (.inr hk)
end Go.Proofs.Ytlcpdlngbofgcaa
set_option linter.unusedVariables false
set_option linter.unusedSimpArgs false
namespace Go.Proofs.Ytlcpdlngbofgcaa
open Go Go.Proofs Go.Sep
def RelOK (r : Relation) : Prop := 0 ≤ r.keyLength ∧ r.keyLength ≤ r.arity ∧ 1 ≤ r.arity ∧ r.arity ≤ 3
theorem validRelation_ok {r : Relation} (h : m_impl_IsValidRelation r = some true) : RelOK r := by
 unfold m_impl_IsValidRelation m_impl_within at h
 obtain ⟨t, h1, h2⟩ := bind_inv h
 have h2 : t = true := by simpa using h2
 subst h2
 by_cases hs : (r.name.size : Int) = 1
 ·rw [cond_T' (by simpa using hs)] at h1
  obtain ⟨b1, _, h3⟩ := bind_inv h1
  cases hd : decide (97 ≤ b1) with
  | false => rw [hd] at h3; simp at h3
  | true =>
   rw [hd, cond_T' rfl] at h3
   obtain ⟨b2, _, h4⟩ := bind_inv h3
   cases hd2 : decide (b2 ≤ 122) with
   | false => rw [hd2] at h4; simp at h4
   | true =>
    rw [hd2, cond_T' rfl] at h4
    simp only [Option.bind_some] at h4
    by_cases ha : 1 ≤ r.arity ∧ r.arity ≤ 3
    ·rw [cond_T' (by simp [ha])] at h4
     simp only [Option.some.injEq, Bool.and_eq_true, decide_eq_true_eq] at h4
     exact ⟨h4.1, h4.2, ha.1, ha.2⟩
    ·rw [cond_F' (by simp; omega)] at h4; simp at h4
 ·rw [cond_F' (by simpa using hs)] at h1; simp at h1
theorem validRelations_ok {l : List Relation} (h : m_impl_AreValidRelations l = some true) : ∀ r ∈ l, RelOK r := by
 unfold m_impl_AreValidRelations at h
 obtain ⟨o, h1, h2⟩ := forL_ok (xs := l) (s := ()) (f := fun (t_1 : Int) (x_t_1 : Relation) (_ : Unit) => ((m_impl_IsValidRelation x_t_1).bind fun r_5 => cond (!r_5) (some true) (cond (decide (0 < (t_1 : Int))) ((getI l ((t_1 : Int) - 1)).bind fun v_9 => some (!ltS v_9.name x_t_1.name)) (some false))).bind fun (t29 : Bool) => cond t29 (some (.ret false)) (some (.next ())))
  (fun n _ => ∀ (j : Nat) r, j < n → l[j]? = some r → RelOK r) (fun _ => False) (fun (r : Bool) => r = false) (fun j r hj => by omega) fun n x s hx hI => by
   obtain ⟨b, hb⟩ := validRelation_tot x
   have hn : n < l.length := (List.getElem?_eq_some_iff.1 hx).1
   rw [hb, Option.bind_some]
   cases b with
   | false => exact ⟨_, rfl, rfl⟩
   | true =>
    have key : ∃ t, (cond (decide (0 < (n : Int))) ((getI l ((n : Int) - 1)).bind fun v_9 => some (!ltS v_9.name x.name)) (some false)) = some t := by
     by_cases h0 : 0 < n
     ·have e : (n : Int) - 1 = ((n - 1 : Nat) : Int) := by omega
      rw [cond_T' (by simpa using h0), e, getI_lt (show n - 1 < l.length by omega)]; exact ⟨_, rfl⟩
     ·rw [cond_F' (by simpa using h0)]; exact ⟨_, rfl⟩
    obtain ⟨t, ht⟩ := key
    rw [cond_nt, ht, Option.bind_some]
    cases t with
    | true => exact ⟨_, rfl, rfl⟩
    | false =>
     refine ⟨_, rfl, fun j r hj hr => ?_⟩
     by_cases e : j = n
     ·subst e; rw [hx] at hr; cases hr; exact validRelation_ok hb
     ·exact hI j r (by omega) hr
 rw [h1, Option.bind_some] at h
 cases o with
 | inl s =>
  intro r hr
  obtain ⟨j, hj⟩ := List.getElem?_of_mem hr
  exact (h2.resolve_right id) j r (List.getElem?_eq_some_iff.1 hj).1 hj
 | inr r =>
  simp only [SumP] at h2
  subst h2; simp [onS] at h
def keyLen (l : List Relation) (f : Fact) : Nat := match l[f.relation.toNat]? with
 | some r => r.keyLength.toNat
 | none => 0
def keyF (l : List Relation) (f : Fact) : Int × List Int := (f.relation, f.values.take (keyLen l f))
theorem cut_key {xs : List Int} {k : Int} (h0 : 0 ≤ k) (h1 : k ≤ (xs.length : Int)) : cutI xs 0 k = some (xs.take k.toNat) := by
 unfold cutI
 rw [if_pos (by omega)]; simp
theorem keyLen_eq {l : List Relation} {f : Fact} {n : Nat} {r : Relation} (h1 : f.relation = n) (h2 : l[n]? = some r) : keyLen l f = r.keyLength.toNat := by
 simp only [keyLen, h1, Int.toNat_natCast, h2]
theorem impl_sameKey_eq {l : List Relation} (hl : m_impl_AreValidRelations l = some true) {a b : Fact} (ha : FactOK l a) (hb : FactOK l b) : m_impl_sameKey l a b = some (decide (keyF l a = keyF l b)) := by
 unfold m_impl_sameKey
 by_cases hr : a.relation = b.relation
 ·obtain ⟨n, r, h1, h2, h3, h4⟩ := ha
  obtain ⟨n', r', g1, g2, g3, g4⟩ := hb
  have : n' = n := by omega
  subst this
  rw [h2] at g2; cases g2
  have hok := validRelations_ok hl r (List.mem_of_getElem? h2)
  rw [cond_F' (by simp [hr]), h1, getI_nat, h2, Option.bind_some, cut_key hok.1 (by have := hok.2.1; omega), Option.bind_some, cut_key hok.1 (by have := hok.2.1; omega), Option.bind_some]
  have he : m_slices_Equal_Sint_int (a.values.take r.keyLength.toNat) (b.values.take r.keyLength.toNat) = some (decide (a.values.take r.keyLength.toNat = b.values.take r.keyLength.toNat)) := by
   unfold m_slices_Equal_Sint_int
   generalize a.values.take r.keyLength.toNat = x
   generalize b.values.take r.keyLength.toNat = y
   by_cases hl : x.length = y.length
   ·rw [cond_F' (by simp [hl])]
    obtain ⟨o, h1, h2⟩ := forL_all (f := fun (i_2 : Int) (x_i_2 : Int) (_ : Unit) => (getI y (i_2 : Int)).bind fun v_4 => cond (decide (x_i_2 ≠ v_4)) (some (.ret false)) (some (.next ()))) (xs := x) (r := false) (fun n z => decide (y[n]? = some z)) (fun n z hx => by
     have hn : n < y.length := by have := (List.getElem?_eq_some_iff.1 hx).1; omega
     rw [getI_lt hn, Option.bind_some, List.getElem?_eq_getElem hn]
     by_cases e : z = y[n]
     ·simp [e]
     ·simp [e, Ne.symm e])
    rw [h1, Option.bind_some]
    rcases h2 with ⟨rfl, h⟩ | ⟨rfl, n, z, hx, hp⟩
    ·simp only [onS, Option.some.injEq]
     symm; simp only [decide_eq_true_eq]
     apply List.ext_getElem?
     intro n
     cases hx : x[n]? with
     | none => rw [List.getElem?_eq_none_iff] at hx; rw [List.getElem?_eq_none (by omega)]
     | some z => have := h n z hx; simp at this; exact this.symm
    ·simp only [onS, Option.some.injEq]
     symm; simp only [decide_eq_false_iff_not]
     rintro rfl
     simp [hx] at hp
   ·rw [cond_T' (by simp; omega)]
    have : x ≠ y := fun e => hl (by rw [e])
    simp [this]
  rw [he, Option.bind_some]
  simp only [keyF, keyLen_eq h1 h2, keyLen_eq g1 h2, hr, Prod.mk.injEq, true_and]
 ·rw [cond_T' (by simp [hr])]
  have : keyF l a ≠ keyF l b := fun e => hr (congrArg Prod.fst e)
  simp [this]
end Go.Proofs.Ytlcpdlngbofgcaa
set_option linter.unusedVariables false
set_option linter.unusedSimpArgs false
namespace Go.Proofs.Ytlcpdlngbofgcaa
open Go Go.Proofs Go.Sep
theorem cmpL_zero : ∀ (a b : List Int), cmpL a b = 0 ↔ a = b
 | [], [] => by simp [cmpL]
 | [], y :: b => by simp [cmpL]
 | x :: a, [] => by simp [cmpL]
 | x :: a, y :: b => by
  simp only [cmpL, List.cons.injEq]
  by_cases h1 : x < y
  ·rw [if_pos h1]; constructor
   ·intro h; omega
   ·intro h; omega
  ·by_cases h2 : y < x
   ·rw [if_neg h1, if_pos h2]; constructor
    ·intro h; omega
    ·intro h; omega
   ·rw [if_neg h1, if_neg h2, cmpL_zero a b]
    constructor
    ·intro h; exact ⟨by omega, h⟩
    ·intro h; exact h.2
theorem cmpL_between : ∀ (m : Nat) (a b c : List Int), cmpL a b ≤ 0 → cmpL b c ≤ 0 → a.take m = c.take m → b.take m = a.take m
 | 0, a, b, c, _, _, _ => by simp
 | m + 1, [], [], c, _, _, _ => rfl
 | m + 1, [], y :: b, c, h1, h2, h => by
  cases c with
  | nil => simp [cmpL] at h2
  | cons z c => simp at h
 | m + 1, x :: a, [], c, h1, h2, h => by simp [cmpL] at h1
 | m + 1, x :: a, y :: b, [], h1, h2, h => by simp at h
 | m + 1, x :: a, y :: b, z :: c, h1, h2, h => by
  simp only [List.take_succ_cons, List.cons.injEq] at h ⊢
  obtain ⟨rfl, h⟩ := h
  simp only [cmpL] at h1 h2
  by_cases c1 : y < x
  ·rw [if_neg (by omega), if_pos c1] at h1; omega
  ·by_cases c2 : x < y
   ·rw [if_neg (by omega), if_pos c2] at h2; omega
   ·have : y = x := by omega
    subst this
    rw [if_neg (by omega), if_neg (by omega)] at h1 h2
    exact ⟨rfl, cmpL_between m a b c h1 h2 h⟩
theorem cmpL_trans : ∀ (a b c : List Int), cmpL a b ≤ 0 → cmpL b c ≤ 0 → cmpL a c ≤ 0
 | [], b, c, h1, h2 => by rw [cmpL_nil_l]; split <;> omega
 | x :: a, [], c, h1, h2 => by simp [cmpL] at h1
 | x :: a, y :: b, [], h1, h2 => by simp [cmpL] at h2
 | x :: a, y :: b, z :: c, h1, h2 => by
  simp only [cmpL] at h1 h2 ⊢
  by_cases c1 : x < z
  ·rw [if_pos c1]; omega
  ·rw [if_neg c1]
   by_cases c2 : x < y
   ·have : z < y := by omega
    rw [if_neg (by omega), if_pos this] at h2; omega
   ·rw [if_neg c2] at h1
    by_cases c3 : y < x
    ·rw [if_pos c3] at h1; omega
    ·rw [if_neg c3] at h1
     have : y = x := by omega
     subst this
     rw [if_neg c1] at h2
     by_cases c4 : z < y
     ·rw [if_pos c4] at h2; omega
     ·rw [if_neg c4] at h2 ⊢
      exact cmpL_trans a b c h1 h2
theorem cmpF_trans {a b c : Fact} (h1 : cmpF a b ≤ 0) (h2 : cmpF b c ≤ 0) : cmpF a c ≤ 0 := by
 unfold cmpF at *
 by_cases c1 : a.relation < c.relation
 ·rw [if_pos c1]; omega
 ·rw [if_neg c1]
  by_cases c2 : a.relation < b.relation
  ·rw [if_neg (by omega), if_pos (by omega)] at h2; omega
  ·rw [if_neg c2] at h1
   by_cases c3 : b.relation < a.relation
   ·rw [if_pos c3] at h1; omega
   ·rw [if_neg c3] at h1
    rw [if_neg (by omega)] at h2
    by_cases c4 : c.relation < b.relation
    ·rw [if_pos c4] at h2; omega
    ·rw [if_neg c4] at h2
     rw [if_neg (by omega)]
     exact cmpL_trans _ _ _ h1 h2
theorem keyF_between {l : List Relation} {a b c : Fact} (h1 : cmpF a b ≤ 0) (h2 : cmpF b c ≤ 0) (h : keyF l a = keyF l c) : keyF l b = keyF l a := by
 have hr : a.relation = c.relation := congrArg Prod.fst h
 have hv : a.values.take (keyLen l a) = c.values.take (keyLen l c) := congrArg Prod.snd h
 unfold cmpF at h1 h2
 by_cases c2 : a.relation < b.relation
 ·rw [if_neg (by omega), if_pos (by omega)] at h2; omega
 ·rw [if_neg c2] at h1
  by_cases c3 : b.relation < a.relation
  ·rw [if_pos c3] at h1; omega
  ·rw [if_neg c3] at h1
   rw [if_neg (by omega), if_neg (by omega)] at h2
   have hb : b.relation = a.relation := by omega
   have e1 : keyLen l b = keyLen l a := by simp only [keyLen, hb]
   have e2 : keyLen l c = keyLen l a := by simp only [keyLen, hr]
   rw [e2] at hv
   simp only [keyF, hb, e1, Prod.mk.injEq, true_and]
   exact cmpL_between _ _ _ _ h1 h2 hv
theorem sorted_le {d : Database} (hd : DbOK d) : ∀ (k i : Nat) f g, d.facts[i]? = some f → d.facts[i + k]? = some g → cmpF f g ≤ 0
 | 0, i, f, g, h1, h2 => by
  rw [Nat.add_zero, h1] at h2; cases h2
  have : cmpL f.values f.values = 0 := (cmpL_zero _ _).2 rfl
  simp [cmpF, this]
 | k + 1, i, f, g, h1, h2 => by
  have hl : i + k < d.facts.length := by have := (List.getElem?_eq_some_iff.1 h2).1; omega
  have h3 : d.facts[i + k]? = some d.facts[i + k] := List.getElem?_eq_getElem hl
  have := sorted_le hd k i f _ h1 h3
  exact cmpF_trans this (Int.le_of_lt (hd.sorted (i + k) _ _ h3 h2))
theorem spec_KeyOf_eq {u : Nat} {l : List Relation} (hl : m_impl_AreValidRelations l = some true) {f : Fact} (hf : FactOK l f) (hu : f.values.length < u) (hs : f.values.length ≤ 1048576) : m_spec_KeyOf u l f = some (f.values.take (keyLen l f)) := by
 unfold m_spec_KeyOf
 obtain ⟨b, h1, h2⟩ := spec_isFact_eq u l f hu hs
 have hb : b = true := h2.2 ⟨hl, hf⟩
 subst hb
 obtain ⟨n, r, g1, g2, g3, g4⟩ := hf
 have hok := validRelations_ok hl r (List.mem_of_getElem? g2)
 rw [h1, Option.bind_some, cond_nt, g1, getI_nat, g2, Option.bind_some, cut_key hok.1 (by have := hok.2.1; omega), Option.bind_some, app_ok (by simp; omega), keyLen_eq g1 g2]
 simp
theorem spec_HaveSameKey_eq {u : Nat} {l : List Relation} (hl : m_impl_AreValidRelations l = some true) {a b : Fact} (ha : FactOK l a) (hb : FactOK l b) (hu : a.values.length < u ∧ b.values.length < u) (hs : a.values.length ≤ 1048576 ∧ b.values.length ≤ 1048576) : m_spec_HaveSameKey u l a b = some (decide (keyF l a = keyF l b)) := by
 unfold m_spec_HaveSameKey
 obtain ⟨b1, h1, h2⟩ := spec_isFact_eq u l a hu.1 hs.1
 obtain ⟨b2, h3, h4⟩ := spec_isFact_eq u l b hu.2 hs.2
 have e1 : b1 = true := h2.2 ⟨hl, ha⟩
 have e2 : b2 = true := h4.2 ⟨hl, hb⟩
 subst e1 e2
 rw [h1, Option.bind_some, cond_T' rfl, h3, Option.bind_some, cond_T' rfl]
 by_cases hr : a.relation = b.relation
 ·rw [cond_T' (by simp [hr]), spec_KeyOf_eq hl ha hu.1 hs.1, Option.bind_some, spec_KeyOf_eq hl hb hu.2 hs.2, Option.bind_some, l3Ints_cmp _ _ u (by simp; omega) (by simp; omega) (by simp; omega), Option.bind_some, Option.bind_some]
  simp only [cmpL_zero, keyF, hr, Prod.mk.injEq, true_and]
 ·rw [cond_F' (by simp [hr]), Option.bind_some]
  have : keyF l a ≠ keyF l b := fun e => hr (congrArg Prod.fst e)
  simp [this]
end Go.Proofs.Ytlcpdlngbofgcaa
set_option linter.unusedVariables false
set_option linter.unusedSimpArgs false
namespace Go.Sep
section
variable {κ : Type} [DecidableEq κ] (K : Nat → κ)
def blkN (n i : Nat) : List Nat := (List.range n).filter fun j => decide (K j = K i)
def firstB (i : Nat) : Bool := decide (∀ j, j < i → K j ≠ K i)
def firsts (n : Nat) : List Nat := (List.range n).filter (firstB K)
def BlN (n : Nat) : List (List Nat) := (firsts K n).map (blkN K n)
variable {K}
theorem firstB_iff {i : Nat} : firstB K i = true ↔ ∀ j, j < i → K j ≠ K i := by simp [firstB]
theorem blkN_succ (n i : Nat) : blkN K (n + 1) i = blkN K n i ++ if K n = K i then [n] else [] := by
 simp only [blkN, List.range_succ, List.filter_append, List.filter_cons, List.filter_nil, decide_eq_true_eq]
theorem firsts_succ (n : Nat) : firsts K (n + 1) = firsts K n ++ if firstB K n = true then [n] else [] := by
 simp only [firsts, List.range_succ, List.filter_append, List.filter_cons, List.filter_nil]
theorem mem_firsts {n i : Nat} : i ∈ firsts K n ↔ i < n ∧ firstB K i = true := by simp [firsts]
theorem exists_first {i : Nat} : ∃ j, j ≤ i ∧ K j = K i ∧ firstB K j = true := by
 induction i using Nat.strongRecOn with
 | ind i ih =>
  by_cases h : firstB K i = true
  ·exact ⟨i, Nat.le_refl _, rfl, h⟩
  ·have : ∃ j, j < i ∧ K j = K i := by
    rw [firstB_iff] at h
    simp only [Classical.not_forall, ne_eq, Decidable.not_not] at h
    obtain ⟨j, h1, h2⟩ := h
    exact ⟨j, h1, h2⟩
   obtain ⟨j, h1, h2⟩ := this
   obtain ⟨k, h3, h4, h5⟩ := ih j h1
   exact ⟨k, by omega, h4.trans h2, h5⟩
theorem first_uniq {i j : Nat} (hi : firstB K i = true) (hj : firstB K j = true) (h : K i = K j) : i = j := by
 rw [firstB_iff] at hi hj
 rcases Nat.lt_trichotomy i j with h1 | h1 | h1
 ·exact (hj i h1 h).elim
 ·exact h1
 ·exact (hi j h1 h.symm).elim
theorem firsts_sorted (n : Nat) : (firsts K n).Pairwise (· < ·) := List.Pairwise.filter _ (List.pairwise_lt_range)
theorem blkN_head {n i : Nat} (hi : i < n) (hf : firstB K i = true) : (blkN K n i)[0]? = some i := by
 have hm : i ∈ blkN K n i := by simp [blkN, hi]
 have hs : (blkN K n i).Pairwise (· < ·) := List.Pairwise.filter _ (List.pairwise_lt_range)
 cases hb : blkN K n i with
 | nil => rw [hb] at hm; cases hm
 | cons x xs =>
  have hx : x ∈ blkN K n i := by rw [hb]; exact List.mem_cons_self ..
  simp only [blkN, List.mem_filter, List.mem_range, decide_eq_true_eq] at hx
  rw [hb] at hs hm
  rcases List.mem_cons.1 hm with rfl | hm
  ·rfl
  ·have := (List.pairwise_cons.1 hs).1 i hm
   exact ((firstB_iff.1 hf) x this hx.2).elim
theorem blkN_head' {n i : Nat} (hi : i < n) : ∃ j, (blkN K n i)[0]? = some j ∧ (j = i ↔ firstB K i = true) := by
 obtain ⟨j, h1, h2, h3⟩ := exists_first (K := K) (i := i)
 have e : blkN K n i = blkN K n j := by simp only [blkN, h2]
 refine ⟨j, by rw [e]; exact blkN_head (by omega) h3, ?_⟩
 constructor
 ·rintro rfl; exact h3
 ·intro h; exact first_uniq h3 h h2
theorem Bl_new {m : Nat} (hn : ∀ i, i < m → K i ≠ K m) : BlN K (m + 1) = BlN K m ++ [[m]] := by
 have hf : firstB K m = true := firstB_iff.2 hn
 have hb : blkN K (m + 1) m = [m] := by
  rw [blkN_succ, if_pos rfl]
  have : blkN K m m = [] := by
   simp only [blkN, List.filter_eq_nil_iff, List.mem_range, decide_eq_true_eq]
   exact hn
  rw [this]; rfl
 simp only [BlN, firsts_succ, if_pos hf, List.map_append, List.map_cons, List.map_nil, hb]
 congr 1
 apply List.map_congr_left
 intro i hi
 have := (mem_firsts.1 hi).1
 rw [blkN_succ, if_neg (fun e => hn i this e.symm), List.append_nil]
theorem Bl_old {m h : Nat} {F' : List Nat} (hF : firsts K m = F' ++ [h]) (hK : K h = K m) : BlN K (m + 1) = F'.map (blkN K m) ++ [blkN K m h ++ [m]] := by
 have hm : h ∈ firsts K m := by rw [hF]; simp
 obtain ⟨h1, h2⟩ := mem_firsts.1 hm
 have hf : ¬ firstB K m = true := fun hf => (firstB_iff.1 hf) h h1 hK
 simp only [BlN, firsts_succ, if_neg hf, List.append_nil, hF, List.map_append, List.map_cons, List.map_nil]
 rw [blkN_succ, if_pos hK.symm]
 congr 1
 apply List.map_congr_left
 intro i hi
 have hi' : i ∈ firsts K m := by rw [hF]; simp [hi]
 have hif := mem_firsts.1 hi'
 rw [blkN_succ, if_neg, List.append_nil]
 intro e
 have : i = h := first_uniq hif.2 h2 (e.symm.trans hK.symm)
 subst this
 have hs := firsts_sorted (K := K) m
 rw [hF, List.pairwise_append] at hs
 have := hs.2.2 i hi i (by simp)
 omega
theorem last_first {m h : Nat} {F' : List Nat} (hC : ∀ i j, i < j → j < m → K i = K m → K j = K i) (hF : firsts K m = F' ++ [h]) : K h = K m ↔ ∃ i, i < m ∧ K i = K m := by
 have hm : h ∈ firsts K m := by rw [hF]; simp
 obtain ⟨h1, h2⟩ := mem_firsts.1 hm
 constructor
 ·intro hK; exact ⟨h, h1, hK⟩
 ·rintro ⟨i, hi, hK⟩
  obtain ⟨j, g1, g2, g3⟩ := exists_first (K := K) (i := i)
  have hj : j ∈ firsts K m := mem_firsts.2 ⟨by omega, g3⟩
  rw [hF] at hj
  rcases List.mem_append.1 hj with hj | hj
  ·have hs := firsts_sorted (K := K) m
   rw [hF, List.pairwise_append] at hs
   have hlt := hs.2.2 j hj h (by simp)
   have := hC j h hlt h1 (g2.trans hK)
   exact ((firstB_iff.1 h2) j hlt this.symm).elim
  ·simp only [List.mem_singleton] at hj
   subst hj; exact g2.trans hK
end
end Go.Sep
set_option linter.unusedVariables false
set_option linter.unusedSimpArgs false
namespace Go.Proofs.Ytlcpdlngbofgcaa
open Go Go.Proofs Go.Sep
def castL (l : List Nat) : List Int := l.map fun (j : Nat) => (j : Int)
def castB (b : List (List Nat)) : List (List Int) := b.map castL
theorem castL_len (l : List Nat) : (castL l).length = l.length := by simp [castL]
theorem castB_len (b : List (List Nat)) : (castB b).length = b.length := by simp [castB]
def keyN (d : Database) (i : Nat) : Int × List Int := keyF d.relations (d.facts.getD i default)
theorem keyN_at {d : Database} {i : Nat} (h : i < d.facts.length) : keyN d i = keyF d.relations d.facts[i] := by
 simp [keyN, List.getD, h]
theorem keyN_C {d : Database} (hd : DbOK d) {m : Nat} (hm : m < d.facts.length) : ∀ i j, i < j → j < m → keyN d i = keyN d m → keyN d j = keyN d i := fun i j hij hjm h => by
 rw [keyN_at (show i < d.facts.length by omega), keyN_at hm] at h
 rw [keyN_at (show j < d.facts.length by omega), keyN_at (show i < d.facts.length by omega)]
 have h1 := sorted_le hd (j - i) i d.facts[i] d.facts[j] (List.getElem?_eq_getElem _) (by rw [show i + (j - i) = j by omega]; exact List.getElem?_eq_getElem _)
 have h2 := sorted_le hd (m - j) j d.facts[j] d.facts[m] (List.getElem?_eq_getElem _) (by rw [show j + (m - j) = m by omega]; exact List.getElem?_eq_getElem hm)
 exact keyF_between h1 h2 h
def blocksOf (d : Database) : List (List Int) := castB (BlN (keyN d) d.facts.length)
theorem BlN_len_le (K : Nat → Int × List Int) (m : Nat) : (BlN K m).length ≤ m := by
 simp only [BlN, firsts, List.length_map]
 exact Nat.le_trans (List.length_filter_le ..) (by simp)
theorem impl_blocks_eq {d : Database} (hd : DbOK d) : m_impl_blocks d = some (blocksOf d) := by
 unfold m_impl_blocks
 obtain ⟨s, h1, h2⟩ := forS_ok (xs := d.facts) (s := ([] : List (List Int))) (f := fun (t_1 : Int) (x_t_1 : Fact) (out3 : (List (List Int))) => (cond (decide (0 ≤ ((out3.length : Int) - 1))) ((getI out3 ((out3.length : Int) - 1)).bind fun v_7 => (getI v_7 0).bind fun v_12 => (getI d.facts v_12).bind fun v_17 => (m_impl_sameKey d.relations v_17 x_t_1).bind fun r_22 => some r_22) (some false)).bind fun (t36 : Bool) => cond t36 ((getI out3 ((out3.length : Int) - 1)).bind fun v_25 => (app 8 v_25 ([(t_1 : Int)] : (List Int))).bind fun us_30 => some (out3.set (((out3.length : Int) - 1)).toNat us_30)) ((app 24 out3 ([([(t_1 : Int)] : (List Int))] : (List (List Int)))).bind fun us_32 => some us_32))
  (fun m out => out = castB (BlN (keyN d) m)) rfl fun m x out hx hI => by
   have hm : m < d.facts.length := (List.getElem?_eq_some_iff.1 hx).1
   rw [List.getElem?_eq_getElem hm] at hx; cases hx
   have hfew := hd.few
   have hlen : out.length ≤ m := by rw [hI, castB_len]; exact BlN_len_le _ _
   have hnew : (∀ i, i < m → keyN d i ≠ keyN d m) → ∃ s', ((app 24 out ([([(m : Int)] : (List Int))] : (List (List Int)))).bind fun us_32 => some us_32) = some s' ∧ s' = castB (BlN (keyN d) (m + 1)) := fun hn => by
    rw [app_ok (by simp; omega)]
    refine ⟨_, rfl, ?_⟩
    rw [Bl_new hn, hI]; simp [castB, castL]
   rcases List.eq_nil_or_concat (firsts (keyN d) m) with hF | ⟨F', h, hF⟩
   ·have ho : out = [] := by rw [hI]; simp [BlN, hF, castB]
    have hn : ∀ i, i < m → keyN d i ≠ keyN d m := fun i hi _ => by
     obtain ⟨j, g1, _, g3⟩ := exists_first (K := keyN d) (i := i)
     have : j ∈ firsts (keyN d) m := mem_firsts.2 ⟨by omega, g3⟩
     rw [hF] at this; cases this
    rw [cond_F' (by simp [ho]), Option.bind_some, cond_F' rfl]
    exact hnew hn
   ·rw [List.concat_eq_append] at hF
    have hlf := last_first (keyN_C hd hm) hF
    have hh : h ∈ firsts (keyN d) m := by rw [hF]; simp
    obtain ⟨hhm, hhf⟩ := mem_firsts.1 hh
    have ho : out = castB (F'.map (blkN (keyN d) m)) ++ [castL (blkN (keyN d) m h)] := by rw [hI]; simp [BlN, hF, castB]
    have hol : (out.length : Int) - 1 = ((F'.length : Nat) : Int) := by rw [ho]; simp [castB]
    have hget : getI out ((F'.length : Nat) : Int) = some (castL (blkN (keyN d) m h)) := by
     rw [getI_nat, ho, List.getElem?_append_right (by simp [castB])]; simp [castB]
    have hhead : getI (castL (blkN (keyN d) m h)) 0 = some (h : Int) := by
     have := blkN_head hhm hhf
     rw [show (0 : Int) = ((0 : Nat) : Int) from rfl, getI_nat]; simp [castL, this]
    have hhl : h < d.facts.length := by omega
    have hsk := impl_sameKey_eq hd.rels (hd.fact h _ (List.getElem?_eq_getElem hhl)) (hd.fact m _ (List.getElem?_eq_getElem hm))
    rw [← keyN_at hhl, ← keyN_at hm] at hsk
    rw [hol, cond_T' (by simp), hget, Option.bind_some, hhead, Option.bind_some, getI_lt hhl, Option.bind_some, hsk, Option.bind_some, Option.bind_some]
    by_cases hK : keyN d h = keyN d m
    ·have hbl : (castL (blkN (keyN d) m h)).length ≤ m := by rw [castL_len]; exact Nat.le_trans (List.length_filter_le ..) (by simp)
     rw [cond_T' (by simpa using hK), Option.bind_some, app_ok (by simp; omega), Option.bind_some]
     refine ⟨_, rfl, ?_⟩
     rw [Bl_old hF hK, ho, Int.toNat_natCast, List.set_append_right _ _ (by simp [castB])]
     simp [castB, castL]
    ·rw [cond_F' (by simpa using hK)]
     exact hnew fun i hi e => hK (hlf.2 ⟨i, hi, e⟩)
 rw [h1, Option.bind_some, h2]; rfl
end Go.Proofs.Ytlcpdlngbofgcaa
set_option linter.unusedVariables false
set_option linter.unusedSimpArgs false
namespace Go.Proofs.Ytlcpdlngbofgcaa
open Go Go.Proofs Go.Sep
theorem spec_valid {u : Nat} {d : Database} (hd : DbOK d) (hs : DbS d) (hu : 1048577 < u) : m_spec_IsValidDatabase u d = some true := by
 obtain ⟨b, h1, h2⟩ := spec_IsValidDatabase_eq u d hs hu
 rw [h1, h2.2 hd]
theorem spec_BlockOf_eq {u : Nat} {d : Database} (hd : DbOK d) (hs : DbS d) (hu : 1048577 < u) {i : Nat} (hi : i < d.facts.length) : m_spec_BlockOf u d (i : Int) = some (castL (blkN (keyN d) d.facts.length i)) := by
 unfold m_spec_BlockOf m_spec_l1In
 have hfew := hd.few
 obtain ⟨o, h1, h2⟩ := while_ok (f := fun (⟨out5, k6⟩ : (List Int) × Int) => (cond (decide (k6 < (d.facts.length : Int))) ((m_spec_IsValidDatabase u d).bind fun r_5 => cond r_5 ((some ((decide (0 ≤ (i : Int))) && (decide ((i : Int) ≤ (d.facts.length : Int) - 1)))).bind fun r_9 => some r_9) (some false)) (some false)).bind fun (t24 : Bool) => cond t24 ((getI d.facts (i : Int)).bind fun v_12 => (getI d.facts k6).bind fun v_17 => (m_spec_HaveSameKey u d.relations v_12 v_17).bind fun r_22 => cond r_22 ((app 8 out5 ([k6] : (List Int))).bind fun us_25 => some (Ctl.next (R := List Int) (us_25, (w64 (k6 + 1))))) (some (.next (out5, (w64 (k6 + 1)))))) (some (.brk (out5, k6))))
  (fun (s : List Int × Int) => ∃ m : Nat, s.2 = (m : Int) ∧ m ≤ d.facts.length ∧ s.1 = castL (blkN (keyN d) m i)) (fun (s : List Int × Int) => d.facts.length - s.2.toNat) (fun (s : List Int × Int) => s.1 = castL (blkN (keyN d) d.facts.length i)) (fun (_ : List Int) => False)
  (fun ⟨out, k⟩ ⟨m, hk, hm, hI⟩ => by
   simp only at hk hI
   subst hk
   simp only [spec_valid hd hs hu, Option.bind_some, cond_true]
   by_cases h : m < d.facts.length
   ·have e : (decide (0 ≤ (i : Int)) && decide ((i : Int) ≤ (d.facts.length : Int) - 1)) = true := by simp; omega
    have hk := spec_HaveSameKey_eq (u := u) hd.rels (hd.fact i _ (List.getElem?_eq_getElem hi)) (hd.fact m _ (List.getElem?_eq_getElem h)) ⟨by have := hs.2.2.2 _ (List.getElem_mem hi); omega, by have := hs.2.2.2 _ (List.getElem_mem h); omega⟩ ⟨hs.2.2.2 _ (List.getElem_mem hi), hs.2.2.2 _ (List.getElem_mem h)⟩
    rw [← keyN_at hi, ← keyN_at h] at hk
    rw [cond_T' (by simpa using h), e, Option.bind_some, cond_T' rfl, getI_lt hi, Option.bind_some, getI_lt h, Option.bind_some, hk, Option.bind_some, w64_id (by omega)]
    have hl : out.length ≤ m := by rw [hI, castL_len]; exact Nat.le_trans (List.length_filter_le ..) (by simp)
    by_cases hK : keyN d i = keyN d m
    ·rw [cond_T' (by simpa using hK), app_ok (by simp; omega), Option.bind_some]
     refine ⟨_, rfl, ⟨m + 1, by simp, h, ?_⟩, by simp only; omega⟩
     simp only
     rw [blkN_succ, if_pos hK.symm, hI]; simp [castL]
    ·rw [cond_F' (by simpa using hK)]
     refine ⟨_, rfl, ⟨m + 1, by simp, h, ?_⟩, by simp only; omega⟩
     simp only
     rw [blkN_succ, if_neg (fun e => hK e.symm), hI, List.append_nil]
   ·rw [cond_F' (by simpa using h), Option.bind_some, cond_F' rfl]
    have e : m = d.facts.length := by omega
    exact ⟨_, rfl, by simp only [CtlP]; rw [hI, e]⟩)
  u (([] : List Int), 0) (by show d.facts.length - (0 : Int).toNat < u; omega) ⟨0, rfl, by omega, rfl⟩
 rw [h1, Option.bind_some]
 cases o with
 | inr r => exact h2.elim
 | inl s => obtain ⟨out, k⟩ := s; simp only [SumP] at h2; subst h2; rfl
theorem spec_Blocks_eq {u : Nat} {d : Database} (hd : DbOK d) (hs : DbS d) (hu : 1048577 < u) : m_spec_Blocks u d = some (blocksOf d) := by
  unfold m_spec_Blocks
  have hfew := hd.few
  obtain ⟨o, h1, h2⟩ := while_ok (f := fun (⟨out3, i4⟩ : (List (List Int)) × Int) => (cond (decide (i4 < (d.facts.length : Int))) ((m_spec_IsValidDatabase u d).bind fun r_5 => some r_5) (some false)).bind fun (t15 : Bool) => cond t15 ((m_spec_BlockOf u d i4).bind fun r_8 => (getI r_8 0).bind fun v_10 => cond (decide (v_10 = i4)) ((app 24 out3 ([r_8] : (List (List Int)))).bind fun us_16 => some (Ctl.next (R := List (List Int)) (us_16, (w64 (i4 + 1))))) (some (.next (out3, (w64 (i4 + 1)))))) (some (.brk (out3, i4))))
    (fun (s : List (List Int) × Int) => ∃ m : Nat, s.2 = (m : Int) ∧ m ≤ d.facts.length ∧ s.1 = castB ((firsts (keyN d) m).map (blkN (keyN d) d.facts.length))) (fun (s : List (List Int) × Int) => d.facts.length - s.2.toNat) (fun (s : List (List Int) × Int) => s.1 = blocksOf d) (fun (_ : List (List Int)) => False)
    (fun ⟨out, k⟩ ⟨m, hk, hm, hI⟩ => by
      simp only at hk hI
      subst hk
      simp only [spec_valid hd hs hu, Option.bind_some]
      by_cases h : m < d.facts.length
      · obtain ⟨j, g1, g2⟩ := blkN_head' (K := keyN d) h
        have hg : getI (castL (blkN (keyN d) d.facts.length m)) 0 = some (j : Int) := by
          rw [show (0 : Int) = ((0 : Nat) : Int) from rfl, getI_nat]; simp [castL, g1]
        have hl : out.length ≤ m := by
          rw [hI, castB_len, List.length_map]; exact Nat.le_trans (List.length_filter_le ..) (by simp)
        rw [cond_T' (by simpa using h), Option.bind_some, cond_T' rfl, spec_BlockOf_eq hd hs hu h, Option.bind_some, hg, Option.bind_some, w64_id (by omega)]
        by_cases hf : firstB (keyN d) m = true
        · rw [cond_T' (by have := g2.2 hf; simp; omega), app_ok (by simp; omega), Option.bind_some]
          refine ⟨_, rfl, ⟨m + 1, by simp, h, ?_⟩, by simp only; omega⟩
          simp only
          rw [firsts_succ, if_pos hf, hI]; simp [castB]
        · rw [cond_F' (by have : ¬ j = m := fun e => hf (g2.1 e)
                          simp; omega)]
          refine ⟨_, rfl, ⟨m + 1, by simp, h, ?_⟩, by simp only; omega⟩
          simp only
          rw [firsts_succ, if_neg hf, hI, List.append_nil]
      · rw [cond_F' (by simpa using h), Option.bind_some, cond_F' rfl]
        have e : m = d.facts.length := by omega
        exact ⟨_, rfl, by simp only [CtlP]; rw [hI, e]; rfl⟩)
    u (([] : List (List Int)), 0) (by show d.facts.length - (0 : Int).toNat < u; omega) ⟨0, rfl, by omega, rfl⟩
  rw [h1, Option.bind_some]
  cases o with
  | inr r => exact h2.elim
  | inl s => obtain ⟨out, k⟩ := s; simp only [SumP] at h2; subst h2; rfl
end Go.Proofs.Ytlcpdlngbofgcaa
set_option linter.unusedVariables false
set_option linter.unusedSimpArgs false
namespace Go.Proofs.Ytlcpdlngbofgcaa
open Go Go.Proofs Go.Sep
theorem mem_blocksOf {d : Database} {b : List Int} (hb : b ∈ blocksOf d) : ∃ i, i < d.facts.length ∧ firstB (keyN d) i = true ∧ b = castL (blkN (keyN d) d.facts.length i) := by
 simp only [blocksOf, castB, BlN, List.map_map, List.mem_map] at hb
 obtain ⟨i, hi, rfl⟩ := hb
 obtain ⟨h1, h2⟩ := mem_firsts.1 hi
 exact ⟨i, h1, h2, rfl⟩
theorem blocksOf_ne {d : Database} : ∀ b ∈ blocksOf d, b ≠ [] := fun b hb e => by
 obtain ⟨i, h1, h2, rfl⟩ := mem_blocksOf hb
 have := blkN_head h1 h2
 cases hc : blkN (keyN d) d.facts.length i with
 | nil => rw [hc] at this; cases this
 | cons x xs => rw [hc] at e; simp [castL] at e
theorem blocksOf_mem {d : Database} {b : List Int} (hb : b ∈ blocksOf d) {x : Int} (hx : x ∈ b) : ∃ (i j : Nat), i < d.facts.length ∧ j < d.facts.length ∧ x = (j : Int) ∧ b[0]? = some (i : Int) ∧ keyN d j = keyN d i := by
 obtain ⟨i, h1, h2, rfl⟩ := mem_blocksOf hb
 simp only [castL, List.mem_map] at hx
 obtain ⟨j, hj, rfl⟩ := hx
 simp only [blkN, List.mem_filter, List.mem_range, decide_eq_true_eq] at hj
 exact ⟨i, j, h1, hj.1, rfl, by simp [castL, blkN_head h1 h2], hj.2⟩
theorem sum_blk {κ : Type} [DecidableEq κ] {K : Nat → κ} : ∀ n : Nat, ((BlN K n).map List.length).sum = n
 | 0 => rfl
 | n + 1 => by
  have ih := sum_blk (K := K) n
  have key : ∀ F : List Nat, F.Nodup → (∀ i ∈ F, firstB K i = true) → ((F.map (blkN K (n + 1))).map List.length).sum = ((F.map (blkN K n)).map List.length).sum + (F.filter fun i => decide (K n = K i)).length := fun F => by
   induction F with
   | nil => intro _ _; rfl
   | cons i F ihF =>
    intro hnd hf
    have := ihF (List.nodup_cons.1 hnd).2 fun j hj => hf j (List.mem_cons_of_mem _ hj)
    simp only [List.map_cons, List.sum_cons, this, blkN_succ, List.length_append, List.filter_cons]
    by_cases e : K n = K i
    ·simp [e]; omega
    ·simp [e]; omega
  have hnd : (firsts K n).Nodup := (firsts_sorted (K := K) n).imp fun h => Nat.ne_of_lt h
  have h1 := key (firsts K n) hnd fun i hi => (mem_firsts.1 hi).2
  have e0 : ((firsts K n).map (blkN K n)).map List.length = (BlN K n).map List.length := rfl
  rw [e0, ih] at h1
  simp only [BlN, firsts_succ, List.map_append, List.sum_append, h1]
  obtain ⟨j, g1, g2, g3⟩ := exists_first (K := K) (i := n)
  by_cases hf : firstB K n = true
  ·have hz : ((firsts K n).filter fun i => decide (K n = K i)) = [] := by
    rw [List.filter_eq_nil_iff]
    intro i hi
    have := mem_firsts.1 hi
    simp only [decide_eq_true_eq]
    intro e
    exact (firstB_iff.1 hf) i this.1 e.symm
   have hb : blkN K n n = [] := by
    simp only [blkN, List.filter_eq_nil_iff, List.mem_range, decide_eq_true_eq]
    exact firstB_iff.1 hf
   rw [hz, if_pos hf]
   simp [blkN_succ, hb]
  ·rw [if_neg hf]
   have hjn : j < n := by
    rcases Nat.lt_or_ge j n with h | h
    ·exact h
    ·have : j = n := by omega
     subst this; exact (hf g3).elim
   have hj : j ∈ firsts K n := mem_firsts.2 ⟨hjn, g3⟩
   have hz : ((firsts K n).filter fun i => decide (K n = K i)).length = 1 := by
    have hsub : ∀ i ∈ (firsts K n).filter (fun i => decide (K n = K i)), i = j := fun i hi => by
     simp only [List.mem_filter, decide_eq_true_eq] at hi
     exact first_uniq (mem_firsts.1 hi.1).2 g3 (hi.2.symm.trans g2.symm)
    have hm : j ∈ (firsts K n).filter (fun i => decide (K n = K i)) := by simp [hj, g2]
    have hnd2 : ((firsts K n).filter fun i => decide (K n = K i)).Nodup := hnd.filter _
    generalize (firsts K n).filter (fun i => decide (K n = K i)) = L at hsub hm hnd2
    cases L with
    | nil => cases hm
    | cons a L =>
     cases L with
     | nil => rfl
     | cons b L =>
      have ha := hsub a (by simp)
      have hb := hsub b (by simp)
      rw [ha, hb] at hnd2
      simp at hnd2
   rw [hz]; simp
theorem blocksOf_sum (d : Database) : ((blocksOf d).map List.length).sum = d.facts.length := by
 have := sum_blk (K := keyN d) d.facts.length
 rw [← this]
 simp only [blocksOf, castB, List.map_map]
 congr 1
 apply List.map_congr_left
 intro b _
 simp [castL_len]
theorem blocksOf_len (d : Database) : (blocksOf d).length ≤ d.facts.length := by
 rw [blocksOf, castB_len]; exact BlN_len_le _ _
end Go.Proofs.Ytlcpdlngbofgcaa
set_option linter.unusedVariables false
set_option linter.unusedSimpArgs false
namespace Go.Proofs.Ytlcpdlngbofgcaa
open Go Go.Proofs Go.Sep
def ColOK (d : Database) (r c : Int) : Prop := DbOK d ∧ ∃ (n : Nat) (rel : Relation), r = n ∧ d.relations[n]? = some rel ∧ 0 ≤ c ∧ c ≤ w64 (rel.arity - 1)
theorem col_tail (d : Database) (r c : Int) (b : Bool) (hb : b = true ↔ DbOK d) : ∃ t, (cond b ((some ((decide (0 ≤ r)) && (decide (r ≤ (d.relations.length : Int) - 1)))).bind fun r_7 => cond r_7 ((getI d.relations r).bind fun v_10 => (some ((decide (0 ≤ c)) && (decide (c ≤ w64 (v_10.arity - 1))))).bind fun r_15 => some r_15) (some false)) (some false)) = some t ∧ (t = true ↔ ColOK d r c) := by
 cases b with
 | false => exact ⟨false, rfl, by simp; intro h; simp at hb; exact hb h.1⟩
 | true =>
  have hd : DbOK d := hb.1 rfl
  rw [cond_T' rfl, Option.bind_some]
  by_cases h : 0 ≤ r ∧ r ≤ (d.relations.length : Int) - 1
  ·rw [cond_T' (by simp [h])]
   obtain ⟨n, hn⟩ : ∃ n : Nat, r = n := ⟨r.toNat, by omega⟩
   have hnl : n < d.relations.length := by omega
   rw [hn, getI_lt hnl, Option.bind_some, Option.bind_some]
   refine ⟨_, rfl, ?_⟩
   simp only [Bool.and_eq_true, decide_eq_true_eq]
   constructor
   ·intro hc; exact ⟨hd, n, _, rfl, List.getElem?_eq_getElem hnl, hc.1, hc.2⟩
   ·rintro ⟨_, n', rel, h1, h2, h3, h4⟩
    have : n' = n := by omega
    subst this
    rw [List.getElem?_eq_getElem hnl] at h2; cases h2
    exact ⟨h3, h4⟩
  ·rw [cond_F' (by simp; omega)]
   refine ⟨false, rfl, by simp; rintro ⟨_, n', rel, h1, h2, _⟩; have := (List.getElem?_eq_some_iff.1 h2).1; omega⟩
theorem isColumn_eq (d : Database) (r c : Int) : ∃ b, m_impl_isColumn d r c = some b ∧ (b = true ↔ ColOK d r c) := by
 obtain ⟨b, h1, h2⟩ := impl_IsValidDatabase_eq d
 obtain ⟨t, h3, h4⟩ := col_tail d r c b h2
 unfold m_impl_isColumn m_impl_within
 rw [h1, Option.bind_some]
 exact ⟨t, by rw [h3]; rfl, h4⟩
theorem l27Ok_eq (u : Nat) (d : Database) (hd : DbS d) (hu : 1048577 < u) (r c : Int) : ∃ b, m_spec_l27Ok u d r c = some b ∧ (b = true ↔ ColOK d r c) := by
 obtain ⟨b, h1, h2⟩ := spec_IsValidDatabase_eq u d hd hu
 obtain ⟨t, h3, h4⟩ := col_tail d r c b h2
 unfold m_spec_l27Ok m_spec_l1In
 rw [h1, Option.bind_some]
 exact ⟨t, by rw [h3]; rfl, h4⟩
def pickV (d : Database) (r c : Int) (x : Int) : List Int := match d.facts[x.toNat]? with
 | some f => if f.relation = r then (match f.values[c.toNat]? with | some v => [v] | none => []) else []
 | none => []
theorem val_at {d : Database} {r c : Int} (hok : ColOK d r c) {x : Int} {f : Fact} (hf : getI d.facts x = some f) (hr : f.relation = r) (hs : f.values.length ≤ 1048576) : ∃ v, getI f.values c = some v ∧ pickV d r c x = [v] := by
 obtain ⟨m, rfl, hm⟩ := getI_inv hf
 obtain ⟨hd, n, rel, h1, h2, h3, h4⟩ := hok
 obtain ⟨n', rel', g1, g2, g3, g4⟩ := hd.fact m f hm
 have : n' = n := by omega
 subst this
 rw [h2] at g2; cases g2
 rw [w64_id (by omega)] at h4
 obtain ⟨k, rfl⟩ : ∃ k : Nat, c = k := ⟨c.toNat, by omega⟩
 have hk : k < f.values.length := by omega
 refine ⟨f.values[k], getI_lt hk, ?_⟩
 simp only [pickV, Int.toNat_natCast, hm, if_pos hr, List.getElem?_eq_getElem hk]
theorem columnOf_eq {d : Database} {r c : Int} (hok : ColOK d r c) (hd : DbS d) (l : List Int) (hl : l.length ≤ 1048576) (hx : ∀ x ∈ l, 0 ≤ x ∧ x < (d.facts.length : Int)) : m_impl_columnOf d l r c = some (l.flatMap (pickV d r c)) := by
 unfold m_impl_columnOf
 obtain ⟨s, h1, h2⟩ := forS_ok (xs := l) (s := ([] : List Int)) (f := fun (t_1 : Int) (x_t_1 : Int) (out9 : (List Int)) => (getI d.facts x_t_1).bind fun v_3 => cond (decide (v_3.relation = r)) ((getI v_3.values c).bind fun v_9 => (app 8 out9 ([v_9] : (List Int))).bind fun us_14 => some us_14) (some out9))
  (fun n s => s.length ≤ n ∧ s = (l.take n).flatMap (pickV d r c)) ⟨by simp, rfl⟩ fun n x s hx' ⟨hs, hI⟩ => by
   have hn : n < l.length := (List.getElem?_eq_some_iff.1 hx').1
   have hb := hx x (List.mem_of_getElem? hx')
   obtain ⟨m, rfl⟩ : ∃ m : Nat, x = m := ⟨x.toNat, by omega⟩
   have hm : m < d.facts.length := by omega
   have hg : getI d.facts (m : Int) = some d.facts[m] := getI_lt hm
   have hv := hd.2.2.2 _ (List.getElem_mem hm)
   rw [hg, Option.bind_some, List.take_add_one, hx']
   by_cases hr : d.facts[m].relation = r
   ·obtain ⟨v, h3, h4⟩ := val_at hok hg hr hv
    rw [cond_T' (by simpa using hr), h3, Option.bind_some, app_ok (by simp; omega), Option.bind_some]
    exact ⟨_, rfl, by simp; omega, by simp [h4, hI]⟩
   ·rw [cond_F' (by simpa using hr)]
    refine ⟨_, rfl, by omega, ?_⟩
    have : pickV d r c m = [] := by simp only [pickV, Int.toNat_natCast, List.getElem?_eq_getElem hm, if_neg hr]
    simp [this, hI]
 rw [h1, Option.bind_some, h2.2, List.take_length]
end Go.Proofs.Ytlcpdlngbofgcaa
set_option linter.unusedVariables false
set_option linter.unusedSimpArgs false
namespace Go.Proofs.Ytlcpdlngbofgcaa
open Go Go.Proofs Go.Sep
def valF (d : Database) (c : Int) (x : Int) : Int := (d.facts.getD x.toNat default).values.getD c.toNat 0
def relF (d : Database) (x : Int) : Int := (d.facts.getD x.toNat default).relation
theorem valF_at {d : Database} {r c : Int} (hok : ColOK d r c) {j : Nat} (hj : j < d.facts.length) (hr : d.facts[j].relation = r) (hs : d.facts[j].values.length ≤ 1048576) : getI d.facts[j].values c = some (valF d c (j : Int)) ∧ pickV d r c (j : Int) = [valF d c (j : Int)] ∧ 0 ≤ valF d c (j : Int) ∧ valF d c (j : Int) ≤ 9 := by
 obtain ⟨v, h1, h2⟩ := val_at hok (x := (j : Int)) (getI_lt hj) hr hs
 obtain ⟨n, hc, hv⟩ := getI_inv h1
 have e : valF d c (j : Int) = v := by
  subst hc
  simp [valF, List.getD, hj, hv]
 rw [e]
 obtain ⟨_, _, _, _, _, h5⟩ := hok.1.fact j _ (List.getElem?_eq_getElem hj)
 exact ⟨h1, h2, h5 v (List.mem_of_getElem? hv)⟩
theorem relF_at {d : Database} {j : Nat} (hj : j < d.facts.length) : relF d (j : Int) = d.facts[j].relation := by
 simp [relF, List.getD, hj]
end Go.Proofs.Ytlcpdlngbofgcaa
set_option linter.unusedVariables false
set_option linter.unusedSimpArgs false
namespace Go.Proofs.Ytlcpdlngbofgcaa
open Go Go.Proofs Go.Sep
theorem Choice.mem : ∀ {bs : List (List Int)} {c : List Int}, Choice bs c → ∀ x ∈ c, ∃ b ∈ bs, x ∈ b
 | [], [], _, x, hx => by cases hx
 | [], _ :: _, h, x, hx => h.elim
 | _ :: _, [], h, x, hx => h.elim
 | b :: bs, y :: ys, h, x, hx => by
  rcases List.mem_cons.1 hx with rfl | hx
  ·exact ⟨b, List.mem_cons_self .., h.1⟩
  ·obtain ⟨b', h1, h2⟩ := Choice.mem h.2 x hx
   exact ⟨b', List.mem_cons_of_mem _ h1, h2⟩
theorem choice_column {d : Database} {r c : Int} (hok : ColOK d r c) (hs : DbS d) {ch : List Int} (hc : Choice (blocksOf d) ch) : m_impl_columnOf d ch r c = some (ch.flatMap (pickV d r c)) := by
 have hl := hc.len
 have hb := blocksOf_len d
 have := hok.1.few
 refine columnOf_eq hok hs ch (by omega) fun x hx => ?_
 obtain ⟨b, h1, h2⟩ := hc.mem x hx
 obtain ⟨_, j, _, hj, rfl, _⟩ := blocksOf_mem h1 h2
 omega
theorem columnRange_ok {u : Nat} {d : Database} {r c : Int} (hok : ColOK d r c) (hs : DbS d) (hu : 1048577 < u) {agg : List Int → Option Int} (ag : List Int → Int) (hag : ∀ ch, Choice (blocksOf d) ch → agg (ch.flatMap (pickV d r c)) = some (ag (ch.flatMap (pickV d r c)))) :
  ∃ lo hi, m_impl_columnRange u d r c false agg = some (lo, hi, true) ∧ Ends (blocksOf d) (fun ch => ag (ch.flatMap (pickV d r c))) lo hi := by
 have hfew := hok.1.few
 obtain ⟨lo, hi, h1, h2⟩ := rangeOf_eq u d (blocksOf d) (impl_blocks_eq hok.1) blocksOf_ne (by rw [blocksOf_sum]; exact hfew) (Nat.le_trans (blocksOf_len d) hfew) (by omega) (agg := fun x0 => m_impl_columnRange_2 x0 agg d r c) (fun ch => ag (ch.flatMap (pickV d r c))) fun ch hc => by
  simp only [m_impl_columnRange_2]
  rw [choice_column hok hs hc, Option.bind_some, hag ch hc]; rfl
 refine ⟨lo, hi, ?_, h2⟩
 obtain ⟨b, h3, h4⟩ := isColumn_eq d r c
 have hb : b = true := h4.2 hok
 subst hb
 unfold m_impl_columnRange
 rw [h3, Option.bind_some]
 simp only [Bool.not_true, cond_false, Option.bind_some]
 rw [h1]; rfl
theorem columnRange_no {u : Nat} {d : Database} {r c : Int} (hno : ¬ ColOK d r c) {ne : Bool} {agg : List Int → Option Int} : m_impl_columnRange u d r c ne agg = some (0, 0, false) := by
 obtain ⟨b, h3, h4⟩ := isColumn_eq d r c
 have hb : b = false := by cases b with | false => rfl | true => exact (hno (h4.1 rfl)).elim
 subst hb
 unfold m_impl_columnRange
 rw [h3, Option.bind_some]; rfl
end Go.Proofs.Ytlcpdlngbofgcaa
set_option linter.unusedVariables false
set_option linter.unusedSimpArgs false
namespace Go.Proofs.Ytlcpdlngbofgcaa
open Go Go.Proofs Go.Sep
end Go.Proofs.Ytlcpdlngbofgcaa
set_option linter.unusedVariables false
set_option linter.unusedSimpArgs false
namespace Go.Proofs.Ytlcpdlngbofgcaa
open Go Go.Proofs Go.Sep
end Go.Proofs.Ytlcpdlngbofgcaa
set_option linter.unusedVariables false
set_option linter.unusedSimpArgs false
namespace Go.Proofs.Ytlcpdlngbofgcaa
open Go Go.Proofs Go.Sep
theorem block_pick {d : Database} {r c : Int} (hok : ColOK d r c) (hs : DbS d) {b : List Int} (hb : b ∈ blocksOf d) :
  (relF d (b.headD 0) = r → ∀ x ∈ b, pickV d r c x = [valF d c x] ∧ 0 ≤ valF d c x ∧ valF d c x ≤ 9) ∧ (relF d (b.headD 0) ≠ r → ∀ x ∈ b, pickV d r c x = []) := by
 have key : ∀ x ∈ b, ∃ j : Nat, ∃ hj : j < d.facts.length, x = (j : Int) ∧ d.facts[j].relation = relF d (b.headD 0) := fun x hx => by
  obtain ⟨i, j, hi, hj, rfl, hh, hk⟩ := blocksOf_mem hb hx
  have hhd : b.headD 0 = (i : Int) := by cases b with | nil => cases hx | cons y ys => simpa using hh
  rw [keyN_at hj, keyN_at hi] at hk
  exact ⟨j, hj, rfl, by rw [hhd, relF_at hi]; exact congrArg Prod.fst hk⟩
 refine ⟨fun hr x hx => ?_, fun hr x hx => ?_⟩
 ·obtain ⟨j, hj, rfl, he⟩ := key x hx
  have := valF_at hok hj (he.trans hr) (hs.2.2.2 _ (List.getElem_mem hj))
  exact this.2
 ·obtain ⟨j, hj, rfl, he⟩ := key x hx
  have : d.facts[j].relation ≠ r := fun e => hr (he.symm.trans e)
  simp only [pickV, Int.toNat_natCast, List.getElem?_eq_getElem hj, if_neg this]
theorem pick_small {d : Database} {r c : Int} (hok : ColOK d r c) (hs : DbS d) {ch : List Int} (hc : Choice (blocksOf d) ch) : (∀ x ∈ ch.flatMap (pickV d r c), 0 ≤ x ∧ x ≤ 9) ∧ (ch.flatMap (pickV d r c)).length ≤ 14 := by
 have hone : ∀ x ∈ ch, (pickV d r c x).length ≤ 1 ∧ ∀ y ∈ pickV d r c x, 0 ≤ y ∧ y ≤ 9 := fun x hx => by
  obtain ⟨b, h1, h2⟩ := hc.mem x hx
  have h3 := block_pick hok hs h1
  by_cases hr : relF d (b.headD 0) = r
  ·have := h3.1 hr x h2
   rw [this.1]; exact ⟨by simp, fun y hy => by simp at hy; subst hy; exact this.2⟩
  ·rw [h3.2 hr x h2]; exact ⟨by simp, fun y hy => by cases hy⟩
 refine ⟨fun x hx => ?_, ?_⟩
 ·obtain ⟨y, h1, h2⟩ := List.mem_flatMap.1 hx
  exact (hone y h1).2 x h2
 ·have hl := hc.len
  have h1 := blocksOf_len d
  have h2 := hok.1.few
  have : ∀ {l : List Int}, (∀ x ∈ l, (pickV d r c x).length ≤ 1) → (l.flatMap (pickV d r c)).length ≤ l.length := fun {l} => by
   induction l with
   | nil => intro _; simp
   | cons x l ih =>
    intro h
    have h1 := h x (List.mem_cons_self ..)
    have h2 := ih fun y hy => h y (List.mem_cons_of_mem _ hy)
    simp only [List.flatMap_cons, List.length_append, List.length_cons]; omega
  have := this (l := ch) fun x hx => (hone x hx).1
  omega
end Go.Proofs.Ytlcpdlngbofgcaa
set_option linter.unusedVariables false
set_option linter.unusedSimpArgs false
namespace Go.Proofs.Ytlcpdlngbofgcaa
open Go Go.Proofs Go.Sep
theorem l7Sorted_ok {u : Nat} (l : List Int) (hl : l.length ≤ 1048576) (hu : 1048577 < u) : Ok (m_spec_l7Sorted u l) fun s => s.Pairwise (· ≤ ·) ∧ s.Perm l := by
 unfold m_spec_l7Sorted
 refine .forS (fun n out => out.Pairwise (· ≤ ·) ∧ out.Perm (l.take n)) ⟨.nil, by simp⟩ (fun n x out hx ⟨hp, hq⟩ => ?_) (fun s hs => .ret ⟨hs.1, by have := hs.2; rwa [List.take_length] at this⟩)
 have hn : n < l.length := (List.getElem?_eq_some_iff.1 hx).1
 have hol : out.length = n := by rw [hq.length_eq]; simp; omega
 refine .while (fun (k : Int) => ∃ m : Nat, k = (m : Int) ∧ m ≤ out.length ∧ ∀ (j : Nat) y, m ≤ j → out[j]? = some y → x < y) (fun k => k.toNat) (fun (k : Int) => ∃ m : Nat, k = (m : Int) ∧ m ≤ out.length ∧ (∀ (j : Nat) y, m ≤ j → out[j]? = some y → x < y) ∧ (0 < m → ∀ y, out[m - 1]? = some y → y ≤ x)) (fun _ => False) (by omega) ⟨out.length, rfl, Nat.le_refl _, fun j y hj hy => by rw [List.getElem?_eq_none hj] at hy; cases hy⟩ (fun k ⟨m, h1, h2, h3⟩ => ?_) (fun k ⟨m, h1, h2, h3, h4⟩ => ?_) (fun _ h => h.elim)
 ·subst h1
  refine .bind (P := fun t => (t = true → 0 < m ∧ ∀ y, out[m - 1]? = some y → x < y) ∧ (t = false → 0 < m → ∀ y, out[m - 1]? = some y → y ≤ x)) (.cond (fun h => ?_) fun h => (.ret ⟨fun h => Bool.noConfusion h, fun _ h0 => absurd (show (0 : Int) < (m : Int) by omega) (of_decide_eq_false h)⟩)) fun t ht => .cond (fun h => .next ⟨⟨m - 1, ?_, by omega, fun j y hj hy => ?_⟩, ?_⟩) fun h => .brk ⟨m, rfl, h2, h3, ht.2 h⟩
  ·have h0 : 0 < m := by simpa using h
   have e : w64 ((m : Int) - 1) = ((m - 1 : Nat) : Int) := by rw [w64_id (by omega)]; omega
   refine .get e (by omega) (.ret ⟨fun h => ⟨h0, fun y hy => ?_⟩, fun h _ y hy => ?_⟩)
   ·rw [List.getElem?_eq_getElem (by omega)] at hy; cases hy; exact of_decide_eq_true h
   ·rw [List.getElem?_eq_getElem (by omega)] at hy; cases hy; have := of_decide_eq_false h; omega
  ·have := (ht.1 h).1; rw [w64_id (by omega)]; omega
  ·rcases Nat.lt_or_ge j m with g | g
   ·have e : j = m - 1 := by omega
    subst e; exact (ht.1 h).2 y hy
   ·exact h3 j y g hy
  ·have := (ht.1 h).1; rw [w64_id (by omega)]; omega
 ·subst h1
  refine .cut (i := 0) rfl rfl (Nat.zero_le _) h2 (.app (by simp; omega) (.app (by simp; omega) (.cut rfl rfl h2 (Nat.le_refl _) (.app (by simp; omega) (.ret ?_)))))
  rw [List.take_length, List.drop_zero, List.nil_append]
  have hsp := List.take_append_drop m out
  have hpa : (out.take m ++ out.drop m).Pairwise (· ≤ ·) := by rw [hsp]; exact hp
  obtain ⟨p1, p2, p3⟩ := List.pairwise_append.1 hpa
  have hlo : ∀ a ∈ out.take m, a ≤ x := fun a ha => by
   obtain ⟨j, hj⟩ := List.getElem?_of_mem ha
   have hjm : j < (out.take m).length := (List.getElem?_eq_some_iff.1 hj).1
   rw [List.length_take] at hjm
   have hj' : out[j]? = some a := by rwa [List.getElem?_take_of_lt (by omega)] at hj
   have hm1 : m - 1 < out.length := by omega
   have hx1 := h4 (by omega) _ (List.getElem?_eq_getElem hm1)
   rcases Nat.lt_or_ge j (m - 1) with g | g
   ·have := List.pairwise_iff_getElem.1 hp j (m - 1) (by omega) hm1 g
    have e : out[j] = a := by have := hj'; rw [List.getElem?_eq_getElem (by omega)] at this; simpa using this
    omega
   ·have e : j = m - 1 := by omega
    subst e
    rw [List.getElem?_eq_getElem hm1] at hj'; cases hj'; exact hx1
  have hhi : ∀ b ∈ out.drop m, x ≤ b := fun b hb => by
   obtain ⟨j, hj⟩ := List.getElem?_of_mem hb
   rw [List.getElem?_drop] at hj
   exact Int.le_of_lt (h3 (m + j) b (by omega) hj)
  refine ⟨?_, ?_⟩
  ·rw [List.append_assoc]
   refine List.pairwise_append.2 ⟨p1, ?_, fun a ha b hb => ?_⟩
   ·exact .cons hhi p2
   ·rcases List.mem_cons.1 hb with rfl | hb
    ·exact hlo a ha
    ·exact p3 a ha b hb
  ·rw [List.take_add_one, hx]
   refine List.Perm.trans ?_ (hq.append_right _)
   rw [List.append_assoc, List.singleton_append]
   refine List.Perm.trans (List.perm_middle) ?_
   rw [hsp]
   exact (List.perm_append_comm (l₁ := [x]) (l₂ := out))
theorem l7Sorted_eq {u : Nat} {l s : List Int} (hl : l.length ≤ 1048576) (hu : 1048577 < u) (hs : s.Pairwise (· < ·)) (hp : s.Perm l) : m_spec_l7Sorted u l = some s := by
 obtain ⟨s', h1, h2, h3⟩ := l7Sorted_ok l hl hu
 have : s' = s := List.Perm.eq_of_pairwise (fun a b _ _ h1 h2 => Int.le_antisymm h1 h2) h2 (hs.imp Int.le_of_lt) (h3.trans hp.symm)
 rw [h1, this]
end Go.Proofs.Ytlcpdlngbofgcaa
set_option linter.unusedVariables false
set_option linter.unusedSimpArgs false
namespace Go.Proofs.Ytlcpdlngbofgcaa
open Go Go.Proofs Go.Sep
theorem spec_BlockSizes_eq {u : Nat} {d : Database} (hd : DbOK d) (hs : DbS d) (hu : 1048577 < u) : m_spec_BlockSizes u d = some ((blocksOf d).map fun b => (b.length : Int)) := by
 unfold m_spec_BlockSizes
 have hb := blocksOf_len d
 have hf := hd.few
 rw [spec_Blocks_eq hd hs hu, Option.bind_some]
 refine Ok.to (.forS (fun n out => out = ((blocksOf d).take n).map fun b => (b.length : Int)) rfl (fun n x out hx hI => ?_) fun s hs => .ret (by rw [hs, List.take_length]))
 have hn : n < (blocksOf d).length := (List.getElem?_eq_some_iff.1 hx).1
 have hl : out.length = n := by rw [hI]; simp; omega
 refine .app (by simp; omega) (.ret ?_)
 rw [List.take_add_one, hx, hI]; simp
theorem spec_CountRepairs_eq {u : Nat} {d : Database} (hd : DbOK d) (hs : DbS d) (hu : 1048577 < u) : m_spec_CountRepairs u d = some (prodL (blocksOf d) : Int) ∧ prodL (blocksOf d) ≤ 16384 := by
 have hp : prodL (blocksOf d) ≤ 16384 := by
  refine Nat.le_trans (prodL_le' (blocksOf d)) ?_
  rw [blocksOf_sum]
  exact Nat.le_trans (Nat.pow_le_pow_right (by decide) hd.few) (by decide)
 refine ⟨?_, hp⟩
 unfold m_spec_CountRepairs
 rw [spec_valid hd hs hu, Option.bind_some, cond_nt, spec_BlockSizes_eq hd hs hu, Option.bind_some]
 refine Ok.to (.forS (fun n s => s = ((prodL ((blocksOf d).take n) : Nat) : Int)) rfl (fun n x s hx hI => .ret ?_) fun s hs => .ret (by rw [hs, List.length_map, List.take_length]))
 rw [List.getElem?_map] at hx
 cases hb : (blocksOf d)[n]? with
 | none => rw [hb] at hx; cases hx
 | some b =>
  rw [hb] at hx
  simp only [Option.map_some, Option.some.injEq] at hx
  subst hx
  have e : prodL ((blocksOf d).take (n + 1)) = prodL ((blocksOf d).take n) * b.length := by
   rw [List.take_add_one, hb, prodL_append]; simp [prodL]
  have hle : prodL ((blocksOf d).take (n + 1)) ≤ prodL (blocksOf d) := by
   have e2 : prodL (blocksOf d) = prodL ((blocksOf d).take (n + 1)) * prodL ((blocksOf d).drop (n + 1)) := by rw [← prodL_append, List.take_append_drop]
   rw [e2]
   exact Nat.le_mul_of_pos_right _ (prodL_pos fun y hy => blocksOf_ne y (List.mem_of_mem_drop hy))
  rw [hI, ← Int.natCast_mul, ← e, w64_id (by omega)]
end Go.Proofs.Ytlcpdlngbofgcaa
set_option linter.unusedVariables false
set_option linter.unusedSimpArgs false
namespace Go.Proofs.Ytlcpdlngbofgcaa
open Go Go.Proofs Go.Sep
theorem blocks_apart {d : Database} (hd : DbOK d) : (blocksOf d).Pairwise fun b b' => ∀ x ∈ b, ∀ y ∈ b', x < y := by
 simp only [blocksOf, castB, BlN, List.map_map]
 rw [List.pairwise_map]
 have hs := firsts_sorted (K := keyN d) d.facts.length
 refine (List.Pairwise.and_mem.1 hs).imp fun {i j} ⟨hi, hj, hij⟩ x hx y hy => ?_
 obtain ⟨hi1, hi2⟩ := mem_firsts.1 hi
 obtain ⟨hj1, hj2⟩ := mem_firsts.1 hj
 simp only [Function.comp, castL, List.mem_map] at hx hy
 obtain ⟨x, hx, rfl⟩ := hx
 obtain ⟨y, hy, rfl⟩ := hy
 simp only [blkN, List.mem_filter, List.mem_range, decide_eq_true_eq] at hx hy
 refine Classical.byContradiction fun hno => ?_
 have hyx : y ≤ x := by omega
 have hjy : j ≤ y := by
  refine Nat.le_of_not_lt fun h => (firstB_iff.1 hj2) y h hy.2
 have : keyN d j = keyN d i := by
  rcases Nat.lt_or_ge j x with h | h
  ·exact keyN_C hd hx.1 i j hij h hx.2.symm
  ·have : x = j := by omega
   subst this; exact hx.2
 have := first_uniq hi2 hj2 this.symm
 omega
theorem choice_asc : ∀ {bs : List (List Int)} {c : List Int}, Choice bs c → (bs.Pairwise fun b b' => ∀ x ∈ b, ∀ y ∈ b', x < y) → c.Pairwise (· < ·) ∧ ∀ z ∈ c, ∃ b ∈ bs, z ∈ b
 | [], [], _, _ => ⟨.nil, by simp⟩
 | [], _ :: _, h, _ => h.elim
 | _ :: _, [], h, _ => h.elim
 | b :: bs, x :: xs, h, hp => by
  obtain ⟨h1, h2⟩ := choice_asc h.2 (List.pairwise_cons.1 hp).2
  refine ⟨.cons (fun y hy => ?_) h1, fun z hz => ?_⟩
  ·obtain ⟨b', hb', hy'⟩ := h2 y hy
   exact (List.pairwise_cons.1 hp).1 b' hb' x h.1 y hy'
  ·rcases List.mem_cons.1 hz with rfl | hz
   ·exact ⟨b, List.mem_cons_self .., h.1⟩
   ·obtain ⟨b', hb', hz'⟩ := h2 z hz; exact ⟨b', List.mem_cons_of_mem _ hb', hz'⟩
theorem spec_NthRepair_eq {u : Nat} {d : Database} (hd : DbOK d) (hs : DbS d) (hu : 1048577 < u) {k : Nat} (hk : k < prodL (blocksOf d)) : m_spec_NthRepair u d (k : Int) = some (nth (blocksOf d) k, true) := by
 obtain ⟨hc, hp⟩ := spec_CountRepairs_eq hd hs hu
 have hbl := blocksOf_len d
 have hf := hd.few
 unfold m_spec_NthRepair m_spec_l1In
 refine Ok.to (.eq hc (.eq rfl (.cf ?_ (.eq (spec_Blocks_eq hd hs hu) ?_))))
 ·rw [w64_id (by omega)]; simp; omega
 generalize hbs : blocksOf d = bs at *
 have hne : ∀ b ∈ bs, b ≠ [] := by rw [← hbs]; exact blocksOf_ne
 have hlb : ∀ b ∈ bs, b.length ≤ 1048576 := fun b hb => by
  rw [← hbs] at hb
  obtain ⟨i', _, _, rfl⟩ := mem_blocksOf hb
  rw [castL_len]; exact Nat.le_trans (List.length_filter_le ..) (by simp; omega)
 have hnl := nth_len bs k
 refine .while (fun (s : Int × List Int × Int) => ∃ n : Nat, s.2.2 = (n : Int) - 1 ∧ n ≤ bs.length ∧ s.1 = ((k / prodL (bs.drop n) : Nat) : Int) ∧ s.2.1 = ((nth bs k).drop n).reverse) (fun (s : Int × List Int × Int) => (s.2.2 + 1).toNat) (fun (s : Int × List Int × Int) => s.2.1 = (nth bs k).reverse) (fun _ => False) (by simp only; omega) ⟨bs.length, rfl, Nat.le_refl _, by simp [prodL], by simp [hnl]⟩ (fun ⟨rk, out, i⟩ ⟨n, hi, hn, hr, ho⟩ => ?_) (fun ⟨rk, out, i⟩ ho => ?_) (fun _ h => h.elim)
 ·simp only at hi hr ho
  subst hi hr
  simp only
  refine .cond (fun h => ?_) fun h => .brk ?_
  ·have h0 : 0 < n := by have := of_decide_eq_true h; omega
   have hn1 : n - 1 < bs.length := by omega
   have e : (n : Int) - 1 = ((n - 1 : Nat) : Int) := by omega
   have hb := hne _ (List.getElem_mem hn1)
   have hbl' := hlb _ (List.getElem_mem hn1)
   have hpos : 0 < bs[n - 1].length := List.length_pos_iff.2 hb
   have hdr : bs.drop (n - 1) = bs[n - 1] :: bs.drop n := by
    have := List.drop_eq_getElem_cons hn1
    rwa [show n - 1 + 1 = n by omega] at this
   obtain ⟨q, hq⟩ : ∃ q, k / prodL (bs.drop n) / bs[n - 1].length = q := ⟨_, rfl⟩
   have hmod : (((k / prodL (bs.drop n) : Nat) : Int)).tmod ((bs[n - 1].length : Nat) : Int) = ((k / prodL (bs.drop n) % bs[n - 1].length : Nat) : Int) := by
    rw [Int.tmod_eq_emod_of_nonneg (Int.natCast_nonneg _)]; rfl
   have hdiv : (((k / prodL (bs.drop n) : Nat) : Int)).tdiv ((bs[n - 1].length : Nat) : Int) = ((q : Nat) : Int) := by
    rw [Int.tdiv_eq_ediv_of_nonneg (Int.natCast_nonneg _), ← hq]; rfl
   have hlt := Nat.mod_lt (k / prodL (bs.drop n)) hpos
   have hkk : q ≤ k := by rw [← hq]; exact Nat.le_trans (Nat.div_le_self ..) (Nat.div_le_self ..)
   have hol : out.length ≤ bs.length := by rw [ho]; simp [hnl]
   refine .get e hn1 (.gD (by omega) (.get hmod hlt (.app (by simp; omega) (.gD (by omega) (.next ⟨⟨n - 1, ?_, by omega, ?_, ?_⟩, ?_⟩)))))
   ·simp only; rw [w64_id (by omega)]; omega
   ·simp only; rw [hdiv, w64_id (by omega), hdr, prodL_cons, ← hq, Nat.div_div_eq_div_mul, Nat.mul_comm]
   ·simp only
    have hg := nth_get bs k (n - 1) bs[n - 1] (List.getElem?_eq_getElem hn1)
    rw [show n - 1 + 1 = n by omega] at hg
    have hdn : (nth bs k).drop (n - 1) = (nth bs k)[n - 1]'(by omega) :: (nth bs k).drop n := by
     have := List.drop_eq_getElem_cons (l := nth bs k) (i := n - 1) (by omega)
     rwa [show n - 1 + 1 = n by omega] at this
    rw [hdn, List.reverse_cons, ← ho]
    congr 2
    rw [List.getElem?_eq_getElem (by omega)] at hg
    simp only [Option.some.injEq] at hg
    rw [hg, List.getD_eq_getElem?_getD, List.getElem?_eq_getElem hlt]; rfl
   ·simp only; rw [w64_id (by omega)]; omega
  ·have : n = 0 := by have := of_decide_eq_false h; omega
   subst this
   simp only; rw [ho, List.drop_zero]
 ·simp only at ho
  subst ho
  simp only
  have hasc : (nth bs k).Pairwise (· < ·) := by
   have := blocks_apart hd
   rw [hbs] at this
   exact (choice_asc (nth_choice k hne) this).1
  exact .eq (l7Sorted_eq (by simp [hnl]; omega) hu hasc (List.reverse_perm _).symm) (.ret rfl)
end Go.Proofs.Ytlcpdlngbofgcaa
set_option linter.unusedVariables false
set_option linter.unusedSimpArgs false
namespace Go.Proofs.Ytlcpdlngbofgcaa
open Go Go.Proofs Go.Sep
theorem comp2_mem : ∀ (l : List Int) (p x : Int), x ∈ comp2 p l ∨ x = p ↔ x ∈ l ∨ x = p
 | [], p, x => by simp [comp2]
 | y :: l, p, x => by
  simp only [comp2]
  by_cases h : y = p
  ·subst h
   rw [if_pos rfl, comp2_mem l y x, List.mem_cons]
   exact ⟨fun h => h.elim (fun h => .inl (.inr h)) .inr, fun h => h.elim (fun h => h.elim .inr .inl) .inr⟩
  ·rw [if_neg h, List.mem_cons, List.mem_cons]
   have := comp2_mem l y x
   constructor
   ·rintro ((h1 | h1) | h1)
    ·exact .inl (.inl h1)
    ·rcases this.1 (.inl h1) with h2 | h2
     ·exact .inl (.inr h2)
     ·exact .inl (.inl h2)
    ·exact .inr h1
   ·rintro ((h1 | h1) | h1)
    ·exact .inl (.inl h1)
    ·rcases this.2 (.inl h1) with h2 | h2
     ·exact .inl (.inr h2)
     ·exact .inl (.inl h2)
    ·exact .inr h1
theorem comp1_mem (l : List Int) (x : Int) : x ∈ comp1 l ↔ x ∈ l := by
 cases l with
 | nil => rfl
 | cons y l =>
  simp only [comp1, List.mem_cons]
  have := comp2_mem l y x
  constructor
  ·rintro (h | h)
   ·exact .inl h
   ·exact (this.1 (.inl h)).symm
  ·rintro (h | h)
   ·exact .inl h
   ·exact (this.2 (.inl h)).symm
theorem comp2_asc : ∀ (l : List Int) (p : Int), (p :: l).Pairwise (· ≤ ·) → (p :: comp2 p l).Pairwise (· < ·)
 | [], p, _ => by simp [comp2]
 | y :: l, p, h => by
  simp only [comp2]
  have h1 := List.pairwise_cons.1 h
  by_cases e : y = p
  ·subst e
   rw [if_pos rfl]; exact comp2_asc l y h1.2
  ·rw [if_neg e]
   have ih := comp2_asc l y h1.2
   have hy := h1.1 y (List.mem_cons_self ..)
   refine List.pairwise_cons.2 ⟨fun z hz => ?_, ih⟩
   rcases List.mem_cons.1 hz with rfl | hz
   ·omega
   ·have := (List.pairwise_cons.1 ih).1 z hz; omega
theorem comp1_asc (l : List Int) (h : l.Pairwise (· ≤ ·)) : (comp1 l).Pairwise (· < ·) := by
 cases l with
 | nil => exact .nil
 | cons x l => exact comp2_asc l x h
def uni (l : List Int) : List Int := comp1 (l.mergeSort fun x y => decide (x ≤ y))
theorem uni_mem (l : List Int) (x : Int) : x ∈ uni l ↔ x ∈ l := by
 rw [uni, comp1_mem]; exact (List.mergeSort_perm l _).mem_iff
theorem uni_asc (l : List Int) : (uni l).Pairwise (· < ·) := by
 refine comp1_asc _ ?_
 have := List.pairwise_mergeSort (le := fun x y : Int => decide (x ≤ y)) (fun a b c h1 h2 => by simp at h1 h2 ⊢; omega) (fun a b => by simp; omega) l
 exact this.imp fun h => by simpa using h
theorem uni_nodup (l : List Int) : (uni l).Nodup := (uni_asc l).imp fun h => by omega
theorem uni_le (l : List Int) : (uni l).length ≤ l.length := by
 have := comp1_le (l.mergeSort fun x y => decide (x ≤ y))
 rw [List.length_mergeSort] at this; exact this
theorem uni_new {l : List Int} {v : Int} (h : v ∉ l) : (uni (l ++ [v])).length = (uni l).length + 1 := by
 have hp : (uni (l ++ [v])).Perm (v :: uni l) := (List.perm_ext_iff_of_nodup (uni_nodup _) (List.nodup_cons.2 ⟨by rwa [uni_mem], uni_nodup l⟩)).2 fun x => by
  rw [uni_mem, List.mem_cons, uni_mem]; simp [or_comm]
 simpa using hp.length_eq
theorem uni_old {l : List Int} {v : Int} (h : v ∈ l) : (uni (l ++ [v])).length = (uni l).length := by
 have hp : (uni (l ++ [v])).Perm (uni l) := (List.perm_ext_iff_of_nodup (uni_nodup _) (uni_nodup l)).2 fun x => by
  rw [uni_mem, uni_mem]; simp only [List.mem_append, List.mem_singleton]
  exact ⟨fun hx => hx.elim id fun e => by subst e; exact h, .inl⟩
 exact hp.length_eq
theorem grow_ok {k : Int} (h0 : 0 ≤ k) (h1 : k ≤ 4194304) : m_slices_Grow_Sint_int_n0 k = some [] := by
 unfold m_slices_Grow_Sint_int_n0
 have e0 : w64 (((0 : Nat) : Int) - ((0 : Nat) : Int)) = 0 := w64_id (by omega)
 rw [e0, w64_id (by omega)]
 refine Ok.to (.cf (decide_eq_false (by omega)) (.cond (fun h => ?_) fun _ => .ret rfl))
 have h := of_decide_eq_true h
 have e1 : apz 8 (k - 0) (0 : Int) = some (List.replicate (k - 0).toNat 0) := by unfold apz; rw [if_pos (by omega)]
 exact .eq e1 (.cut (i := 0) (j := 0) rfl rfl (Nat.le_refl _) (Nat.zero_le _) (.ret (by simp)))
theorem concat2_eq (a b : List Int) (ha : a.length ≤ 2097152) (hb : b.length ≤ 2097152) : m_slices_Concat_Sint_int [a, b] = some (a ++ b) := by
 have hg : m_slices_Grow_Sint_int_n0 ((a.length : Int) + b.length) = some [] := grow_ok (by omega) (by omega)
 unfold m_slices_Concat_Sint_int
 refine Ok.to (.forS (fun n s => (n = 0 ∧ s = 0) ∨ (n = 1 ∧ s = (a.length : Int)) ∨ (n = 2 ∧ s = (a.length : Int) + b.length)) (.inl ⟨rfl, rfl⟩) (fun n x s hx hI => ?_) (fun s hI => ?_))
 ·rcases hI with ⟨rfl, rfl⟩ | ⟨rfl, rfl⟩ | ⟨rfl, _⟩
  ·simp at hx; subst hx
   rw [w64_id (by omega)]
   exact .cf (decide_eq_false (by omega)) (.ret (.inr (.inl ⟨rfl, by omega⟩)))
  ·simp at hx; subst hx
   rw [w64_id (by omega)]
   exact .cf (decide_eq_false (by omega)) (.ret (.inr (.inr ⟨rfl, rfl⟩)))
  ·simp at hx
 ·have hs : s = (a.length : Int) + b.length := by
   rcases hI with ⟨h, _⟩ | ⟨h, _⟩ | ⟨_, h⟩
   ·simp at h
   ·simp at h
   ·exact h
  subst hs
  refine .eq hg (.forS (fun n s => (n = 0 ∧ s = []) ∨ (n = 1 ∧ s = a) ∨ (n = 2 ∧ s = a ++ b)) (.inl ⟨rfl, rfl⟩) (fun n x s hx hI => ?_) (fun s hI => .ret ?_))
  ·rcases hI with ⟨rfl, rfl⟩ | ⟨rfl, rfl⟩ | ⟨rfl, _⟩
   ·simp at hx; subst hx
    exact .app (by simp only [List.length_nil]; omega) (.ret (.inr (.inl ⟨rfl, rfl⟩)))
   ·simp at hx; subst hx
    exact .app (by omega) (.ret (.inr (.inr ⟨rfl, rfl⟩)))
   ·simp at hx
  ·rcases hI with ⟨h, _⟩ | ⟨h, _⟩ | ⟨_, h⟩
   ·simp at h
   ·simp at h
   ·exact h
theorem union_eq (a b : List Int) (ha : a.length ≤ 2097152) (hb : b.length ≤ 2097152) : m_impl_union a b = some (uni (a ++ b)) := by
 unfold m_impl_union
 refine Ok.to (.eq (concat2_eq a b ha hb) (.eq (a := ((), (a ++ b).mergeSort fun x y => decide (x ≤ y))) ?_ (.eq (a := uni (a ++ b)) ?_ (.ret rfl))))
 ·unfold m_slices_Sort_Sint_int; rw [if_pos (by rw [List.length_append]; omega)]
 ·unfold m_slices_Compact_Sint_int
  simp only
  rw [if_pos (by rw [List.length_mergeSort, List.length_append]; omega)]; rfl
end Go.Proofs.Ytlcpdlngbofgcaa
set_option linter.unusedVariables false
set_option linter.unusedSimpArgs false
namespace Go.Proofs.Ytlcpdlngbofgcaa
open Go Go.Proofs Go.Sep
def dn (l : List Int) : Int := ((uni l).length : Int)
theorem dn_nil : dn [] = 0 := by simp [dn, uni, comp1]
theorem dn_le (l : List Int) : 0 ≤ dn l ∧ dn l ≤ (l.length : Int) := ⟨by simp only [dn]; omega, by have := uni_le l; simp only [dn]; omega⟩
theorem impl_DistinctRange_ok {u : Nat} {d : Database} {r c : Int} (hok : ColOK d r c) (hs : DbS d) (hu : 1048577 < u) : ∃ lo hi, m_impl_DistinctRange u d r c = some (lo, hi, true) ∧ Ends (blocksOf d) (fun ch => dn (ch.flatMap (pickV d r c))) lo hi := by
 obtain ⟨lo, hi, k1, k2⟩ := columnRange_ok (u := u) hok hs hu (agg := fun x0 => m_impl_DistinctRange_1 x0) dn fun ch hc => by
  have hl := (pick_small hok hs hc).2
  unfold m_impl_DistinctRange_1
  rw [union_eq _ _ (by omega) (by simp), List.append_nil]; rfl
 refine ⟨lo, hi, ?_, k2⟩
 unfold m_impl_DistinctRange
 rw [k1]; rfl
theorem spec_DistinctRange_ok {u : Nat} {d : Database} {r c : Int} (hok : ColOK d r c) (hs : DbS d) (hu : 1048577 < u) : Ok (m_spec_DistinctRange u d r c) fun w => w.2.2 = true ∧ Ends (blocksOf d) (fun ch => dn (ch.flatMap (pickV d r c))) w.1 w.2.1 := by
 have hd := hok.1
 obtain ⟨b, g1, g2⟩ := l27Ok_eq u d hs hu r c
 have hb : b = true := g2.2 hok
 subst hb
 obtain ⟨hcr, hp⟩ := spec_CountRepairs_eq hd hs hu
 have hbn : ∀ b ∈ blocksOf d, b ≠ [] := blocksOf_ne
 have hpos := prodL_pos hbn
 unfold m_spec_DistinctRange
 refine .eq g1 (.cf rfl (.while (fun (s : Int × Int × Int) => ∃ n : Nat, s.2.2 = (n : Int) ∧ n ≤ prodL (blocksOf d) ∧ ((n = 0 ∧ s.1 = -1 ∧ s.2.1 = 0) ∨ (0 < n ∧ 0 ≤ s.1 ∧ ((∃ k, dn ((nth (blocksOf d) k).flatMap (pickV d r c)) = s.1) ∧ ∀ k, k < n → s.1 ≤ dn ((nth (blocksOf d) k).flatMap (pickV d r c))) ∧ ((∃ k, dn ((nth (blocksOf d) k).flatMap (pickV d r c)) = s.2.1) ∧ ∀ k, k < n → dn ((nth (blocksOf d) k).flatMap (pickV d r c)) ≤ s.2.1)))) (fun (s : Int × Int × Int) => prodL (blocksOf d) - s.2.2.toNat) (fun (s : Int × Int × Int) => Ends (blocksOf d) (fun ch => dn (ch.flatMap (pickV d r c))) s.1 s.2.1) (fun _ => False) (by simp only; omega) ⟨0, rfl, by omega, .inl ⟨rfl, rfl, rfl⟩⟩ (fun ⟨lo, hi, k⟩ ⟨n, e1, e2, e3⟩ => ?_) (fun ⟨lo, hi, k⟩ h => .ret ⟨rfl, h⟩) (fun r hr => hr.elim)))
 simp only at e1 e3
 subst e1
 refine .eq hcr (.cond (fun h => ?_) fun h => .brk ?_)
 ·have hlt : n < prodL (blocksOf d) := by have := of_decide_eq_true h; omega
  have hch := nth_choice n hbn
  refine .eq (spec_NthRepair_eq hd hs hu hlt) (.mk (n := 10) (by omega) (by omega) ?_)
  have hsm := pick_small hok hs hch
  generalize hC : nth (blocksOf d) n = ch at *
  refine .forS (fun m (s : List Bool × Int) => s.1.length = 10 ∧ (∀ v : Nat, v < 10 → s.1[v]? = some (decide ((v : Int) ∈ (ch.take m).flatMap (pickV d r c)))) ∧ s.2 = dn ((ch.take m).flatMap (pickV d r c))) ⟨by simp, fun v hv => by show (List.replicate 10 false)[v]? = _; rw [List.getElem?_replicate, if_pos hv]; simp, dn_nil.symm⟩ (fun m z ⟨met, q⟩ hz ⟨i1, i2, i3⟩ => ?_) (fun ⟨met, q⟩ ⟨i1, i2, i3⟩ => ?_)
  ·simp only at i1 i2 i3 ⊢
   have hzm := List.mem_of_getElem? hz
   obtain ⟨b, hb, hzb⟩ := hch.mem z hzm
   obtain ⟨_, j, _, hj, rfl, _⟩ := blocksOf_mem hb hzb
   have htk : (ch.take (m + 1)).flatMap (pickV d r c) = (ch.take m).flatMap (pickV d r c) ++ pickV d r c (j : Int) := by
    rw [List.take_add_one, hz]; simp
   have hle : ((ch.take m).flatMap (pickV d r c)).length ≤ 14 := by
    have e : ch.flatMap (pickV d r c) = (ch.take m).flatMap (pickV d r c) ++ (ch.drop m).flatMap (pickV d r c) := by rw [← List.flatMap_append, List.take_append_drop]
    have h1 := hsm.2
    rw [e, List.length_append] at h1; omega
   refine .get rfl hj ?_
   by_cases hr : d.facts[j].relation = r
   ·obtain ⟨v1, v2, v3, v4⟩ := valF_at hok hj hr (hs.2.2.2 _ (List.getElem_mem hj))
    rw [htk, v2]
    generalize valF d c (j : Int) = v at *
    obtain ⟨w, rfl⟩ : ∃ w : Nat, v = w := ⟨v.toNat, by omega⟩
    have hw : w < 10 := by omega
    have hm := i2 w hw
    generalize (ch.take m).flatMap (pickV d r c) = P at *
    have hdl := dn_le P
    refine .bind (P := fun t => t = !decide ((w : Int) ∈ P)) (.ct (decide_eq_true hr) (.eq v1 (.eq (a := decide ((w : Int) ∈ P)) (by rw [getI_nat]; exact hm) (.ret rfl)))) fun t ht => ?_
    subst ht
    refine .cond (fun h => .eq v1 (.eq (a := decide ((w : Int) ∈ P)) (by rw [getI_nat]; exact hm) (.ret ⟨by simpa using i1, fun v hv => ?_, ?_⟩))) fun h => .ret ⟨i1, fun v hv => ?_, ?_⟩
    ·have hnot : (w : Int) ∉ P := by simpa using h
     simp only [Int.toNat_natCast]
     by_cases e : w = v
     ·subst e; rw [List.getElem?_set_self (by omega)]; simp
     ·rw [List.getElem?_set_ne e, i2 v hv]
      congr 1
      have : ¬ (v : Int) = w := by omega
      simp [this]
    ·have hnot : (w : Int) ∉ P := by simpa using h
     simp only [i3]
     rw [w64_id (by omega)]
     simp only [dn, uni_new hnot]; omega
    ·have hin : (w : Int) ∈ P := by simpa using h
     rw [i2 v hv]
     congr 1
     by_cases e : (v : Int) = w
     ·simp [e, hin]
     ·simp [e]
    ·have hin : (w : Int) ∈ P := by simpa using h
     simp only [i3, dn, uni_old hin]
   ·have hpk : pickV d r c (j : Int) = [] := by simp only [pickV, Int.toNat_natCast, List.getElem?_eq_getElem hj, if_neg hr]
    rw [htk, hpk, List.append_nil]
    exact .eq (a := false) (by rw [decide_eq_false hr]; rfl) (.cf rfl (.ret ⟨i1, i2, i3⟩))
  ·simp only at i1 i2 i3 ⊢
   rw [List.take_length] at i3
   have hq := dn_le (ch.flatMap (pickV d r c))
   rw [← i3] at hq
   have hD : dn ((nth (blocksOf d) n).flatMap (pickV d r c)) = q := by rw [hC]; exact i3.symm
   have hdec : ∀ m : Nat, m < n + 1 → m < n ∨ m = n := fun m h => by omega
   have h14 := hsm.2
   have fin : ∀ lo', lo' = (if lo < 0 ∨ q < lo then q else lo) → Ok (some (Ctl.next (lo', (if hi < q then q else hi), w64 ((n : Int) + 1)) : Ctl (Int × Int × Int) (Int × Int × Bool))) (CtlP (fun s' => (∃ n : Nat, s'.2.2 = (n : Int) ∧ n ≤ prodL (blocksOf d) ∧ ((n = 0 ∧ s'.1 = -1 ∧ s'.2.1 = 0) ∨ (0 < n ∧ 0 ≤ s'.1 ∧ ((∃ k, dn ((nth (blocksOf d) k).flatMap (pickV d r c)) = s'.1) ∧ ∀ k, k < n → s'.1 ≤ dn ((nth (blocksOf d) k).flatMap (pickV d r c))) ∧ ((∃ k, dn ((nth (blocksOf d) k).flatMap (pickV d r c)) = s'.2.1) ∧ ∀ k, k < n → dn ((nth (blocksOf d) k).flatMap (pickV d r c)) ≤ s'.2.1)))) ∧ prodL (blocksOf d) - s'.2.2.toNat < prodL (blocksOf d) - ((n : Int)).toNat) (fun s => Ends (blocksOf d) (fun ch => dn (ch.flatMap (pickV d r c))) s.1 s.2.1) (fun _ => False)) := fun lo' hlo => by
    refine .next ⟨⟨n + 1, by simp only; rw [w64_id (by omega)]; simp, hlt, .inr ⟨by omega, ?_, ⟨?_, fun k hk => ?_⟩, ?_, fun k hk => ?_⟩⟩, by simp only; rw [w64_id (by omega)]; omega⟩
    ·subst hlo; simp only; split <;> omega
    ·simp only
     rcases e3 with ⟨rfl, e4, e5⟩ | ⟨h0, h1, ⟨⟨k, hk⟩, h2⟩, _⟩
     ·exact ⟨0, by rw [hD, hlo, if_pos (by omega)]⟩
     ·subst hlo
      split
      ·exact ⟨n, hD⟩
      ·exact ⟨k, hk⟩
    ·simp only
     rcases e3 with ⟨rfl, e4, e5⟩ | ⟨h0, h1, ⟨_, h2⟩, _⟩
     ·have : k = 0 := by omega
      subst this
      rw [hD, hlo, if_pos (by omega)]; exact Int.le_refl _
     ·rcases hdec k hk with g | rfl
      ·have := h2 k g; subst hlo; split <;> omega
      ·rw [hD]; subst hlo; split <;> omega
    ·simp only
     rcases e3 with ⟨rfl, e4, e5⟩ | ⟨h0, h1, _, ⟨k, hk⟩, h2⟩
     ·refine ⟨0, ?_⟩
      rw [hD]; split <;> omega
     ·split
      ·exact ⟨n, hD⟩
      ·exact ⟨k, hk⟩
    ·simp only
     rcases e3 with ⟨rfl, e4, e5⟩ | ⟨h0, h1, _, _, h2⟩
     ·have : k = 0 := by omega
      subst this
      rw [hD]; split <;> omega
     ·rcases hdec k hk with g | rfl
      ·have := h2 k g; split <;> omega
      ·rw [hD]; split <;> omega
   refine .cond (fun h => fin _ ?_) fun h => fin _ ?_
   ·rw [if_pos (by simpa using h)]
   ·rw [if_neg (by simpa using h)]
 ·have : n = prodL (blocksOf d) := by have := of_decide_eq_false h; omega
  subst this
  rcases e3 with ⟨h0, _⟩ | ⟨h0, h1, ⟨⟨k1, a1⟩, a2⟩, ⟨k2, b1⟩, b2⟩
  ·omega
  ·exact ⟨⟨_, nth_choice k1 hbn, a1⟩, fun ch hch => by obtain ⟨k, hk, rfl⟩ := nth_all hch; exact a2 k hk, ⟨_, nth_choice k2 hbn, b1⟩, fun ch hch => by obtain ⟨k, hk, rfl⟩ := nth_all hch; exact b2 k hk⟩
theorem key_DistinctRange (d : Database) (r c : Int) (hs : DbS d) : ∃ w, m_spec_DistinctRange 1048578 d r c = some w ∧ m_impl_DistinctRange 1048578 d r c = some w ∧ (w.2.2 = true → ColOK d r c ∧ Ends (blocksOf d) (fun ch => dn (ch.flatMap (pickV d r c))) w.1 w.2.1) ∧ (ColOK d r c → w.2.2 = true) := by
 obtain ⟨b, g1, g2⟩ := l27Ok_eq 1048578 d hs (by omega) r c
 cases b with
 | false =>
  have hno : ¬ ColOK d r c := fun h => by have := g2.2 h; cases this
  refine ⟨(0, 0, false), ?_, ?_, (fun h => by cases h), fun h => (hno h).elim⟩
  ·unfold m_spec_DistinctRange
   exact Ok.to (.eq g1 (.ct rfl (.ret rfl)))
  ·unfold m_impl_DistinctRange
   rw [columnRange_no hno]; rfl
 | true =>
  have hok := g2.1 rfl
  obtain ⟨lo, hi, h1, h2⟩ := impl_DistinctRange_ok (u := 1048578) hok hs (by omega)
  obtain ⟨w, h3, h4, h5⟩ := spec_DistinctRange_ok (u := 1048578) hok hs (by omega)
  obtain ⟨e1, e2⟩ := h2.uniq h5
  obtain ⟨w1, w2, w3⟩ := w
  simp only at h4 e1 e2
  subst e1 e2 h4
  exact ⟨_, h3, h1, fun _ => ⟨hok, h2⟩, fun _ => rfl⟩
theorem law_DistinctRange (d : Database) (r c : Int) (hd : DbM d) : m_laws_FnExactDistinctRange 1048578 d r c = some true := by
 unfold m_laws_FnExactDistinctRange
 obtain ⟨z, h1, h2⟩ := szDatabase_b d hd 1048576 (by omega) (by omega)
 refine Ok.to (.eq h1 (.cond (fun _ => .ret rfl) fun hz => ?_))
 have hz' := of_decide_eq_false hz
 have h2 := h2.resolve_left (by omega)
 obtain ⟨_, _, hs⟩ := h2
 have e1 := toDatabase_id d hs
 obtain ⟨w, k1, k2, _⟩ := key_DistinctRange d r c hs
 exact .eq e1 (.eq k1 (.eq e1 (.eq k2 (.cf (by simp) (.eq e1 (.eq (eqDatabase_self d) (.cf rfl (.ret rfl))))))))
end Go.Proofs.Ytlcpdlngbofgcaa

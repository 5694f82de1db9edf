import Derived.Test.YtjdpolnakhmkmaaCRC
import Derived.Test.YtjdpolnakhmkmaaM0
import Derived.Test.YtjdpolnakhmkmaaCRD
set_option linter.unusedVariables false
set_option linter.unusedSimpArgs false
namespace Go.Proofs.Ytjdpolnakhmkmaa
open Go Go.Proofs Go.Sep
theorem cond_nt {α : Type} {x y : α} : cond (!true) x y = y := rfl
theorem szIntS_b (a : List Int) (hl : a.length ≤ 9223372036854775807) (left : Int) (h0 : 0 ≤ left) (h1 : left ≤ 1048576) : ∃ r, m_laws_szIntS a left = some r ∧ (r = -1 ∨ (0 ≤ r ∧ r ≤ left ∧ a.length ≤ 1048576)) := by
 unfold m_laws_szIntS
 rw [w64_id (by omega)]
 by_cases h : left < a.length
 ·rw [cond_T' (by simp; omega)]; exact ⟨_, rfl, .inl rfl⟩
 ·rw [cond_F' (by simp; omega)]; exact ⟨_, rfl, .inr ⟨by omega, by omega, by omega⟩⟩
theorem szRelation_b (a : Relation) (hl : a.name.size ≤ 9223372036854775807) (left : Int) (h0 : 0 ≤ left) (h1 : left ≤ 1048576) : ∃ r, m_laws_szRelation a left = some r ∧ (r = -1 ∨ (0 ≤ r ∧ r ≤ left ∧ a.name.size ≤ 1048576)) := by
 unfold m_laws_szRelation
 rw [w64_id (by omega)]
 by_cases h : left < a.name.size
 ·rw [cond_T' (by simp; omega)]; exact ⟨_, rfl, .inl rfl⟩
 ·rw [cond_F' (by simp; omega)]; exact ⟨_, rfl, .inr ⟨by omega, by omega, by omega⟩⟩
theorem szFact_b (a : Fact) (hl : a.values.length ≤ 9223372036854775807) (left : Int) (h0 : 0 ≤ left) (h1 : left ≤ 1048576) : ∃ r, m_laws_szFact a left = some r ∧ (r = -1 ∨ (0 ≤ r ∧ r ≤ left ∧ a.values.length ≤ 1048576)) := by
 unfold m_laws_szFact
 obtain ⟨r, h2, h3⟩ := szIntS_b a.values hl left h0 h1
 rw [h2, Option.bind_some]
 rcases h3 with rfl | h3
 ·exact ⟨_, rfl, .inl rfl⟩
 ·rw [cond_F' (by simp; omega)]; exact ⟨_, rfl, .inr h3⟩
def DbM (d : Database) : Prop := d.relations.length ≤ 9223372036854775807 ∧ d.facts.length ≤ 9223372036854775807 ∧ (∀ r ∈ d.relations, r.name.size ≤ 9223372036854775807) ∧ ∀ f ∈ d.facts, f.values.length ≤ 9223372036854775807
def DbS (d : Database) : Prop := d.relations.length ≤ 1048576 ∧ d.facts.length ≤ 1048576 ∧ (∀ r ∈ d.relations, r.name.size ≤ 1048576) ∧ ∀ f ∈ d.facts, f.values.length ≤ 1048576
theorem szDatabase_b (d : Database) (hd : DbM d) (left : Int) (h0 : 0 ≤ left) (h1 : left ≤ 1048576) : ∃ r, m_laws_szDatabase d left = some r ∧ (r = -1 ∨ (0 ≤ r ∧ r ≤ left ∧ DbS d)) := by
 obtain ⟨r1, h2, h3⟩ := sz_loop (fun r : Relation => r.name.size ≤ 1048576) (a := d.relations) (fun x hx l => szRelation_b x (hd.2.2.1 x hx) l) h0 h1 hd.1
 have h2' : m_laws_szRelationS d.relations left = some r1 := h2
 unfold m_laws_szDatabase
 rw [h2', Option.bind_some]
 rcases h3 with rfl | ⟨h3, h4, h5⟩
 ·exact ⟨_, rfl, .inl rfl⟩
 ·rw [cond_F' (by simp; omega)]
  obtain ⟨r2, h6, h7⟩ := sz_loop (fun f : Fact => f.values.length ≤ 1048576) (a := d.facts) (fun x hx l => szFact_b x (hd.2.2.2 x hx) l) h3 (by omega) hd.2.1
  have h6' : m_laws_szFactS d.facts r1 = some r2 := h6
  rw [h6', Option.bind_some]
  rcases h7 with rfl | ⟨h7, h8, h9⟩
  ·exact ⟨_, rfl, .inl rfl⟩
  ·rw [cond_F' (by simp; omega)]; exact ⟨_, rfl, .inr ⟨h7, by omega, by omega, by omega, h5, h9⟩⟩
theorem toIntS_id (a : List Int) (hl : a.length ≤ 1048576) : m_laws_toIntS a = some a := by
 unfold m_laws_toIntS
 rw [mk_ok (by omega) (by omega), Option.bind_some, forS_fill (fun x => x) (by simp) fun n x zs hx hz => ?_]
 ·simp
 ·have hn : n < zs.length := by have := (List.getElem?_eq_some_iff.1 hx).1; omega
  rw [getI_lt hn]; simp
theorem toDatabase_id (d : Database) (hd : DbS d) : m_laws_toDatabase d = some d := by
 have h1 : m_laws_toRelationS d.relations = some d.relations := by
  have := to_loop (b := 32) (z := (default : Relation)) (g := m_laws_toRelation) (fun x => x) (a := d.relations) (fun x _ => rfl) hd.1 (by omega)
  rw [List.map_id'] at this; exact this
 have h2 : m_laws_toFactS d.facts = some d.facts := by
  have := to_loop (b := 32) (z := (default : Fact)) (g := m_laws_toFact) (fun x => x) (a := d.facts) (fun x hx => by unfold m_laws_toFact; rw [toIntS_id _ (hd.2.2.2 x hx)]; rfl) hd.2.1 (by omega)
  rw [List.map_id'] at this; exact this
 unfold m_laws_toDatabase
 rw [h1, Option.bind_some, h2, Option.bind_some]
theorem eqIntS_self (a : List Int) : m_laws_eqIntS a a = some true := by
 unfold m_laws_eqIntS
 rw [cond_F' (by simp)]
 obtain ⟨o, h1, h2⟩ := forL_ok (xs := a) (s := ()) (f := fun (i_2 : Int) (x_i_2 : Int) (_ : Unit) => (getI a (i_2 : Int)).bind fun v_4 => cond (decide (x_i_2 ≠ v_4)) (some (.ret false)) (some (.next ())))
  (fun _ _ => True) (fun _ => False) (fun (_ : Bool) => False) trivial fun n x s hx _ => by
   rw [getI_nat, hx, Option.bind_some, cond_F' (by simp)]
   exact ⟨_, rfl, trivial⟩
 rw [h1, Option.bind_some]
 cases o with
 | inl s => rfl
 | inr r => exact h2.elim
theorem eqRelation_self (a : Relation) : m_laws_eqRelation a a = some true := by simp [m_laws_eqRelation]
theorem eqFact_self (a : Fact) : m_laws_eqFact a a = some true := by
 unfold m_laws_eqFact
 rw [cond_F' (by simp), eqIntS_self]; rfl
theorem eqDatabase_self (d : Database) : m_laws_eqDatabase d d = some true := by
 have h1 : m_laws_eqRelationS d.relations d.relations = some true := eq_loop (fun x _ => eqRelation_self x)
 have h2 : m_laws_eqFactS d.facts d.facts = some true := eq_loop (fun x _ => eqFact_self x)
 unfold m_laws_eqDatabase
 rw [h1, Option.bind_some, h2]; rfl
theorem cmpL_drop {a b : List Int} {i : Nat} (h1 : i < a.length) (h2 : i < b.length) : cmpL (a.drop i) (b.drop i) = if a[i] < b[i] then -1 else if b[i] < a[i] then 1 else cmpL (a.drop (i + 1)) (b.drop (i + 1)) := by
 rw [List.drop_eq_getElem_cons h1, List.drop_eq_getElem_cons h2]; rfl
theorem cmpL_nil_r (a : List Int) : cmpL a [] = if a.length = 0 then 0 else 1 := by cases a <;> simp [cmpL]
theorem cmpL_nil_l (b : List Int) : cmpL [] b = if b.length = 0 then 0 else -1 := by cases b <;> simp [cmpL]
theorem cmp_Compare_eq (x y : Int) : m_cmp_Compare_int x y = some (if x < y then -1 else if y < x then 1 else 0) := by
 unfold m_cmp_Compare_int m_cmp_isNaN_int
 simp only [Option.bind_some, ne_eq, not_true_eq_false, decide_false, cond_false]
 by_cases h1 : x < y
 ·simp [h1]
 ·by_cases h2 : y < x <;> simp [h1, h2]
theorem slices_Compare_from (a b : List Int) : ∀ (k i : Nat), i + k = a.length → (forL (R := Int) (fun (t_1 : Int) (x_t_1 : Int) (_ : Unit) => cond (decide ((b.length : Int) ≤ (t_1 : Int))) (some (.ret 1)) ((getI b (t_1 : Int)).bind fun v_4 => (m_cmp_Compare_int x_t_1 v_4).bind fun r_9 => cond (decide (r_9 ≠ 0)) (some (.ret r_9)) (some (.next ())))) (a.drop i) (i : Int) ()).bind (fun O2_ => onS O2_ (fun (_ : Unit) => cond (decide ((a.length : Int) < (b.length : Int))) (some (-1)) (some 0)) (fun r => some r)) = some (cmpL (a.drop i) (b.drop i))
 | 0, i, hk => by
  rw [List.drop_eq_nil_of_le (show a.length ≤ i by omega), cmpL_nil_l]
  simp only [forL, Option.bind_some, onS, List.length_drop]
  by_cases h : a.length < b.length
  ·rw [cond_T' (by simpa using h), if_neg (by omega)]
  ·rw [cond_F' (by simpa using h), if_pos (by omega)]
 | k + 1, i, hk => by
  have hi : i < a.length := by omega
  rw [List.drop_eq_getElem_cons hi]
  simp only [forL]
  by_cases hb : b.length ≤ i
  ·rw [cond_T' (by simpa using hb), List.drop_eq_nil_of_le hb]; rfl
  ·rw [cond_F' (by simpa using hb), getI_lt (show i < b.length by omega), Option.bind_some, cmp_Compare_eq, Option.bind_some]
   rw [← List.drop_eq_getElem_cons hi, cmpL_drop hi (by omega)]
   by_cases h1 : a[i] < b[i]
   ·simp [h1, onS]
   ·by_cases h2 : b[i] < a[i]
    ·simp [h1, h2, onS]
    ·simp only [h1, h2, if_false, ne_eq, not_true_eq_false, decide_false, cond_false, Option.bind_some]
     exact slices_Compare_from a b k (i + 1) (by omega)
theorem slices_Compare_eq (a b : List Int) : m_slices_Compare_Sint_int a b = some (cmpL a b) := slices_Compare_from a b a.length 0 (by omega)
theorem l3Ints_cmp (a b : List Int) (u : Nat) (hu : a.length < u) (ha : a.length ≤ 1048576) (hb : b.length ≤ 9223372036854775807) : m_spec_l3Ints u a b = some (cmpL a b) := by
 unfold m_spec_l3Ints
 obtain ⟨o, h1, h2⟩ := while_ok (f := fun (i5 : Int) => cond ((decide (i5 < (a.length : Int))) && (decide (i5 < (b.length : Int)))) ((getI a i5).bind fun v_6 => (getI b i5).bind fun v_11 => cond (decide (v_6 < v_11)) (some (.ret (-1))) (cond (decide (v_11 < v_6)) (some (.ret 1)) (some (.next (w64 (i5 + 1)))))) (some (.brk i5)))
  (fun i => ∃ n : Nat, i = n ∧ n ≤ a.length ∧ n ≤ b.length ∧ cmpL a b = cmpL (a.drop n) (b.drop n)) (fun i => a.length - i.toNat) (fun i => ∃ n : Nat, i = n ∧ n ≤ a.length ∧ n ≤ b.length ∧ cmpL a b = cmpL (a.drop n) (b.drop n) ∧ (n = a.length ∨ n = b.length)) (fun (r : Int) => r = cmpL a b)
  (fun i ⟨n, hi, hn1, hn2, hI⟩ => by
   subst hi
   by_cases h : n < a.length ∧ n < b.length
   ·rw [cond_T' (by simp; omega), getI_lt h.1, Option.bind_some, getI_lt h.2, Option.bind_some]
    rw [cmpL_drop h.1 h.2] at hI
    by_cases c1 : a[n] < b[n]
    ·rw [cond_T' (by simpa using c1)]; exact ⟨_, rfl, by rw [if_pos c1] at hI; exact hI.symm⟩
    ·rw [cond_F' (by simpa using c1)]
     rw [if_neg c1] at hI
     by_cases c2 : b[n] < a[n]
     ·rw [cond_T' (by simpa using c2)]; exact ⟨_, rfl, by rw [if_pos c2] at hI; exact hI.symm⟩
     ·rw [cond_F' (by simpa using c2), w64_id (by omega)]
      rw [if_neg c2] at hI
      exact ⟨_, rfl, ⟨n + 1, by omega, h.1, h.2, hI⟩, by have := h.1; omega⟩
   ·rw [cond_F' (by simp; omega)]
    exact ⟨_, rfl, n, rfl, hn1, hn2, hI, by omega⟩)
  u 0 (by simpa using hu) ⟨0, rfl, by omega, by omega, rfl⟩
 rw [h1, Option.bind_some]
 cases o with
 | inr r => simp only [onS]; rw [h2]
 | inl i =>
  obtain ⟨n, rfl, hn1, hn2, hI, hn⟩ := h2
  simp only [onS]
  rw [hI]
  by_cases c1 : a.length < b.length
  ·have e : n = a.length := by omega
   rw [cond_T' (by simpa using c1), e, List.drop_eq_nil_of_le (Nat.le_refl _), cmpL_nil_l, if_neg (by simp; omega)]
  ·rw [cond_F' (by simpa using c1)]
   by_cases c2 : b.length < a.length
   ·have e : n = b.length := by omega
    rw [cond_T' (by simpa using c2), e, List.drop_eq_nil_of_le (Nat.le_refl b.length), cmpL_nil_r, if_neg (by simp; omega)]
   ·have e : n = a.length := by omega
    rw [cond_F' (by simpa using c2), e, List.drop_eq_nil_of_le (Nat.le_refl _), cmpL_nil_l, if_pos (by simp; omega)]
theorem validRelation_tot (r : Relation) : ∃ b, m_impl_IsValidRelation r = some b := by
 unfold m_impl_IsValidRelation m_impl_within
 by_cases h : r.name.size = 1
 ·have hb : ∃ z, getB r.name 0 = some z := by
   have h0 : 0 < r.name.size := by omega
   exact ⟨((r.name[0]'h0).toNat : Int), by unfold getB; rw [if_pos (by omega)]; simp [h0]⟩
  obtain ⟨z, hz⟩ := hb
  rw [cond_T' (by simp [h])]
  simp only [hz, Option.bind_some]
  cases decide (97 ≤ z) <;> cases decide (z ≤ 122) <;> simp only [cond_true, cond_false, Option.bind_some] <;> first | exact ⟨_, rfl⟩ | skip
  cases (decide (1 ≤ r.arity) && decide (r.arity ≤ 3)) <;> exact ⟨_, rfl⟩
 ·rw [cond_F' (by simp; omega)]; exact ⟨_, rfl⟩
theorem validRelations_tot (l : List Relation) : ∃ b, m_impl_AreValidRelations l = some b := by
 unfold m_impl_AreValidRelations
 obtain ⟨o, h1, h2⟩ := forL_ok (xs := l) (s := ()) (f := fun (t_1 : Int) (x_t_1 : Relation) (_ : Unit) => ((m_impl_IsValidRelation x_t_1).bind fun r_5 => cond (!r_5) (some true) (cond (decide (0 < (t_1 : Int))) ((getI l ((t_1 : Int) - 1)).bind fun v_9 => some (!ltS v_9.name x_t_1.name)) (some false))).bind fun (t29 : Bool) => cond t29 (some (.ret false)) (some (.next ())))
  (fun _ _ => True) (fun _ => False) (fun (_ : Bool) => True) trivial fun n x s hx _ => by
   obtain ⟨b, hb⟩ := validRelation_tot x
   have hn : n < l.length := (List.getElem?_eq_some_iff.1 hx).1
   rw [hb, Option.bind_some]
   have key : ∃ t, cond (!b) (some true) (cond (decide (0 < (n : Int))) ((getI l ((n : Int) - 1)).bind fun v_9 => some (!ltS v_9.name x.name)) (some false)) = some t := by
    cases b with
    | false => exact ⟨_, rfl⟩
    | true =>
     by_cases h0 : 0 < n
     ·have e : (n : Int) - 1 = ((n - 1 : Nat) : Int) := by omega
      rw [cond_nt, cond_T' (by simpa using h0), e, getI_lt (show n - 1 < l.length by omega)]; exact ⟨_, rfl⟩
     ·rw [cond_nt, cond_F' (by simpa using h0)]; exact ⟨_, rfl⟩
   obtain ⟨t, ht⟩ := key
   rw [ht, Option.bind_some]
   cases t <;> exact ⟨_, rfl, trivial⟩
 rw [h1, Option.bind_some]
 cases o <;> exact ⟨_, rfl⟩
theorem spec_validRelations (l : List Relation) : m_spec_AreValidRelations l = m_impl_AreValidRelations l := rfl
def FactOK (l : List Relation) (f : Fact) : Prop := ∃ (n : Nat) (r : Relation), f.relation = n ∧ l[n]? = some r ∧ (f.values.length : Int) = r.arity ∧ ∀ v ∈ f.values, 0 ≤ v ∧ v ≤ 9
theorem areValues_eq (l : List Int) : ∃ b, m_impl_areValues l = some b ∧ (b = true ↔ ∀ v ∈ l, 0 ≤ v ∧ v ≤ 9) := by
 unfold m_impl_areValues m_slices_ContainsFunc_Sint_int m_slices_IndexFunc_Sint_int
 obtain ⟨o, h1, h2⟩ := forL_ok (xs := l) (s := ()) (f := fun (t_1 : Int) (x_t_1 : Int) (_ : Unit) => (m_impl_areValues_1 x_t_1).bind fun r_3 => cond r_3 (some (.ret (t_1 : Int))) (some (.next ())))
  (fun n _ => ∀ (j : Nat) x, j < n → l[j]? = some x → 0 ≤ x ∧ x ≤ 9) (fun _ => False) (fun r => 0 ≤ r ∧ ∃ x ∈ l, ¬ (0 ≤ x ∧ x ≤ 9)) (fun j x hj => by omega) fun n x s hx hI => by
   simp only [m_impl_areValues_1, m_impl_within, Option.bind_some]
   by_cases hp : 0 ≤ x ∧ x ≤ 9
   ·rw [cond_F' (by simp [hp])]
    refine ⟨_, rfl, fun j y hj hy => ?_⟩
    by_cases e : j = n
    ·subst e; rw [hx] at hy; cases hy; exact hp
    ·exact hI j y (by omega) hy
   ·rw [cond_T' (by simp; omega)]
    exact ⟨_, rfl, by omega, x, List.mem_of_getElem? hx, hp⟩
 rw [h1]
 cases o with
 | inl s =>
  refine ⟨_, rfl, ?_⟩
  have := h2.resolve_right id
  refine ⟨fun _ v hv => ?_, fun _ => by simp⟩
  obtain ⟨j, hj⟩ := List.getElem?_of_mem hv
  exact this j v (List.getElem?_eq_some_iff.1 hj).1 hj
 | inr r =>
  refine ⟨_, rfl, ?_⟩
  obtain ⟨h3, x, hx, hp⟩ := h2
  refine ⟨fun h => by simp at h; omega, fun h => (hp (h x hx)).elim⟩
theorem isFact_eq (l : List Relation) (f : Fact) : ∃ b, m_impl_isFact l f = some b ∧ (b = true ↔ FactOK l f) := by
 unfold m_impl_isFact m_impl_within
 simp only [Option.bind_some]
 by_cases h : 0 ≤ f.relation ∧ f.relation ≤ (l.length : Int) - 1
 ·rw [cond_T' (by simp [h])]
  obtain ⟨n, hn⟩ : ∃ n : Nat, f.relation = n := ⟨f.relation.toNat, by omega⟩
  have hnl : n < l.length := by omega
  rw [hn, getI_lt hnl, Option.bind_some]
  by_cases ha : (f.values.length : Int) = l[n].arity
  ·rw [cond_T' (by simpa using ha)]
   obtain ⟨b, h1, h2⟩ := areValues_eq f.values
   rw [h1]
   refine ⟨b, rfl, h2.trans ⟨fun hv => ⟨n, l[n], hn, List.getElem?_eq_getElem hnl, ha, hv⟩, fun ⟨_, _, _, _, _, hv⟩ => hv⟩⟩
  ·rw [cond_F' (by simpa using ha)]
   refine ⟨false, rfl, by simp, fun ⟨n', r, h3, h4, h5, _⟩ => ?_⟩
   have : n' = n := by omega
   subst this
   rw [List.getElem?_eq_getElem hnl] at h4; cases h4
   exact (ha h5).elim
 ·rw [cond_F' (by simp; omega)]
  refine ⟨false, rfl, by simp, fun ⟨n', r, h3, h4, _⟩ => ?_⟩
  have := (List.getElem?_eq_some_iff.1 h4).1
  omega
theorem spec_isFact_eq (u : Nat) (l : List Relation) (f : Fact) (hu : f.values.length < u) (hf : f.values.length ≤ 1048576) : ∃ b, m_spec_IsValidFact u l f = some b ∧ (b = true ↔ m_impl_AreValidRelations l = some true ∧ FactOK l f) := by
 unfold m_spec_IsValidFact m_spec_l1In
 rw [spec_validRelations]
 obtain ⟨bl, hbl⟩ := validRelations_tot l
 rw [hbl, Option.bind_some]
 cases bl with
 | false => exact ⟨false, rfl, by simp⟩
 | true =>
  rw [cond_nt]
  simp only [Option.bind_some]
  by_cases h : 0 ≤ f.relation ∧ f.relation ≤ (l.length : Int) - 1
  ·rw [cond_F' (by simp [h])]
   obtain ⟨n, hn⟩ : ∃ n : Nat, f.relation = n := ⟨f.relation.toNat, by omega⟩
   have hnl : n < l.length := by omega
   rw [hn, getI_lt hnl, Option.bind_some, Option.bind_some]
   by_cases ha : (f.values.length : Int) = l[n].arity
   ·rw [cond_F' (by simpa using ha)]
    obtain ⟨o, h1, h2⟩ := while_ok (f := fun (i5 : Int) => cond (decide (i5 < (f.values.length : Int))) ((getI f.values i5).bind fun v_18 => (some ((decide (0 ≤ v_18)) && (decide (v_18 ≤ 9)))).bind fun r_23 => cond (!r_23) (some (.ret false)) (some (.next (w64 (i5 + 1))))) (some (.brk i5)))
     (fun i => ∃ n : Nat, i = n ∧ n ≤ f.values.length ∧ ∀ (j : Nat) x, j < n → f.values[j]? = some x → 0 ≤ x ∧ x ≤ 9) (fun i => f.values.length - i.toNat) (fun i => ∀ v ∈ f.values, 0 ≤ v ∧ v ≤ 9) (fun (r : Bool) => r = false ∧ ¬ ∀ v ∈ f.values, 0 ≤ v ∧ v ≤ 9)
     (fun i ⟨n, hi, hn1, hI⟩ => by
      subst hi
      by_cases h : n < f.values.length
      ·rw [cond_T' (by simpa using h), getI_lt h, Option.bind_some, Option.bind_some]
       by_cases hp : 0 ≤ f.values[n] ∧ f.values[n] ≤ 9
       ·rw [cond_F' (by simp [hp]), w64_id (by omega)]
        refine ⟨_, rfl, ⟨n + 1, by omega, h, fun j x hj hx => ?_⟩, by omega⟩
        by_cases e : j = n
        ·subst e; rw [List.getElem?_eq_getElem h] at hx; cases hx; exact hp
        ·exact hI j x (by omega) hx
       ·rw [cond_T' (by simp; omega)]
        exact ⟨_, rfl, rfl, fun hv => hp (hv _ (List.getElem_mem h))⟩
      ·rw [cond_F' (by simpa using h)]
       refine ⟨_, rfl, fun v hv => ?_⟩
       obtain ⟨j, hj⟩ := List.getElem?_of_mem hv
       have := (List.getElem?_eq_some_iff.1 hj).1
       exact hI j v (by omega) hj)
     u 0 (by simpa using hu) ⟨0, rfl, by omega, fun j x hj => by omega⟩
    simp only [Option.bind_some] at h1
    rw [h1, Option.bind_some]
    cases o with
    | inl i => exact ⟨true, rfl, by simp; exact ⟨n, l[n], hn, List.getElem?_eq_getElem hnl, ha, h2⟩⟩
    | inr r =>
     obtain ⟨rfl, h3⟩ := h2
     exact ⟨false, rfl, by simp; rintro ⟨_, _, _, _, _, hv⟩; exact h3 hv⟩
   ·rw [cond_T' (by simpa using ha)]
    refine ⟨false, rfl, by simp, fun ⟨_, n', r, h3, h4, h5, _⟩ => ?_⟩
    have : n' = n := by omega
    subst this
    rw [List.getElem?_eq_getElem hnl] at h4; cases h4
    exact (ha h5).elim
  ·rw [cond_T' (by simp; omega)]
   refine ⟨false, rfl, by simp, fun ⟨_, n', r, h3, h4, _⟩ => ?_⟩
   have := (List.getElem?_eq_some_iff.1 h4).1
   omega
def cmpF (a b : Fact) : Int := if a.relation < b.relation then -1 else if b.relation < a.relation then 1 else cmpL a.values b.values
theorem impl_CompareFacts_eq (a b : Fact) : m_impl_CompareFacts a b = some (cmpF a b) := by
 unfold m_impl_CompareFacts m_impl_compare cmpF
 rw [slices_Compare_eq]
 by_cases h1 : a.relation < b.relation
 ·rw [cond_T' (by simp; omega), cond_T' (by simpa using h1), if_pos h1]; rfl
 ·by_cases h2 : b.relation < a.relation
  ·rw [cond_T' (by simp; omega), cond_F' (by simpa using h1), cond_T' (by simpa using h2), if_neg h1, if_pos h2]; rfl
  ·rw [cond_F' (by simp; omega), if_neg h1, if_neg h2]; rfl
theorem spec_CompareFacts_eq (u : Nat) (a b : Fact) (hu : a.values.length < u) (ha : a.values.length ≤ 1048576) (hb : b.values.length ≤ 1048576) : m_spec_CompareFacts u a b = some (cmpF a b) := by
 unfold m_spec_CompareFacts cmpF
 rw [l3Ints_cmp _ _ u hu ha (by omega)]
 by_cases h1 : a.relation < b.relation
 ·rw [cond_T' (by simpa using h1), if_pos h1]
 ·by_cases h2 : b.relation < a.relation
  ·rw [cond_F' (by simpa using h1), cond_T' (by simpa using h2), if_neg h1, if_pos h2]
  ·rw [cond_F' (by simpa using h1), cond_F' (by simpa using h2), if_neg h1, if_neg h2]; rfl
structure DbOK (d : Database) : Prop where
  rels : m_impl_AreValidRelations d.relations = some true
  few : d.facts.length ≤ 14
  fact : ∀ (n : Nat) f, d.facts[n]? = some f → FactOK d.relations f
  sorted : ∀ (n : Nat) f g, d.facts[n]? = some f → d.facts[n + 1]? = some g → cmpF f g < 0
theorem round_eq (d : Database) {n : Nat} (hn : n < d.facts.length) (b : Bool) (p : Prop) (hb : b = true ↔ p) : ∃ t, cond (!b) (some true) (cond (decide (0 < (n : Int))) ((getI d.facts ((n : Int) - 1)).bind fun v_15 => some (decide (0 ≤ cmpF v_15 d.facts[n]))) (some false)) = some t ∧ (t = false ↔ p ∧ ∀ m f, m + 1 = n → d.facts[m]? = some f → cmpF f d.facts[n] < 0) := by
 cases b with
 | false => exact ⟨true, rfl, by simp at hb; simp [hb]⟩
 | true =>
  have hp : p := hb.1 rfl
  by_cases h0 : 0 < n
  ·have e : (n : Int) - 1 = ((n - 1 : Nat) : Int) := by omega
   rw [cond_nt, cond_T' (by simpa using h0), e, getI_lt (show n - 1 < d.facts.length by omega)]
   refine ⟨_, rfl, ?_⟩
   simp only [decide_eq_false_iff_not, hp, true_and]
   constructor
   ·intro h m f hm hf
    have : m = n - 1 := by omega
    subst this
    rw [List.getElem?_eq_getElem (by omega)] at hf; cases hf; omega
   ·intro h
    have := h (n - 1) d.facts[n - 1] (by omega) (List.getElem?_eq_getElem (by omega)); omega
  ·rw [cond_nt, cond_F' (by simpa using h0)]
   exact ⟨_, rfl, by simp [hp]; intro m f hm; omega⟩
theorem impl_IsValidDatabase_eq (d : Database) : ∃ b, m_impl_IsValidDatabase d = some b ∧ (b = true ↔ DbOK d) := by
 unfold m_impl_IsValidDatabase
 obtain ⟨bl, hbl⟩ := validRelations_tot d.relations
 rw [hbl, Option.bind_some]
 cases bl with
 | false => exact ⟨false, rfl, by simp; intro h; have := h.rels; rw [hbl] at this; cases this⟩
 | true =>
  rw [cond_nt, Option.bind_some]
  by_cases hf : d.facts.length ≤ 14
  ·rw [cond_F' (by simp; omega)]
   obtain ⟨o, h1, h2⟩ := forL_ok (xs := d.facts) (s := ()) (f := fun (t_7 : Int) (x_t_7 : Fact) (_ : Unit) => ((m_impl_isFact d.relations x_t_7).bind fun r_11 => cond (!r_11) (some true) (cond (decide (0 < (t_7 : Int))) ((getI d.facts ((t_7 : Int) - 1)).bind fun v_15 => (m_impl_CompareFacts v_15 x_t_7).bind fun r_20 => some (decide (0 ≤ r_20))) (some false))).bind fun (t42 : Bool) => cond t42 (some (.ret false)) (some (.next ())))
    (fun n _ => ∀ (j : Nat) (h : j < d.facts.length), j < n → FactOK d.relations d.facts[j] ∧ ∀ m f, m + 1 = j → d.facts[m]? = some f → cmpF f d.facts[j] < 0) (fun _ => False) (fun r => r = false ∧ ¬ DbOK d) (fun j _ hj => by omega) fun n x s hx hI => by
     have hn : n < d.facts.length := (List.getElem?_eq_some_iff.1 hx).1
     rw [List.getElem?_eq_getElem hn] at hx; cases hx
     obtain ⟨b, h3, h4⟩ := isFact_eq d.relations d.facts[n]
     rw [h3, Option.bind_some]
     simp only [impl_CompareFacts_eq, Option.bind_some]
     obtain ⟨t, h5, h6⟩ := round_eq d hn b _ h4
     rw [h5, Option.bind_some]
     cases t with
     | false =>
      refine ⟨_, rfl, fun j hj hjn => ?_⟩
      by_cases e : j = n
      ·subst e; exact h6.1 rfl
      ·exact hI j hj (by omega)
     | true =>
      refine ⟨_, rfl, rfl, fun hok => ?_⟩
      have := h6.2 ⟨hok.fact n _ (List.getElem?_eq_getElem hn), fun m f hm hf => hok.sorted m f _ hf (by rw [hm]; exact List.getElem?_eq_getElem hn)⟩
      cases this
   rw [h1, Option.bind_some]
   cases o with
   | inl s =>
    have h3 := h2.resolve_right id
    refine ⟨true, rfl, fun _ => ⟨hbl, hf, fun n f hn => ?_, fun n f g hn hg => ?_⟩, fun _ => rfl⟩
    ·obtain ⟨hl, rfl⟩ := List.getElem?_eq_some_iff.1 hn; exact (h3 n hl hl).1
    ·obtain ⟨hl, rfl⟩ := List.getElem?_eq_some_iff.1 hg; exact (h3 (n + 1) hl hl).2 n f rfl hn
   | inr r => obtain ⟨rfl, h3⟩ := h2; exact ⟨false, rfl, by simp [h3]⟩
  ·rw [cond_T' (by simp; omega)]
   exact ⟨false, rfl, by simp; intro h; exact hf h.few⟩
theorem spec_IsValidDatabase_eq (u : Nat) (d : Database) (hd : DbS d) (hu : 1048577 < u) : ∃ b, m_spec_IsValidDatabase u d = some b ∧ (b = true ↔ DbOK d) := by
 unfold m_spec_IsValidDatabase
 have hfl := hd.2.1
 obtain ⟨o, h1, h2⟩ := while_ok (f := fun (i3 : Int) => cond (decide (i3 < (d.facts.length : Int))) (((getI d.facts i3).bind fun v_5 => (m_spec_IsValidFact u d.relations v_5).bind fun r_10 => cond (!r_10) (some true) (cond (decide (0 < i3)) ((getI d.facts (w64 (i3 - 1))).bind fun v_14 => (m_spec_CompareFacts u v_14 v_5).bind fun r_19 => some (decide (0 ≤ r_19))) (some false))).bind fun (t38 : Bool) => cond t38 (some (.ret false)) (some (.next (w64 (i3 + 1))))) (some (.brk i3)))
  (fun i => ∃ n : Nat, i = n ∧ n ≤ d.facts.length ∧ ∀ (j : Nat) (h : j < d.facts.length), j < n → FactOK d.relations d.facts[j] ∧ ∀ m f, m + 1 = j → d.facts[m]? = some f → cmpF f d.facts[j] < 0) (fun i => d.facts.length - i.toNat)
  (fun i => ∀ (j : Nat) (h : j < d.facts.length), FactOK d.relations d.facts[j] ∧ ∀ m f, m + 1 = j → d.facts[m]? = some f → cmpF f d.facts[j] < 0) (fun (r : Bool) => r = false ∧ ¬ DbOK d)
  (fun i ⟨n, hi, hn1, hI⟩ => by
   subst hi
   by_cases h : n < d.facts.length
   ·have hv := hd.2.2.2 _ (List.getElem_mem h)
    rw [cond_T' (by simpa using h), getI_lt h, Option.bind_some]
    obtain ⟨b, h3, h4⟩ := spec_isFact_eq u d.relations d.facts[n] (by omega) hv
    rw [h3, Option.bind_some, w64_id (x := (n : Int) - 1) (by omega)]
    have e : ((getI d.facts ((n : Int) - 1)).bind fun v_14 => (m_spec_CompareFacts u v_14 d.facts[n]).bind fun r_19 => some (decide (0 ≤ r_19))) = (getI d.facts ((n : Int) - 1)).bind fun v_15 => some (decide (0 ≤ cmpF v_15 d.facts[n])) := by
     cases hg : getI d.facts ((n : Int) - 1) with
     | none => rfl
     | some f =>
      obtain ⟨m, _, hm⟩ := getI_inv hg
      have hv2 := hd.2.2.2 f (List.mem_of_getElem? hm)
      rw [Option.bind_some, Option.bind_some, spec_CompareFacts_eq u f _ (by omega) hv2 hv]; rfl
    rw [e]
    obtain ⟨t, h5, h6⟩ := round_eq d h b _ h4
    rw [h5, Option.bind_some]
    cases t with
    | false =>
     rw [cond_F' rfl, w64_id (by omega)]
     refine ⟨_, rfl, ⟨n + 1, by omega, h, fun j hj hjn => ?_⟩, by omega⟩
     by_cases e : j = n
     ·subst e; have := h6.1 rfl; exact ⟨this.1.2, this.2⟩
     ·exact hI j hj (by omega)
    | true =>
     refine ⟨_, rfl, rfl, fun hok => ?_⟩
     have := h6.2 ⟨⟨hok.rels, hok.fact n _ (List.getElem?_eq_getElem h)⟩, fun m f hm hf => hok.sorted m f _ hf (by rw [hm]; exact List.getElem?_eq_getElem h)⟩
     cases this
   ·rw [cond_F' (by simpa using h)]
    exact ⟨_, rfl, fun j hj => hI j hj (by omega)⟩)
  u 0 (by simp; omega) ⟨0, rfl, by omega, fun j _ hj => by omega⟩
 rw [h1, Option.bind_some]
 cases o with
 | inr r => obtain ⟨rfl, h3⟩ := h2; exact ⟨false, rfl, by simp [h3]⟩
 | inl i =>
  simp only [onS, spec_validRelations]
  obtain ⟨bl, hbl⟩ := validRelations_tot d.relations
  rw [hbl, Option.bind_some]
  cases bl with
  | false => exact ⟨false, rfl, by simp; intro h; have := h.rels; rw [hbl] at this; cases this⟩
  | true =>
   refine ⟨_, rfl, ?_⟩
   simp only [decide_eq_true_eq]
   refine ⟨fun hf => ⟨hbl, by omega, fun n f hn => ?_, fun n f g hn hg => ?_⟩, fun h => by have := h.few; omega⟩
   ·obtain ⟨hl, rfl⟩ := List.getElem?_eq_some_iff.1 hn; exact (h2 n hl).1
   ·obtain ⟨hl, rfl⟩ := List.getElem?_eq_some_iff.1 hg; exact (h2 (n + 1) hl).2 n f rfl hn
end Go.Proofs.Ytjdpolnakhmkmaa
set_option linter.unusedVariables false
set_option linter.unusedSimpArgs false
namespace Go.Proofs.Ytjdpolnakhmkmaa
open Go Go.Proofs Go.Sep
end Go.Proofs.Ytjdpolnakhmkmaa
set_option linter.unusedVariables false
set_option linter.unusedSimpArgs false
namespace Go.Proofs.Ytjdpolnakhmkmaa
open Go Go.Proofs Go.Sep
def DbD (d : Database) : Prop := d.relations.length ≤ 4 ∧ d.facts.length ≤ 14 ∧ (∀ r ∈ d.relations, r.name.size ≤ 2) ∧ ∀ f ∈ d.facts, f.values.length ≤ 4
theorem DbD.s {d : Database} (h : DbD d) : DbS d := ⟨by have := h.1; omega, by have := h.2.1; omega, fun r hr => by have := h.2.2.1 r hr; omega, fun f hf => by have := h.2.2.2 f hf; omega⟩
theorem l4Copy_eq {u : Nat} {d : Database} (hd : DbS d) (hu : 1048577 < u) : m_spec_l4Copy u d = some d := by
 unfold m_spec_l4Copy
 refine Ok.to (.app (by have := hd.1; simp; omega) ?_)
 refine .while (fun (s : Int × List Fact) => ∃ n : Nat, s.1 = (n : Int) ∧ n ≤ d.facts.length ∧ s.2 = d.facts.take n) (fun (s : Int × List Fact) => d.facts.length - s.1.toNat) (fun (s : Int × List Fact) => s.2 = d.facts) (fun _ => False) (by have := hd.2.1; simp only; omega) ⟨0, rfl, by omega, rfl⟩ (fun ⟨i, fs⟩ ⟨n, h1, h2, h3⟩ => ?_) (fun ⟨i, fs⟩ h => .ret (by simp only at h; subst h; simp)) (fun _ h => h.elim)
 simp only at h1 h3
 subst h1 h3
 simp only
 have hf := hd.2.1
 refine .cond (fun h => ?_) fun h => .brk ?_
 ·have hlt : n < d.facts.length := by simpa using h
  have hv := hd.2.2.2 _ (List.getElem_mem hlt)
  refine .get rfl hlt (.app (by simp; omega) (.app (by simp; omega) (.next ⟨⟨n + 1, by rw [w64_id (by omega)]; simp, hlt, ?_⟩, by simp only; rw [w64_id (by omega)]; omega⟩)))
  simp only [List.nil_append]
  rw [List.take_add_one, List.getElem?_eq_getElem hlt]; rfl
 ·have : ¬ n < d.facts.length := by simpa using h
  simp only
  rw [List.take_of_length_le (by omega)]
end Go.Proofs.Ytjdpolnakhmkmaa
set_option linter.unusedVariables false
set_option linter.unusedSimpArgs false
namespace Go.Proofs.Ytjdpolnakhmkmaa
open Go Go.Proofs Go.Sep
end Go.Proofs.Ytjdpolnakhmkmaa
set_option linter.unusedVariables false
set_option linter.unusedSimpArgs false
namespace Go.Proofs.Ytjdpolnakhmkmaa
open Go Go.Proofs Go.Sep
def RelOK (r : Relation) : Prop := 0 ≤ r.keyLength ∧ r.keyLength ≤ r.arity ∧ 1 ≤ r.arity ∧ r.arity ≤ 3
theorem validRelation_ok {r : Relation} (h : m_impl_IsValidRelation r = some true) : RelOK r := by
 unfold m_impl_IsValidRelation m_impl_within at h
 obtain ⟨t, h1, h2⟩ := bind_inv h
 have h2 : t = true := by simpa using h2
 subst h2
 by_cases hs : (r.name.size : Int) = 1
 ·rw [cond_T' (by simpa using hs)] at h1
  obtain ⟨b1, _, h3⟩ := bind_inv h1
  cases hd : decide (97 ≤ b1) with
  | false => rw [hd] at h3; simp at h3
  | true =>
   rw [hd, cond_T' rfl] at h3
   obtain ⟨b2, _, h4⟩ := bind_inv h3
   cases hd2 : decide (b2 ≤ 122) with
   | false => rw [hd2] at h4; simp at h4
   | true =>
    rw [hd2, cond_T' rfl] at h4
    simp only [Option.bind_some] at h4
    by_cases ha : 1 ≤ r.arity ∧ r.arity ≤ 3
    ·rw [cond_T' (by simp [ha])] at h4
     simp only [Option.some.injEq, Bool.and_eq_true, decide_eq_true_eq] at h4
     exact ⟨h4.1, h4.2, ha.1, ha.2⟩
    ·rw [cond_F' (by simp; omega)] at h4; simp at h4
 ·rw [cond_F' (by simpa using hs)] at h1; simp at h1
theorem validRelations_ok {l : List Relation} (h : m_impl_AreValidRelations l = some true) : ∀ r ∈ l, RelOK r := by
 unfold m_impl_AreValidRelations at h
 obtain ⟨o, h1, h2⟩ := forL_ok (xs := l) (s := ()) (f := fun (t_1 : Int) (x_t_1 : Relation) (_ : Unit) => ((m_impl_IsValidRelation x_t_1).bind fun r_5 => cond (!r_5) (some true) (cond (decide (0 < (t_1 : Int))) ((getI l ((t_1 : Int) - 1)).bind fun v_9 => some (!ltS v_9.name x_t_1.name)) (some false))).bind fun (t29 : Bool) => cond t29 (some (.ret false)) (some (.next ())))
  (fun n _ => ∀ (j : Nat) r, j < n → l[j]? = some r → RelOK r) (fun _ => False) (fun (r : Bool) => r = false) (fun j r hj => by omega) fun n x s hx hI => by
   obtain ⟨b, hb⟩ := validRelation_tot x
   have hn : n < l.length := (List.getElem?_eq_some_iff.1 hx).1
   rw [hb, Option.bind_some]
   cases b with
   | false => exact ⟨_, rfl, rfl⟩
   | true =>
    have key : ∃ t, (cond (decide (0 < (n : Int))) ((getI l ((n : Int) - 1)).bind fun v_9 => some (!ltS v_9.name x.name)) (some false)) = some t := by
     by_cases h0 : 0 < n
     ·have e : (n : Int) - 1 = ((n - 1 : Nat) : Int) := by omega
      rw [cond_T' (by simpa using h0), e, getI_lt (show n - 1 < l.length by omega)]; exact ⟨_, rfl⟩
     ·rw [cond_F' (by simpa using h0)]; exact ⟨_, rfl⟩
    obtain ⟨t, ht⟩ := key
    rw [cond_nt, ht, Option.bind_some]
    cases t with
    | true => exact ⟨_, rfl, rfl⟩
    | false =>
     refine ⟨_, rfl, fun j r hj hr => ?_⟩
     by_cases e : j = n
     ·subst e; rw [hx] at hr; cases hr; exact validRelation_ok hb
     ·exact hI j r (by omega) hr
 rw [h1, Option.bind_some] at h
 cases o with
 | inl s =>
  intro r hr
  obtain ⟨j, hj⟩ := List.getElem?_of_mem hr
  exact (h2.resolve_right id) j r (List.getElem?_eq_some_iff.1 hj).1 hj
 | inr r =>
  simp only [SumP] at h2
  subst h2; simp [onS] at h
def keyLen (l : List Relation) (f : Fact) : Nat := match l[f.relation.toNat]? with
 | some r => r.keyLength.toNat
 | none => 0
def keyF (l : List Relation) (f : Fact) : Int × List Int := (f.relation, f.values.take (keyLen l f))
theorem cut_key {xs : List Int} {k : Int} (h0 : 0 ≤ k) (h1 : k ≤ (xs.length : Int)) : cutI xs 0 k = some (xs.take k.toNat) := by
 unfold cutI
 rw [if_pos (by omega)]; simp
theorem keyLen_eq {l : List Relation} {f : Fact} {n : Nat} {r : Relation} (h1 : f.relation = n) (h2 : l[n]? = some r) : keyLen l f = r.keyLength.toNat := by
 simp only [keyLen, h1, Int.toNat_natCast, h2]
theorem impl_sameKey_eq {l : List Relation} (hl : m_impl_AreValidRelations l = some true) {a b : Fact} (ha : FactOK l a) (hb : FactOK l b) : m_impl_sameKey l a b = some (decide (keyF l a = keyF l b)) := by
 unfold m_impl_sameKey
 by_cases hr : a.relation = b.relation
 ·obtain ⟨n, r, h1, h2, h3, h4⟩ := ha
  obtain ⟨n', r', g1, g2, g3, g4⟩ := hb
  have : n' = n := by omega
  subst this
  rw [h2] at g2; cases g2
  have hok := validRelations_ok hl r (List.mem_of_getElem? h2)
  rw [cond_F' (by simp [hr]), h1, getI_nat, h2, Option.bind_some, cut_key hok.1 (by have := hok.2.1; omega), Option.bind_some, cut_key hok.1 (by have := hok.2.1; omega), Option.bind_some]
  have he : m_slices_Equal_Sint_int (a.values.take r.keyLength.toNat) (b.values.take r.keyLength.toNat) = some (decide (a.values.take r.keyLength.toNat = b.values.take r.keyLength.toNat)) := by
   unfold m_slices_Equal_Sint_int
   generalize a.values.take r.keyLength.toNat = x
   generalize b.values.take r.keyLength.toNat = y
   by_cases hl : x.length = y.length
   ·rw [cond_F' (by simp [hl])]
    obtain ⟨o, h1, h2⟩ := forL_all (f := fun (i_2 : Int) (x_i_2 : Int) (_ : Unit) => (getI y (i_2 : Int)).bind fun v_4 => cond (decide (x_i_2 ≠ v_4)) (some (.ret false)) (some (.next ()))) (xs := x) (r := false) (fun n z => decide (y[n]? = some z)) (fun n z hx => by
     have hn : n < y.length := by have := (List.getElem?_eq_some_iff.1 hx).1; omega
     rw [getI_lt hn, Option.bind_some, List.getElem?_eq_getElem hn]
     by_cases e : z = y[n]
     ·simp [e]
     ·simp [e, Ne.symm e])
    rw [h1, Option.bind_some]
    rcases h2 with ⟨rfl, h⟩ | ⟨rfl, n, z, hx, hp⟩
    ·simp only [onS, Option.some.injEq]
     symm; simp only [decide_eq_true_eq]
     apply List.ext_getElem?
     intro n
     cases hx : x[n]? with
     | none => rw [List.getElem?_eq_none_iff] at hx; rw [List.getElem?_eq_none (by omega)]
     | some z => have := h n z hx; simp at this; exact this.symm
    ·simp only [onS, Option.some.injEq]
     symm; simp only [decide_eq_false_iff_not]
     rintro rfl
     simp [hx] at hp
   ·rw [cond_T' (by simp; omega)]
    have : x ≠ y := fun e => hl (by rw [e])
    simp [this]
  rw [he, Option.bind_some]
  simp only [keyF, keyLen_eq h1 h2, keyLen_eq g1 h2, hr, Prod.mk.injEq, true_and]
 ·rw [cond_T' (by simp [hr])]
  have : keyF l a ≠ keyF l b := fun e => hr (congrArg Prod.fst e)
  simp [this]
end Go.Proofs.Ytjdpolnakhmkmaa
set_option linter.unusedVariables false
set_option linter.unusedSimpArgs false
namespace Go.Proofs.Ytjdpolnakhmkmaa
open Go Go.Proofs Go.Sep
theorem cmpL_zero : ∀ (a b : List Int), cmpL a b = 0 ↔ a = b
 | [], [] => by simp [cmpL]
 | [], y :: b => by simp [cmpL]
 | x :: a, [] => by simp [cmpL]
 | x :: a, y :: b => by
  simp only [cmpL, List.cons.injEq]
  by_cases h1 : x < y
  ·rw [if_pos h1]; constructor
   ·intro h; omega
   ·intro h; omega
  ·by_cases h2 : y < x
   ·rw [if_neg h1, if_pos h2]; constructor
    ·intro h; omega
    ·intro h; omega
   ·rw [if_neg h1, if_neg h2, cmpL_zero a b]
    constructor
    ·intro h; exact ⟨by omega, h⟩
    ·intro h; exact h.2
theorem cmpL_between : ∀ (m : Nat) (a b c : List Int), cmpL a b ≤ 0 → cmpL b c ≤ 0 → a.take m = c.take m → b.take m = a.take m
 | 0, a, b, c, _, _, _ => by simp
 | m + 1, [], [], c, _, _, _ => rfl
 | m + 1, [], y :: b, c, h1, h2, h => by
  cases c with
  | nil => simp [cmpL] at h2
  | cons z c => simp at h
 | m + 1, x :: a, [], c, h1, h2, h => by simp [cmpL] at h1
 | m + 1, x :: a, y :: b, [], h1, h2, h => by simp at h
 | m + 1, x :: a, y :: b, z :: c, h1, h2, h => by
  simp only [List.take_succ_cons, List.cons.injEq] at h ⊢
  obtain ⟨rfl, h⟩ := h
  simp only [cmpL] at h1 h2
  by_cases c1 : y < x
  ·rw [if_neg (by omega), if_pos c1] at h1; omega
  ·by_cases c2 : x < y
   ·rw [if_neg (by omega), if_pos c2] at h2; omega
   ·have : y = x := by omega
    subst this
    rw [if_neg (by omega), if_neg (by omega)] at h1 h2
    exact ⟨rfl, cmpL_between m a b c h1 h2 h⟩
theorem cmpL_trans : ∀ (a b c : List Int), cmpL a b ≤ 0 → cmpL b c ≤ 0 → cmpL a c ≤ 0
 | [], b, c, h1, h2 => by rw [cmpL_nil_l]; split <;> omega
 | x :: a, [], c, h1, h2 => by simp [cmpL] at h1
 | x :: a, y :: b, [], h1, h2 => by simp [cmpL] at h2
 | x :: a, y :: b, z :: c, h1, h2 => by
  simp only [cmpL] at h1 h2 ⊢
  by_cases c1 : x < z
  ·rw [if_pos c1]; omega
  ·rw [if_neg c1]
   by_cases c2 : x < y
   ·have : z < y := by omega
    rw [if_neg (by omega), if_pos this] at h2; omega
   ·rw [if_neg c2] at h1
    by_cases c3 : y < x
    ·rw [if_pos c3] at h1; omega
    ·rw [if_neg c3] at h1
     have : y = x := by omega
     subst this
     rw [if_neg c1] at h2
     by_cases c4 : z < y
     ·rw [if_pos c4] at h2; omega
     ·rw [if_neg c4] at h2 ⊢
      exact cmpL_trans a b c h1 h2
theorem cmpF_trans {a b c : Fact} (h1 : cmpF a b ≤ 0) (h2 : cmpF b c ≤ 0) : cmpF a c ≤ 0 := by
 unfold cmpF at *
 by_cases c1 : a.relation < c.relation
 ·rw [if_pos c1]; omega
 ·rw [if_neg c1]
  by_cases c2 : a.relation < b.relation
  ·rw [if_neg (by omega), if_pos (by omega)] at h2; omega
  ·rw [if_neg c2] at h1
   by_cases c3 : b.relation < a.relation
   ·rw [if_pos c3] at h1; omega
   ·rw [if_neg c3] at h1
    rw [if_neg (by omega)] at h2
    by_cases c4 : c.relation < b.relation
    ·rw [if_pos c4] at h2; omega
    ·rw [if_neg c4] at h2
     rw [if_neg (by omega)]
     exact cmpL_trans _ _ _ h1 h2
theorem keyF_between {l : List Relation} {a b c : Fact} (h1 : cmpF a b ≤ 0) (h2 : cmpF b c ≤ 0) (h : keyF l a = keyF l c) : keyF l b = keyF l a := by
 have hr : a.relation = c.relation := congrArg Prod.fst h
 have hv : a.values.take (keyLen l a) = c.values.take (keyLen l c) := congrArg Prod.snd h
 unfold cmpF at h1 h2
 by_cases c2 : a.relation < b.relation
 ·rw [if_neg (by omega), if_pos (by omega)] at h2; omega
 ·rw [if_neg c2] at h1
  by_cases c3 : b.relation < a.relation
  ·rw [if_pos c3] at h1; omega
  ·rw [if_neg c3] at h1
   rw [if_neg (by omega), if_neg (by omega)] at h2
   have hb : b.relation = a.relation := by omega
   have e1 : keyLen l b = keyLen l a := by simp only [keyLen, hb]
   have e2 : keyLen l c = keyLen l a := by simp only [keyLen, hr]
   rw [e2] at hv
   simp only [keyF, hb, e1, Prod.mk.injEq, true_and]
   exact cmpL_between _ _ _ _ h1 h2 hv
theorem sorted_le {d : Database} (hd : DbOK d) : ∀ (k i : Nat) f g, d.facts[i]? = some f → d.facts[i + k]? = some g → cmpF f g ≤ 0
 | 0, i, f, g, h1, h2 => by
  rw [Nat.add_zero, h1] at h2; cases h2
  have : cmpL f.values f.values = 0 := (cmpL_zero _ _).2 rfl
  simp [cmpF, this]
 | k + 1, i, f, g, h1, h2 => by
  have hl : i + k < d.facts.length := by have := (List.getElem?_eq_some_iff.1 h2).1; omega
  have h3 : d.facts[i + k]? = some d.facts[i + k] := List.getElem?_eq_getElem hl
  have := sorted_le hd k i f _ h1 h3
  exact cmpF_trans this (Int.le_of_lt (hd.sorted (i + k) _ _ h3 h2))
theorem spec_KeyOf_eq {u : Nat} {l : List Relation} (hl : m_impl_AreValidRelations l = some true) {f : Fact} (hf : FactOK l f) (hu : f.values.length < u) (hs : f.values.length ≤ 1048576) : m_spec_KeyOf u l f = some (f.values.take (keyLen l f)) := by
 unfold m_spec_KeyOf
 obtain ⟨b, h1, h2⟩ := spec_isFact_eq u l f hu hs
 have hb : b = true := h2.2 ⟨hl, hf⟩
 subst hb
 obtain ⟨n, r, g1, g2, g3, g4⟩ := hf
 have hok := validRelations_ok hl r (List.mem_of_getElem? g2)
 rw [h1, Option.bind_some, cond_nt, g1, getI_nat, g2, Option.bind_some, cut_key hok.1 (by have := hok.2.1; omega), Option.bind_some, app_ok (by simp; omega), keyLen_eq g1 g2]
 simp
theorem spec_HaveSameKey_eq {u : Nat} {l : List Relation} (hl : m_impl_AreValidRelations l = some true) {a b : Fact} (ha : FactOK l a) (hb : FactOK l b) (hu : a.values.length < u ∧ b.values.length < u) (hs : a.values.length ≤ 1048576 ∧ b.values.length ≤ 1048576) : m_spec_HaveSameKey u l a b = some (decide (keyF l a = keyF l b)) := by
 unfold m_spec_HaveSameKey
 obtain ⟨b1, h1, h2⟩ := spec_isFact_eq u l a hu.1 hs.1
 obtain ⟨b2, h3, h4⟩ := spec_isFact_eq u l b hu.2 hs.2
 have e1 : b1 = true := h2.2 ⟨hl, ha⟩
 have e2 : b2 = true := h4.2 ⟨hl, hb⟩
 subst e1 e2
 rw [h1, Option.bind_some, cond_T' rfl, h3, Option.bind_some, cond_T' rfl]
 by_cases hr : a.relation = b.relation
 ·rw [cond_T' (by simp [hr]), spec_KeyOf_eq hl ha hu.1 hs.1, Option.bind_some, spec_KeyOf_eq hl hb hu.2 hs.2, Option.bind_some, l3Ints_cmp _ _ u (by simp; omega) (by simp; omega) (by simp; omega), Option.bind_some, Option.bind_some]
  simp only [cmpL_zero, keyF, hr, Prod.mk.injEq, true_and]
 ·rw [cond_F' (by simp [hr]), Option.bind_some]
  have : keyF l a ≠ keyF l b := fun e => hr (congrArg Prod.fst e)
  simp [this]
end Go.Proofs.Ytjdpolnakhmkmaa
set_option linter.unusedVariables false
set_option linter.unusedSimpArgs false
namespace Go.Sep
section
variable {κ : Type} [DecidableEq κ] (K : Nat → κ)
def blkN (n i : Nat) : List Nat := (List.range n).filter fun j => decide (K j = K i)
def firstB (i : Nat) : Bool := decide (∀ j, j < i → K j ≠ K i)
def firsts (n : Nat) : List Nat := (List.range n).filter (firstB K)
def BlN (n : Nat) : List (List Nat) := (firsts K n).map (blkN K n)
variable {K}
theorem firstB_iff {i : Nat} : firstB K i = true ↔ ∀ j, j < i → K j ≠ K i := by simp [firstB]
theorem blkN_succ (n i : Nat) : blkN K (n + 1) i = blkN K n i ++ if K n = K i then [n] else [] := by
 simp only [blkN, List.range_succ, List.filter_append, List.filter_cons, List.filter_nil, decide_eq_true_eq]
theorem firsts_succ (n : Nat) : firsts K (n + 1) = firsts K n ++ if firstB K n = true then [n] else [] := by
 simp only [firsts, List.range_succ, List.filter_append, List.filter_cons, List.filter_nil]
theorem mem_firsts {n i : Nat} : i ∈ firsts K n ↔ i < n ∧ firstB K i = true := by simp [firsts]
theorem exists_first {i : Nat} : ∃ j, j ≤ i ∧ K j = K i ∧ firstB K j = true := by
 induction i using Nat.strongRecOn with
 | ind i ih =>
  by_cases h : firstB K i = true
  ·exact ⟨i, Nat.le_refl _, rfl, h⟩
  ·have : ∃ j, j < i ∧ K j = K i := by
    rw [firstB_iff] at h
    simp only [Classical.not_forall, ne_eq, Decidable.not_not] at h
    obtain ⟨j, h1, h2⟩ := h
    exact ⟨j, h1, h2⟩
   obtain ⟨j, h1, h2⟩ := this
   obtain ⟨k, h3, h4, h5⟩ := ih j h1
   exact ⟨k, by omega, h4.trans h2, h5⟩
theorem first_uniq {i j : Nat} (hi : firstB K i = true) (hj : firstB K j = true) (h : K i = K j) : i = j := by
 rw [firstB_iff] at hi hj
 rcases Nat.lt_trichotomy i j with h1 | h1 | h1
 ·exact (hj i h1 h).elim
 ·exact h1
 ·exact (hi j h1 h.symm).elim
theorem firsts_sorted (n : Nat) : (firsts K n).Pairwise (· < ·) := List.Pairwise.filter _ (List.pairwise_lt_range)
theorem blkN_head {n i : Nat} (hi : i < n) (hf : firstB K i = true) : (blkN K n i)[0]? = some i := by
 have hm : i ∈ blkN K n i := by simp [blkN, hi]
 have hs : (blkN K n i).Pairwise (· < ·) := List.Pairwise.filter _ (List.pairwise_lt_range)
 cases hb : blkN K n i with
 | nil => rw [hb] at hm; cases hm
 | cons x xs =>
  have hx : x ∈ blkN K n i := by rw [hb]; exact List.mem_cons_self ..
  simp only [blkN, List.mem_filter, List.mem_range, decide_eq_true_eq] at hx
  rw [hb] at hs hm
  rcases List.mem_cons.1 hm with rfl | hm
  ·rfl
  ·have := (List.pairwise_cons.1 hs).1 i hm
   exact ((firstB_iff.1 hf) x this hx.2).elim
theorem Bl_new {m : Nat} (hn : ∀ i, i < m → K i ≠ K m) : BlN K (m + 1) = BlN K m ++ [[m]] := by
 have hf : firstB K m = true := firstB_iff.2 hn
 have hb : blkN K (m + 1) m = [m] := by
  rw [blkN_succ, if_pos rfl]
  have : blkN K m m = [] := by
   simp only [blkN, List.filter_eq_nil_iff, List.mem_range, decide_eq_true_eq]
   exact hn
  rw [this]; rfl
 simp only [BlN, firsts_succ, if_pos hf, List.map_append, List.map_cons, List.map_nil, hb]
 congr 1
 apply List.map_congr_left
 intro i hi
 have := (mem_firsts.1 hi).1
 rw [blkN_succ, if_neg (fun e => hn i this e.symm), List.append_nil]
theorem Bl_old {m h : Nat} {F' : List Nat} (hF : firsts K m = F' ++ [h]) (hK : K h = K m) : BlN K (m + 1) = F'.map (blkN K m) ++ [blkN K m h ++ [m]] := by
 have hm : h ∈ firsts K m := by rw [hF]; simp
 obtain ⟨h1, h2⟩ := mem_firsts.1 hm
 have hf : ¬ firstB K m = true := fun hf => (firstB_iff.1 hf) h h1 hK
 simp only [BlN, firsts_succ, if_neg hf, List.append_nil, hF, List.map_append, List.map_cons, List.map_nil]
 rw [blkN_succ, if_pos hK.symm]
 congr 1
 apply List.map_congr_left
 intro i hi
 have hi' : i ∈ firsts K m := by rw [hF]; simp [hi]
 have hif := mem_firsts.1 hi'
 rw [blkN_succ, if_neg, List.append_nil]
 intro e
 have : i = h := first_uniq hif.2 h2 (e.symm.trans hK.symm)
 subst this
 have hs := firsts_sorted (K := K) m
 rw [hF, List.pairwise_append] at hs
 have := hs.2.2 i hi i (by simp)
 omega
theorem last_first {m h : Nat} {F' : List Nat} (hC : ∀ i j, i < j → j < m → K i = K m → K j = K i) (hF : firsts K m = F' ++ [h]) : K h = K m ↔ ∃ i, i < m ∧ K i = K m := by
 have hm : h ∈ firsts K m := by rw [hF]; simp
 obtain ⟨h1, h2⟩ := mem_firsts.1 hm
 constructor
 ·intro hK; exact ⟨h, h1, hK⟩
 ·rintro ⟨i, hi, hK⟩
  obtain ⟨j, g1, g2, g3⟩ := exists_first (K := K) (i := i)
  have hj : j ∈ firsts K m := mem_firsts.2 ⟨by omega, g3⟩
  rw [hF] at hj
  rcases List.mem_append.1 hj with hj | hj
  ·have hs := firsts_sorted (K := K) m
   rw [hF, List.pairwise_append] at hs
   have hlt := hs.2.2 j hj h (by simp)
   have := hC j h hlt h1 (g2.trans hK)
   exact ((firstB_iff.1 h2) j hlt this.symm).elim
  ·simp only [List.mem_singleton] at hj
   subst hj; exact g2.trans hK
end
end Go.Sep
set_option linter.unusedVariables false
set_option linter.unusedSimpArgs false
namespace Go.Proofs.Ytjdpolnakhmkmaa
open Go Go.Proofs Go.Sep
def castL (l : List Nat) : List Int := l.map fun (j : Nat) => (j : Int)
def castB (b : List (List Nat)) : List (List Int) := b.map castL
theorem castL_len (l : List Nat) : (castL l).length = l.length := by simp [castL]
theorem castB_len (b : List (List Nat)) : (castB b).length = b.length := by simp [castB]
def keyN (d : Database) (i : Nat) : Int × List Int := keyF d.relations (d.facts.getD i default)
theorem keyN_at {d : Database} {i : Nat} (h : i < d.facts.length) : keyN d i = keyF d.relations d.facts[i] := by
 simp [keyN, List.getD, h]
theorem keyN_C {d : Database} (hd : DbOK d) {m : Nat} (hm : m < d.facts.length) : ∀ i j, i < j → j < m → keyN d i = keyN d m → keyN d j = keyN d i := fun i j hij hjm h => by
 rw [keyN_at (show i < d.facts.length by omega), keyN_at hm] at h
 rw [keyN_at (show j < d.facts.length by omega), keyN_at (show i < d.facts.length by omega)]
 have h1 := sorted_le hd (j - i) i d.facts[i] d.facts[j] (List.getElem?_eq_getElem _) (by rw [show i + (j - i) = j by omega]; exact List.getElem?_eq_getElem _)
 have h2 := sorted_le hd (m - j) j d.facts[j] d.facts[m] (List.getElem?_eq_getElem _) (by rw [show j + (m - j) = m by omega]; exact List.getElem?_eq_getElem hm)
 exact keyF_between h1 h2 h
def blocksOf (d : Database) : List (List Int) := castB (BlN (keyN d) d.facts.length)
theorem BlN_len_le (K : Nat → Int × List Int) (m : Nat) : (BlN K m).length ≤ m := by
 simp only [BlN, firsts, List.length_map]
 exact Nat.le_trans (List.length_filter_le ..) (by simp)
theorem impl_blocks_eq {d : Database} (hd : DbOK d) : m_impl_blocks d = some (blocksOf d) := by
 unfold m_impl_blocks
 obtain ⟨s, h1, h2⟩ := forS_ok (xs := d.facts) (s := ([] : List (List Int))) (f := fun (t_1 : Int) (x_t_1 : Fact) (out3 : (List (List Int))) => (cond (decide (0 ≤ ((out3.length : Int) - 1))) ((getI out3 ((out3.length : Int) - 1)).bind fun v_7 => (getI v_7 0).bind fun v_12 => (getI d.facts v_12).bind fun v_17 => (m_impl_sameKey d.relations v_17 x_t_1).bind fun r_22 => some r_22) (some false)).bind fun (t36 : Bool) => cond t36 ((getI out3 ((out3.length : Int) - 1)).bind fun v_25 => (app 8 v_25 ([(t_1 : Int)] : (List Int))).bind fun us_30 => some (out3.set (((out3.length : Int) - 1)).toNat us_30)) ((app 24 out3 ([([(t_1 : Int)] : (List Int))] : (List (List Int)))).bind fun us_32 => some us_32))
  (fun m out => out = castB (BlN (keyN d) m)) rfl fun m x out hx hI => by
   have hm : m < d.facts.length := (List.getElem?_eq_some_iff.1 hx).1
   rw [List.getElem?_eq_getElem hm] at hx; cases hx
   have hfew := hd.few
   have hlen : out.length ≤ m := by rw [hI, castB_len]; exact BlN_len_le _ _
   have hnew : (∀ i, i < m → keyN d i ≠ keyN d m) → ∃ s', ((app 24 out ([([(m : Int)] : (List Int))] : (List (List Int)))).bind fun us_32 => some us_32) = some s' ∧ s' = castB (BlN (keyN d) (m + 1)) := fun hn => by
    rw [app_ok (by simp; omega)]
    refine ⟨_, rfl, ?_⟩
    rw [Bl_new hn, hI]; simp [castB, castL]
   rcases List.eq_nil_or_concat (firsts (keyN d) m) with hF | ⟨F', h, hF⟩
   ·have ho : out = [] := by rw [hI]; simp [BlN, hF, castB]
    have hn : ∀ i, i < m → keyN d i ≠ keyN d m := fun i hi _ => by
     obtain ⟨j, g1, _, g3⟩ := exists_first (K := keyN d) (i := i)
     have : j ∈ firsts (keyN d) m := mem_firsts.2 ⟨by omega, g3⟩
     rw [hF] at this; cases this
    rw [cond_F' (by simp [ho]), Option.bind_some, cond_F' rfl]
    exact hnew hn
   ·rw [List.concat_eq_append] at hF
    have hlf := last_first (keyN_C hd hm) hF
    have hh : h ∈ firsts (keyN d) m := by rw [hF]; simp
    obtain ⟨hhm, hhf⟩ := mem_firsts.1 hh
    have ho : out = castB (F'.map (blkN (keyN d) m)) ++ [castL (blkN (keyN d) m h)] := by rw [hI]; simp [BlN, hF, castB]
    have hol : (out.length : Int) - 1 = ((F'.length : Nat) : Int) := by rw [ho]; simp [castB]
    have hget : getI out ((F'.length : Nat) : Int) = some (castL (blkN (keyN d) m h)) := by
     rw [getI_nat, ho, List.getElem?_append_right (by simp [castB])]; simp [castB]
    have hhead : getI (castL (blkN (keyN d) m h)) 0 = some (h : Int) := by
     have := blkN_head hhm hhf
     rw [show (0 : Int) = ((0 : Nat) : Int) from rfl, getI_nat]; simp [castL, this]
    have hhl : h < d.facts.length := by omega
    have hsk := impl_sameKey_eq hd.rels (hd.fact h _ (List.getElem?_eq_getElem hhl)) (hd.fact m _ (List.getElem?_eq_getElem hm))
    rw [← keyN_at hhl, ← keyN_at hm] at hsk
    rw [hol, cond_T' (by simp), hget, Option.bind_some, hhead, Option.bind_some, getI_lt hhl, Option.bind_some, hsk, Option.bind_some, Option.bind_some]
    by_cases hK : keyN d h = keyN d m
    ·have hbl : (castL (blkN (keyN d) m h)).length ≤ m := by rw [castL_len]; exact Nat.le_trans (List.length_filter_le ..) (by simp)
     rw [cond_T' (by simpa using hK), Option.bind_some, app_ok (by simp; omega), Option.bind_some]
     refine ⟨_, rfl, ?_⟩
     rw [Bl_old hF hK, ho, Int.toNat_natCast, List.set_append_right _ _ (by simp [castB])]
     simp [castB, castL]
    ·rw [cond_F' (by simpa using hK)]
     exact hnew fun i hi e => hK (hlf.2 ⟨i, hi, e⟩)
 rw [h1, Option.bind_some, h2]; rfl
end Go.Proofs.Ytjdpolnakhmkmaa
set_option linter.unusedVariables false
set_option linter.unusedSimpArgs false
namespace Go.Proofs.Ytjdpolnakhmkmaa
open Go Go.Proofs Go.Sep
theorem spec_valid {u : Nat} {d : Database} (hd : DbOK d) (hs : DbS d) (hu : 1048577 < u) : m_spec_IsValidDatabase u d = some true := by
 obtain ⟨b, h1, h2⟩ := spec_IsValidDatabase_eq u d hs hu
 rw [h1, h2.2 hd]
theorem spec_BlockOf_eq {u : Nat} {d : Database} (hd : DbOK d) (hs : DbS d) (hu : 1048577 < u) {i : Nat} (hi : i < d.facts.length) : m_spec_BlockOf u d (i : Int) = some (castL (blkN (keyN d) d.facts.length i)) := by
 unfold m_spec_BlockOf m_spec_l1In
 have hfew := hd.few
 obtain ⟨o, h1, h2⟩ := while_ok (f := fun (⟨out5, k6⟩ : (List Int) × Int) => (cond (decide (k6 < (d.facts.length : Int))) ((m_spec_IsValidDatabase u d).bind fun r_5 => cond r_5 ((some ((decide (0 ≤ (i : Int))) && (decide ((i : Int) ≤ (d.facts.length : Int) - 1)))).bind fun r_9 => some r_9) (some false)) (some false)).bind fun (t24 : Bool) => cond t24 ((getI d.facts (i : Int)).bind fun v_12 => (getI d.facts k6).bind fun v_17 => (m_spec_HaveSameKey u d.relations v_12 v_17).bind fun r_22 => cond r_22 ((app 8 out5 ([k6] : (List Int))).bind fun us_25 => some (Ctl.next (R := List Int) (us_25, (w64 (k6 + 1))))) (some (.next (out5, (w64 (k6 + 1)))))) (some (.brk (out5, k6))))
  (fun (s : List Int × Int) => ∃ m : Nat, s.2 = (m : Int) ∧ m ≤ d.facts.length ∧ s.1 = castL (blkN (keyN d) m i)) (fun (s : List Int × Int) => d.facts.length - s.2.toNat) (fun (s : List Int × Int) => s.1 = castL (blkN (keyN d) d.facts.length i)) (fun (_ : List Int) => False)
  (fun ⟨out, k⟩ ⟨m, hk, hm, hI⟩ => by
   simp only at hk hI
   subst hk
   simp only [spec_valid hd hs hu, Option.bind_some, cond_true]
   by_cases h : m < d.facts.length
   ·have e : (decide (0 ≤ (i : Int)) && decide ((i : Int) ≤ (d.facts.length : Int) - 1)) = true := by simp; omega
    have hk := spec_HaveSameKey_eq (u := u) hd.rels (hd.fact i _ (List.getElem?_eq_getElem hi)) (hd.fact m _ (List.getElem?_eq_getElem h)) ⟨by have := hs.2.2.2 _ (List.getElem_mem hi); omega, by have := hs.2.2.2 _ (List.getElem_mem h); omega⟩ ⟨hs.2.2.2 _ (List.getElem_mem hi), hs.2.2.2 _ (List.getElem_mem h)⟩
    rw [← keyN_at hi, ← keyN_at h] at hk
    rw [cond_T' (by simpa using h), e, Option.bind_some, cond_T' rfl, getI_lt hi, Option.bind_some, getI_lt h, Option.bind_some, hk, Option.bind_some, w64_id (by omega)]
    have hl : out.length ≤ m := by rw [hI, castL_len]; exact Nat.le_trans (List.length_filter_le ..) (by simp)
    by_cases hK : keyN d i = keyN d m
    ·rw [cond_T' (by simpa using hK), app_ok (by simp; omega), Option.bind_some]
     refine ⟨_, rfl, ⟨m + 1, by simp, h, ?_⟩, by simp only; omega⟩
     simp only
     rw [blkN_succ, if_pos hK.symm, hI]; simp [castL]
    ·rw [cond_F' (by simpa using hK)]
     refine ⟨_, rfl, ⟨m + 1, by simp, h, ?_⟩, by simp only; omega⟩
     simp only
     rw [blkN_succ, if_neg (fun e => hK e.symm), hI, List.append_nil]
   ·rw [cond_F' (by simpa using h), Option.bind_some, cond_F' rfl]
    have e : m = d.facts.length := by omega
    exact ⟨_, rfl, by simp only [CtlP]; rw [hI, e]⟩)
  u (([] : List Int), 0) (by show d.facts.length - (0 : Int).toNat < u; omega) ⟨0, rfl, by omega, rfl⟩
 rw [h1, Option.bind_some]
 cases o with
 | inr r => exact h2.elim
 | inl s => obtain ⟨out, k⟩ := s; simp only [SumP] at h2; subst h2; rfl
end Go.Proofs.Ytjdpolnakhmkmaa
set_option linter.unusedVariables false
set_option linter.unusedSimpArgs false
namespace Go.Proofs.Ytjdpolnakhmkmaa
open Go Go.Proofs Go.Sep
theorem mem_blocksOf {d : Database} {b : List Int} (hb : b ∈ blocksOf d) : ∃ i, i < d.facts.length ∧ firstB (keyN d) i = true ∧ b = castL (blkN (keyN d) d.facts.length i) := by
 simp only [blocksOf, castB, BlN, List.map_map, List.mem_map] at hb
 obtain ⟨i, hi, rfl⟩ := hb
 obtain ⟨h1, h2⟩ := mem_firsts.1 hi
 exact ⟨i, h1, h2, rfl⟩
end Go.Proofs.Ytjdpolnakhmkmaa
set_option linter.unusedVariables false
set_option linter.unusedSimpArgs false
namespace Go.Proofs.Ytjdpolnakhmkmaa
open Go Go.Proofs Go.Sep
theorem cmpF_zero (a b : Fact) : cmpF a b = 0 ↔ a = b := by
 unfold cmpF
 cases a; cases b
 simp only [Fact.mk.injEq]
 constructor
 ·intro h
  split at h
  ·cases h
  ·split at h
   ·cases h
   ·exact ⟨by omega, (cmpL_zero _ _).1 h⟩
 ·rintro ⟨rfl, rfl⟩
  rw [if_neg (by omega), if_neg (by omega)]
  exact (cmpL_zero _ _).2 rfl
end Go.Proofs.Ytjdpolnakhmkmaa
set_option linter.unusedVariables false
set_option linter.unusedSimpArgs false
namespace Go.Proofs.Ytjdpolnakhmkmaa
open Go Go.Proofs Go.Sep
theorem l4Set_eq (d : Database) (l : List Int) (hd : d.facts.length ≤ 1048576) : m_spec_l4Set d l = m_impl_areIndices l (d.facts.length : Int) := by
 unfold m_spec_l4Set m_impl_areIndices m_impl_within m_spec_l1In
 rw [w64_id (x := (d.facts.length : Int) - 1) (by omega)]
end Go.Proofs.Ytjdpolnakhmkmaa
set_option linter.unusedVariables false
set_option linter.unusedSimpArgs false
namespace Go.Proofs.Ytjdpolnakhmkmaa
open Go Go.Proofs Go.Sep
def AscB (n : Int) (l : List Int) : Prop := (∀ x ∈ l, 0 ≤ x ∧ x ≤ n - 1) ∧ l.Pairwise (· < ·)
theorem areIndices_iff (l : List Int) (n : Int) (h0 : 0 ≤ n) (h1 : n ≤ 1048576) : Ok (m_impl_areIndices l n) fun b => (b = true ↔ AscB n l) := by
 unfold m_impl_areIndices m_impl_within
 have adj : ∀ (l : List Int), (∀ (j : Nat) x y, l[j]? = some x → l[j + 1]? = some y → x < y) → l.Pairwise (· < ·) := by
  intro l
  induction l with
  | nil => intro _; exact .nil
  | cons a l ih =>
   intro h
   have hl := ih fun j x y hx hy => h (j + 1) x y (by simpa using hx) (by simpa using hy)
   refine .cons (fun y hy => ?_) hl
   cases l with
   | nil => cases hy
   | cons b l =>
    have hab := h 0 a b rfl rfl
    rcases List.mem_cons.1 hy with rfl | hy
    ·exact hab
    ·exact Int.lt_trans hab ((List.pairwise_cons.1 hl).1 y hy)
 refine Ok.forL (fun m _ => (∀ (j : Nat) x, j < m → l[j]? = some x → 0 ≤ x ∧ x ≤ n - 1) ∧ ∀ (j : Nat) x y, j + 1 < m → l[j]? = some x → l[j + 1]? = some y → x < y) (fun _ => False) (fun (r : Bool) => r = false ∧ ¬ AscB n l) ⟨fun j x hj => by omega, fun j x y hj => by omega⟩ (fun m x s hx ⟨hI, hJ⟩ => ?_) (fun s hs => .ret ⟨fun _ => ?_, fun _ => rfl⟩) (fun r hr => .ret ⟨fun h => absurd h (by rw [hr.1]; exact Bool.false_ne_true), fun h => (hr.2 h).elim⟩)
 ·have hm : m < l.length := (List.getElem?_eq_some_iff.1 hx).1
  rw [w64_id (x := n - 1) (by omega)]
  refine .bind (P := fun t => (t = true → ¬ AscB n l) ∧ (t = false → (0 ≤ x ∧ x ≤ n - 1) ∧ ∀ (j : Nat) y, j + 1 = m → l[j]? = some y → y < x)) ?_ fun t ht => .cond (fun h => .out ⟨rfl, ht.1 h⟩) fun h => .next ⟨fun j y hj hy => ?_, fun j y z hj hy hz => ?_⟩
  ·refine .bind (Ok.of rfl) fun b hb => ?_
   subst hb
   refine .cond (fun h => .ret ⟨fun _ ha => ?_, fun h => by cases h⟩) fun h => ?_
   ·have := ha.1 x (List.mem_of_getElem? hx)
    simp at h; omega
   ·have hr : 0 ≤ x ∧ x ≤ n - 1 := by simpa using h
    refine .cond (fun h0 => ?_) fun h0 => .ret ⟨(fun h => by cases h), fun _ => ⟨hr, fun j y hj hy => absurd (show (0 : Int) < (m : Int) by omega) (of_decide_eq_false h0)⟩⟩
    have hm0 : 0 < m := by simpa using h0
    refine .get (n := m - 1) (by omega) (by omega) (.ret ⟨fun h ha => ?_, fun h => ⟨hr, fun j y hj hy => ?_⟩⟩)
    ·have h1 : x ≤ l[m - 1] := by simpa using h
     have h2 := List.pairwise_iff_getElem.1 ha.2 (m - 1) m (by omega) hm (by omega)
     rw [List.getElem?_eq_getElem hm] at hx; cases hx
     omega
    ·have h1 : ¬ x ≤ l[m - 1] := by simpa using h
     have e : j = m - 1 := by omega
     subst e
     rw [List.getElem?_eq_getElem (by omega)] at hy; cases hy
     omega
  ·by_cases e : j = m
   ·subst e; rw [hx] at hy; cases hy; exact (ht.2 h).1
   ·exact hI j y (by omega) hy
  ·by_cases e : j + 1 = m
   ·subst e; rw [hx] at hz; cases hz; exact (ht.2 h).2 j y rfl hy
   ·exact hJ j y z (by omega) hy hz
 ·have h := hs.resolve_right id
  refine ⟨fun x hx => ?_, adj l fun j x y hx hy => h.2 j x y (List.getElem?_eq_some_iff.1 hy).1 hx hy⟩
  obtain ⟨j, hj⟩ := List.getElem?_of_mem hx
  exact h.1 j x (List.getElem?_eq_some_iff.1 hj).1 hj
end Go.Proofs.Ytjdpolnakhmkmaa
set_option linter.unusedVariables false
set_option linter.unusedSimpArgs false
namespace Go.Proofs.Ytjdpolnakhmkmaa
open Go Go.Proofs Go.Sep
theorem contains_eq (l : List Int) (v : Int) : m_slices_Contains_Sint_int l v = some (decide (v ∈ l)) := by
 unfold m_slices_Contains_Sint_int m_slices_Index_Sint_int
 refine (Ok.bind (P := fun z => decide (0 ≤ z) = decide (v ∈ l)) (Ok.forL (fun n _ => ∀ (j : Nat), j < n → l[j]? ≠ some v) (fun _ => False) (fun z => 0 ≤ z ∧ v ∈ l) (fun j hj => by omega) (fun n x s hx hI => ?_) (fun s hs => .ret ?_) (fun z hz => .ret ?_)) fun z hz => ⟨_, rfl, hz⟩).to
 ·refine .cond (fun h => .out ⟨by omega, ?_⟩) fun h => .next fun j hj hjv => ?_
  ·rw [of_decide_eq_true h]; exact List.mem_of_getElem? hx
  ·by_cases e : j = n
   ·subst e; rw [hx] at hjv; cases hjv; exact (of_decide_eq_false h) rfl
   ·exact hI j (by omega) hjv
 ·have h := hs.resolve_right id
  have : v ∉ l := fun hm => by
   obtain ⟨j, hj⟩ := List.getElem?_of_mem hm
   exact h j (List.getElem?_eq_some_iff.1 hj).1 hj
  simp [this]
 ·simp [hz.1, hz.2]
theorem l7Has_eq (l : List Int) (v : Int) : m_spec_l7Has l v = some (decide (v ∈ l)) := by
 unfold m_spec_l7Has
 refine Ok.to (.forL (fun n _ => ∀ (j : Nat), j < n → l[j]? ≠ some v) (fun _ => False) (fun z => z = true ∧ v ∈ l) (fun j hj => by omega) (fun n x s hx hI => ?_) (fun s hs => .ret ?_) (fun z hz => .ret ?_))
 ·refine .cond (fun h => .out ⟨rfl, ?_⟩) fun h => .next fun j hj hjv => ?_
  ·rw [← of_decide_eq_true h]; exact List.mem_of_getElem? hx
  ·by_cases e : j = n
   ·subst e; rw [hx] at hjv; cases hjv; exact (of_decide_eq_false h) rfl
   ·exact hI j (by omega) hjv
 ·have h := hs.resolve_right id
  have : v ∉ l := fun hm => by
   obtain ⟨j, hj⟩ := List.getElem?_of_mem hm
   exact h j (List.getElem?_eq_some_iff.1 hj).1 hj
  simp [this]
 ·simp [hz.1, hz.2]
theorem without_eq (a b : List Int) (ha : a.length ≤ 1048576) : m_impl_without a b = some (a.filter fun x => !decide (x ∈ b)) := by
 unfold m_impl_without
 refine Ok.to (.forS (fun n s => s = (a.take n).filter fun x => !decide (x ∈ b)) (by simp) (fun n x s hx hI => ?_) (fun s hI => .ret (by rw [hI, List.take_length])))
 have hn := (List.getElem?_eq_some_iff.1 hx).1
 have e : a.take (n + 1) = a.take n ++ [x] := by rw [List.take_add_one, hx]; rfl
 have hl := List.length_filter_le (fun x => !decide (x ∈ b)) (a.take n)
 rw [List.length_take] at hl
 subst hI
 refine .eq (contains_eq b x) (.cond (fun h => .app (by simp only [List.length_cons, List.length_nil]; omega) (.ret ?_)) fun h => .ret ?_)
 ·rw [e, List.filter_append, List.filter_cons_of_pos (by simpa using h), List.filter_nil]
 ·rw [e, List.filter_append, List.filter_cons_of_neg (by simpa using h), List.filter_nil, List.append_nil]
end Go.Proofs.Ytjdpolnakhmkmaa
set_option linter.unusedVariables false
set_option linter.unusedSimpArgs false
namespace Go.Proofs.Ytjdpolnakhmkmaa
open Go Go.Proofs Go.Sep
theorem impl_copyDatabase_eq {d : Database} (hd : DbS d) : m_impl_copyDatabase d = some d := by
 unfold m_impl_copyDatabase
 have hf := hd.2.1
 refine Ok.to (.app (by have := hd.1; simp; omega) ?_)
 refine .forS (fun n s => s = d.facts.take n) (by simp) (fun n x s hx hI => ?_) (fun s hI => .ret ?_)
 ·have hn := (List.getElem?_eq_some_iff.1 hx).1
  have hv := hd.2.2.2 _ (List.mem_of_getElem? hx)
  subst hI
  refine .app (by simp; omega) (.app (by simp; omega) (.ret ?_))
  rw [List.take_add_one, hx]; rfl
 ·rw [hI, List.take_length, List.nil_append]
def FirstAt (l : List Fact) (f : Fact) (k : Int) : Prop := (k = -1 ∧ ∀ (j : Nat), l[j]? ≠ some f) ∨ ∃ n : Nat, k = n ∧ l[n]? = some f ∧ ∀ (j : Nat), j < n → l[j]? ≠ some f
theorem FirstAt.uniq {l : List Fact} {f : Fact} {k k' : Int} (h : FirstAt l f k) (h' : FirstAt l f k') : k = k' := by
 rcases h with ⟨rfl, h⟩ | ⟨n, rfl, h1, h2⟩ <;> rcases h' with ⟨rfl, h'⟩ | ⟨m, rfl, h3, h4⟩
 ·rfl
 ·exact (h m h3).elim
 ·exact (h' n h1).elim
 ·rcases Nat.lt_trichotomy n m with g | g | g
  ·exact (h4 n g h1).elim
  ·rw [g]
  ·exact (h2 m g h3).elim
theorem impl_FactIndex_ok (d : Database) (f : Fact) : Ok (m_impl_FactIndex d f) (FirstAt d.facts f) := by
 unfold m_impl_FactIndex m_slices_IndexFunc_Simpl_Fact_impl_Fact m_impl_FactIndex_1
 refine .bind (P := FirstAt d.facts f) (.forL (fun n _ => ∀ (j : Nat), j < n → d.facts[j]? ≠ some f) (fun _ => False) (FirstAt d.facts f) (fun j hj => by omega) (fun n x s hx hI => ?_) (fun s hs => .ret (.inl ⟨rfl, fun j hj => ?_⟩)) (fun r hr => .ret hr)) fun r hr => .ret hr
 ·refine .bind (P := fun b => b = decide (cmpF x f = 0)) (.eq (impl_CompareFacts_eq x f) (.ret rfl)) fun b hb => ?_
  subst hb
  refine .cond (fun h => .out (.inr ⟨n, rfl, ?_, hI⟩)) fun h => .next fun j hj hjf => ?_
  ·rw [hx, (cmpF_zero x f).1 (of_decide_eq_true h)]
  ·by_cases e : j = n
   ·subst e; rw [hx] at hjf; cases hjf; exact (of_decide_eq_false h) ((cmpF_zero _ _).2 rfl)
   ·exact hI j (by omega) hjf
 ·exact (hs.resolve_right id) j (List.getElem?_eq_some_iff.1 hj).1 hj
theorem spec_FactIndex_ok {u : Nat} {d : Database} (hd : DbS d) {f : Fact} (hf : f.values.length ≤ 1048576) (hu : 1048577 < u) : Ok (m_spec_FactIndex u d f) (FirstAt d.facts f) := by
 unfold m_spec_FactIndex
 have hfl := hd.2.1
 refine .while (fun (i : Int) => ∃ n : Nat, i = (n : Int) ∧ n ≤ d.facts.length ∧ ∀ (j : Nat), j < n → d.facts[j]? ≠ some f) (fun i => d.facts.length - i.toNat) (fun _ => ∀ (j : Nat), d.facts[j]? ≠ some f) (FirstAt d.facts f) (by omega) ⟨0, rfl, by omega, by omega⟩ (fun i ⟨n, h1, h2, h3⟩ => ?_) (fun _ h => .ret (.inl ⟨rfl, h⟩)) (fun _ h => .ret h)
 subst h1
 refine .cond (fun h => ?_) fun h => .brk fun j hj => ?_
 ·have hlt : n < d.facts.length := by simpa using h
  have hv := hd.2.2.2 _ (List.getElem_mem hlt)
  refine .get rfl hlt (.eq (spec_CompareFacts_eq u _ f (by omega) hv hf) (.cond (fun h4 => .out (.inr ⟨n, rfl, ?_, h3⟩)) fun h4 => .next ⟨⟨n + 1, by rw [w64_id (by omega)]; simp, hlt, fun j hj hjf => ?_⟩, by rw [w64_id (by omega)]; omega⟩))
  ·rw [List.getElem?_eq_getElem hlt, (cmpF_zero _ f).1 (of_decide_eq_true h4)]
  ·by_cases e : j = n
   ·subst e; rw [List.getElem?_eq_getElem hlt] at hjf; cases hjf; exact (of_decide_eq_false h4) ((cmpF_zero _ _).2 rfl)
   ·exact h3 j (by omega) hjf
 ·have : ¬ n < d.facts.length := by simpa using h
  exact h3 j (by have := (List.getElem?_eq_some_iff.1 hj).1; omega) hj
def selF (d : Database) (L : List Nat) : List Fact := L.map fun j => d.facts.getD j default
theorem AscB_cast {n : Nat} {L : List Nat} (h1 : ∀ x ∈ L, x < n) (h2 : L.Pairwise (· < ·)) : AscB (n : Int) (castL L) := by
 refine ⟨fun x hx => ?_, ?_⟩
 ·simp only [castL, List.mem_map] at hx
  obtain ⟨j, hj, rfl⟩ := hx
  have := h1 j hj; omega
 ·simp only [castL, List.pairwise_map]
  exact h2.imp fun h => by omega
end Go.Proofs.Ytjdpolnakhmkmaa
set_option linter.unusedVariables false
set_option linter.unusedSimpArgs false
namespace Go.Proofs.Ytjdpolnakhmkmaa
open Go Go.Proofs Go.Sep
theorem cmpL_anti : ∀ a b : List Int, cmpL b a = - cmpL a b
 | [], [] => rfl
 | [], y :: b => by simp [cmpL]
 | x :: a, [] => by simp [cmpL]
 | x :: a, y :: b => by
  simp only [cmpL]
  rw [cmpL_anti a b]
  by_cases h1 : x < y
  ·rw [if_neg (by omega), if_pos h1, if_pos h1]; rfl
  ·by_cases h2 : y < x
   ·rw [if_pos h2, if_neg h1, if_pos h2]
   ·rw [if_neg h2, if_neg h1, if_neg h1, if_neg h2]
theorem cmpF_anti (a b : Fact) : cmpF b a = - cmpF a b := by
 unfold cmpF
 rw [cmpL_anti a.values b.values]
 by_cases h1 : a.relation < b.relation
 ·rw [if_neg (by omega), if_pos h1, if_pos h1]; rfl
 ·by_cases h2 : b.relation < a.relation
  ·rw [if_pos h2, if_neg h1, if_pos h2]
  ·rw [if_neg h2, if_neg h1, if_neg h1, if_neg h2]
theorem cmpF_lt_le {a b c : Fact} (h1 : cmpF a b < 0) (h2 : cmpF b c ≤ 0) : cmpF a c < 0 := by
 have h3 := cmpF_trans (Int.le_of_lt h1) h2
 by_cases e : cmpF a c = 0
 ·have := (cmpF_zero a c).1 e
  subst this
  have := cmpF_anti a b
  omega
 ·omega
theorem sorted_pw {d : Database} (hd : DbOK d) : d.facts.Pairwise fun f g => cmpF f g < 0 := by
 rw [List.pairwise_iff_getElem]
 intro i j hi hj hij
 have h1 := hd.sorted i _ _ (List.getElem?_eq_getElem hi) (List.getElem?_eq_getElem (show i + 1 < d.facts.length by omega))
 refine cmpF_lt_le h1 (sorted_le hd (j - (i + 1)) (i + 1) _ _ (List.getElem?_eq_getElem (show i + 1 < d.facts.length by omega)) ?_)
 rw [show i + 1 + (j - (i + 1)) = j by omega]
 exact List.getElem?_eq_getElem hj
structure Red (d x : Database) : Prop where
  rel : x.relations = d.relations
  sub : x.facts.Sublist d.facts
  keys : ∀ f ∈ d.facts, ∃ g ∈ x.facts, keyF d.relations g = keyF d.relations f
theorem Red.refl (d : Database) : Red d d := ⟨rfl, List.Sublist.refl _, fun f hf => ⟨f, hf, rfl⟩⟩
theorem Red.trans {a b c : Database} (h : Red a b) (k : Red b c) : Red a c := by
 refine ⟨k.rel.trans h.rel, k.sub.trans h.sub, fun f hf => ?_⟩
 obtain ⟨g, g1, g2⟩ := h.keys f hf
 obtain ⟨x, x1, x2⟩ := k.keys g g1
 rw [h.rel] at x2
 exact ⟨x, x1, x2.trans g2⟩
theorem Red.s {d x : Database} (h : Red d x) (hs : DbS d) : DbS x := ⟨by rw [h.rel]; exact hs.1, Nat.le_trans h.sub.length_le hs.2.1, by rw [h.rel]; exact hs.2.2.1, fun f hf => hs.2.2.2 f (h.sub.mem hf)⟩
theorem Red.ok {d x : Database} (h : Red d x) (hd : DbOK d) : DbOK x := by
 have hp := (sorted_pw hd).sublist h.sub
 refine ⟨by rw [h.rel]; exact hd.rels, Nat.le_trans h.sub.length_le hd.few, fun n f hf => ?_, fun n f g hf hg => ?_⟩
 ·obtain ⟨j, hj⟩ := List.getElem?_of_mem (h.sub.mem (List.mem_of_getElem? hf))
  rw [h.rel]; exact hd.fact j f hj
 ·rw [List.pairwise_iff_getElem] at hp
  obtain ⟨h1, rfl⟩ := List.getElem?_eq_some_iff.1 hf
  obtain ⟨h2, rfl⟩ := List.getElem?_eq_some_iff.1 hg
  exact hp n (n + 1) h1 h2 (by omega)
theorem range_facts (l : List Fact) : l = (List.range l.length).map fun j => l.getD j default := by
 apply List.ext_getElem
 ·simp
 ·intro i h1 h2; simp [h1]
end Go.Proofs.Ytjdpolnakhmkmaa
set_option linter.unusedVariables false
set_option linter.unusedSimpArgs false
namespace Go.Proofs.Ytjdpolnakhmkmaa
open Go Go.Proofs Go.Sep
theorem impl_Blocks_eq {d : Database} (hd : DbOK d) : m_impl_Blocks d = some (blocksOf d) := by
 unfold m_impl_Blocks
 obtain ⟨b, h1, h2⟩ := impl_IsValidDatabase_eq d
 have hb : b = true := h2.2 hd
 subst hb
 exact Ok.to (.eq h1 (.cf rfl (.eq (impl_blocks_eq hd) (.ret rfl))))
theorem mem_castL {L : List Nat} {k : Nat} : (k : Int) ∈ castL L ↔ k ∈ L := by
 simp only [castL, List.mem_map]
 constructor
 ·rintro ⟨j, hj, e⟩
  have : j = k := by omega
  subst this; exact hj
 ·intro h; exact ⟨k, h, rfl⟩
theorem impl_BlockOf_eq {d : Database} (hd : DbOK d) {k : Nat} (hk : k < d.facts.length) : m_impl_BlockOf d (k : Int) = some (castL (blkN (keyN d) d.facts.length k)) := by
 unfold m_impl_BlockOf
 refine Ok.to (.eq (impl_Blocks_eq hd) (.forL (fun n _ => ∀ (j : Nat) b, j < n → (blocksOf d)[j]? = some b → (k : Int) ∉ b) (fun _ => False) (fun r => r = castL (blkN (keyN d) d.facts.length k)) (fun j b hj => by omega) (fun n b s hb hI => ?_) (fun s hs => ?_) (fun r hr => .ret hr)))
 ·refine .eq (contains_eq b _) (.cond (fun h => .out ?_) fun h => .next fun j b' hj hb' => ?_)
  ·have hm := of_decide_eq_true h
   obtain ⟨i, h1, h2, rfl⟩ := mem_blocksOf (List.mem_of_getElem? hb)
   have hm' := mem_castL.1 hm
   simp only [blkN, List.mem_filter, List.mem_range, decide_eq_true_eq] at hm'
   simp only [blkN, hm'.2]
  ·by_cases e : j = n
   ·subst e; rw [hb] at hb'; cases hb'; exact of_decide_eq_false h
   ·exact hI j b' (by omega) hb'
 ·have h := hs.resolve_right id
  obtain ⟨i, h1, h2, h3⟩ := exists_first (K := keyN d) (i := k)
  have hb : castL (blkN (keyN d) d.facts.length i) ∈ blocksOf d := by
   simp only [blocksOf, castB, BlN, List.map_map, List.mem_map]
   exact ⟨i, mem_firsts.2 ⟨by omega, h3⟩, rfl⟩
  obtain ⟨j, hj⟩ := List.getElem?_of_mem hb
  refine (h j _ (List.getElem?_eq_some_iff.1 hj).1 hj ?_).elim
  refine mem_castL.2 ?_
  simp only [blkN, List.mem_filter, List.mem_range, decide_eq_true_eq]
  exact ⟨hk, h2.symm⟩
theorem selF_get {d : Database} {L : List Nat} {n : Nat} (h1 : ∀ x ∈ L, x < d.facts.length) {x : Int} (hx : (castL L)[n]? = some x) : ∃ (j : Nat) (hj : j < d.facts.length), x = (j : Int) ∧ selF d (L.take (n + 1)) = selF d (L.take n) ++ [d.facts[j]] := by
 simp only [castL, List.getElem?_map, Option.map_eq_some_iff] at hx
 obtain ⟨j, hj, rfl⟩ := hx
 have hlt := h1 j (List.mem_of_getElem? hj)
 refine ⟨j, hlt, rfl, ?_⟩
 rw [List.take_add_one, hj]
 simp [selF, hlt]
theorem selF_len (d : Database) (L : List Nat) : (selF d L).length = L.length := by simp [selF]
theorem impl_SelectFacts_eq {d : Database} (hd : DbOK d) (hs : DbS d) {L : List Nat} (h1 : ∀ x ∈ L, x < d.facts.length) (h2 : L.Pairwise (· < ·)) (h3 : L.length ≤ d.facts.length) : m_impl_SelectFacts d (castL L) = some (⟨d.relations, selF d L⟩, true) := by
 unfold m_impl_SelectFacts
 obtain ⟨b, g1, g2⟩ := impl_IsValidDatabase_eq d
 have hb : b = true := g2.2 hd
 subst hb
 have hf := hs.2.1
 refine Ok.to (.bind (P := fun t => t = false) (.eq g1 (.cf rfl (.bind (areIndices_iff (castL L) _ (by omega) (by omega)) fun b hb => .ret ?_))) fun t ht => .cf ht (.eq (impl_copyDatabase_eq hs) (.forS (fun n s => s = selF d (L.take n)) (by simp [selF]) (fun n x s hx hI => ?_) (fun s hI => .ret ?_))))
 ·rw [hb.2 (AscB_cast h1 h2)]; rfl
 ·obtain ⟨j, hj, rfl, e⟩ := selF_get h1 hx
  have hl : (selF d (L.take n)).length ≤ L.length := by rw [selF_len, List.length_take]; omega
  subst hI
  exact .get rfl hj (.app (by simp only [List.length_cons, List.length_nil]; omega) (.ret e.symm))
 ·rw [hI, castL_len, List.take_length]
theorem spec_SelectFacts_eq {u : Nat} {d : Database} (hd : DbOK d) (hs : DbS d) (hu : 1048577 < u) {L : List Nat} (h1 : ∀ x ∈ L, x < d.facts.length) (h2 : L.Pairwise (· < ·)) (h3 : L.length ≤ d.facts.length) : m_spec_SelectFacts u d (castL L) = some (⟨d.relations, selF d L⟩, true) := by
 unfold m_spec_SelectFacts
 have hf := hs.2.1
 refine Ok.to (.bind (P := fun t => t = false) (.eq (spec_valid hd hs hu) (.cf rfl (.bind (P := fun b => b = true) ?_ fun b hb => .ret (by rw [hb]; rfl)))) fun t ht => .cf ht (.app (by have := hs.1; simp; omega) (.forS (fun n s => s = selF d (L.take n)) (by simp [selF]) (fun n x s hx hI => ?_) (fun s hI => .ret ?_))))
 ·rw [l4Set_eq d (castL L) hf]
  exact (areIndices_iff (castL L) _ (by omega) (by omega)).mono fun b hb => hb.2 (AscB_cast h1 h2)
 ·obtain ⟨j, hj, rfl, e⟩ := selF_get h1 hx
  have hl : (selF d (L.take n)).length ≤ L.length := by rw [selF_len, List.length_take]; omega
  have hv := hs.2.2.2 _ (List.getElem_mem hj)
  subst hI
  exact .get rfl hj (.app (by simp; omega) (.app (by simp only [List.length_cons, List.length_nil]; omega) (.ret e.symm)))
 ·rw [hI, castL_len, List.take_length, List.nil_append]
def keepN (d : Database) (k : Nat) : List Nat := (List.range d.facts.length).filter fun j => decide (j = k ∨ keyN d j ≠ keyN d k)
theorem keepN_lt {d : Database} {k : Nat} : ∀ x ∈ keepN d k, x < d.facts.length := fun x hx => by
 simp only [keepN, List.mem_filter, List.mem_range] at hx; exact hx.1
theorem keepN_asc {d : Database} {k : Nat} : (keepN d k).Pairwise (· < ·) := List.Pairwise.filter _ List.pairwise_lt_range
theorem keepN_len {d : Database} {k : Nat} : (keepN d k).length ≤ d.facts.length := by
 have := List.length_filter_le (fun j => decide (j = k ∨ keyN d j ≠ keyN d k)) (List.range d.facts.length)
 rwa [List.length_range] at this
theorem castL_filter (L : List Nat) (p : Int → Bool) : (castL L).filter p = castL (L.filter fun j => p (j : Int)) := by
 simp only [castL, List.filter_map]; rfl
theorem red_keep {d : Database} {k : Nat} (hk : k < d.facts.length) : Red d ⟨d.relations, selF d (keepN d k)⟩ := by
 refine ⟨rfl, ?_, fun f hf => ?_⟩
 ·show (selF d (keepN d k)).Sublist d.facts
  conv => rhs; rw [range_facts d.facts]
  exact List.Sublist.map _ List.filter_sublist
 ·obtain ⟨j, hj, rfl⟩ := List.getElem_of_mem hf
  have key : ∀ i, i < d.facts.length → i ∈ keepN d k → keyN d i = keyN d j → ∃ g ∈ selF d (keepN d k), keyF d.relations g = keyF d.relations d.facts[j] := fun i hi h1 h2 => by
   refine ⟨d.facts.getD i default, List.mem_map.2 ⟨i, h1, rfl⟩, ?_⟩
   rw [← keyN_at hj, ← h2]; rfl
  by_cases e : keyN d j = keyN d k
  ·exact key k hk (by simp [keepN, hk]) e.symm
  ·exact key j hj (by simp [keepN, hj, e]) rfl
theorem impl_withoutFacts_eq {d : Database} (hd : DbOK d) (hs : DbS d) {k : Nat} (hk : k < d.facts.length) : m_impl_withoutFacts d ((castL (blkN (keyN d) d.facts.length k)).filter fun x => !decide (x ∈ [(k : Int)])) = some ⟨d.relations, selF d (keepN d k)⟩ := by
 unfold m_impl_withoutFacts
 have hf := hs.2.1
 refine Ok.to (.gN (by omega) (.forM (fun n s => s = castL (List.range n)) rfl (fun n s hn hI => ?_) (fun s hI => ?_)))
 ·subst hI
  refine .app (by simp [castL]; omega) (.ret ?_)
  simp [castL, List.range_succ]
 ·subst hI
  refine .eq (without_eq _ _ (by rw [castL_len, List.length_range]; omega)) ?_
  have e : (castL (List.range d.facts.length)).filter (fun x => !decide (x ∈ (castL (blkN (keyN d) d.facts.length k)).filter fun x => !decide (x ∈ [(k : Int)]))) = castL (keepN d k) := by
   rw [castL_filter]
   unfold keepN
   congr 1
   apply List.filter_congr
   intro j hj
   have hj' := List.mem_range.1 hj
   have h1 : ((j : Int) ∈ (castL (blkN (keyN d) d.facts.length k)).filter fun x => !decide (x ∈ [(k : Int)])) ↔ ¬ (j = k ∨ keyN d j ≠ keyN d k) := by
    rw [List.mem_filter, mem_castL]
    simp only [blkN, List.mem_filter, List.mem_range, decide_eq_true_eq, List.mem_singleton, Bool.not_eq_true', decide_eq_false_iff_not]
    constructor
    ·rintro ⟨⟨_, h⟩, h2⟩ (h3 | h3)
     ·exact h2 (by omega)
     ·exact h3 h
    ·intro h
     refine ⟨⟨hj', Classical.byContradiction fun h2 => h (.inr h2)⟩, fun h2 => h (.inl (by omega))⟩
   by_cases h2 : j = k ∨ keyN d j ≠ keyN d k
   ·rw [decide_eq_true h2, decide_eq_false (fun h => h1.1 h h2)]; rfl
   ·rw [decide_eq_false h2, decide_eq_true (h1.2 h2)]; rfl
  rw [e]
  exact .eq (impl_SelectFacts_eq hd hs keepN_lt keepN_asc keepN_len) (.ret rfl)
theorem resolve_ok {u : Nat} {d : Database} (hs : DbS d) {f : Fact} (hf : f.values.length ≤ 1048576) (hu : 1048577 < u) : ∃ y b, m_impl_ResolveConflict d f = some (y, b) ∧ m_spec_ResolveConflict u d f = some (y, b) ∧ (b = false → y = d) ∧ DbS y ∧ (DbOK d → DbOK y ∧ Red d y) := by
 obtain ⟨k, hk1, hk⟩ := impl_FactIndex_ok d f
 obtain ⟨k', hk1', hk'⟩ := spec_FactIndex_ok hs hf hu
 have e := hk'.uniq hk
 subst e
 obtain ⟨b, g1, g2⟩ := impl_IsValidDatabase_eq d
 obtain ⟨b', g3, g4⟩ := spec_IsValidDatabase_eq u d hs hu
 have hno : (m_impl_ContainsFact d f = some false) → (m_spec_ContainsFact u d f = some false) → ∃ y b, m_impl_ResolveConflict d f = some (y, b) ∧ m_spec_ResolveConflict u d f = some (y, b) ∧ (b = false → y = d) ∧ DbS y ∧ (DbOK d → DbOK y ∧ Red d y) := fun h1 h2 => by
  refine ⟨d, false, ?_, ?_, fun _ => rfl, hs, fun h => ⟨h, Red.refl d⟩⟩
  ·unfold m_impl_ResolveConflict
   exact Ok.to (.eq h1 (.ct rfl (.eq (impl_copyDatabase_eq hs) (.ret rfl))))
  ·unfold m_spec_ResolveConflict
   exact Ok.to (.eq h2 (.ct rfl (.eq (l4Copy_eq hs hu) (.ret rfl))))
 by_cases hd : DbOK d
 ·have e1 : b = true := g2.2 hd
  have e2 : b' = true := g4.2 hd
  subst e1 e2
  have c1 : m_impl_ContainsFact d f = some (decide (0 ≤ k')) := by
   unfold m_impl_ContainsFact
   exact Ok.to (.bind (P := fun t => t = decide (0 ≤ k')) (.eq g1 (.ct rfl (.eq hk1 (.ret rfl)))) fun t ht => .ret ht)
  have c2 : m_spec_ContainsFact u d f = some (decide (0 ≤ k')) := by
   unfold m_spec_ContainsFact
   exact Ok.to (.bind (P := fun t => t = decide (0 ≤ k')) (.eq g3 (.ct rfl (.eq hk1' (.ret rfl)))) fun t ht => .ret ht)
  rcases hk with ⟨rfl, _⟩ | ⟨k, rfl, hkf, _⟩
  ·exact hno c1 c2
  ·have hlt : k < d.facts.length := (List.getElem?_eq_some_iff.1 hkf).1
   have hfl := hs.2.1
   have hR := red_keep hlt
   refine ⟨⟨d.relations, selF d (keepN d k)⟩, true, ?_, ?_, fun h => (by cases h), hR.s hs, fun h => ⟨hR.ok h, hR⟩⟩
   ·unfold m_impl_ResolveConflict
    refine Ok.to (.eq c1 (.cf (by simp) (.eq hk1 (.eq (impl_BlockOf_eq hd hlt) (.eq (without_eq _ _ ?_) (.eq (impl_withoutFacts_eq hd hs hlt) (.ret rfl)))))))
    rw [castL_len]
    have := List.length_filter_le (fun j => decide (keyN d j = keyN d k)) (List.range d.facts.length)
    rw [List.length_range] at this
    exact Nat.le_trans this hfl
   ·unfold m_spec_ResolveConflict
    refine Ok.to (.eq c2 (.cf (by simp) (.eq hk1' (.eq (spec_BlockOf_eq hd hs hu hlt) (.while (fun (s : List Int × Int) => ∃ n : Nat, s.2 = (n : Int) ∧ n ≤ d.facts.length ∧ s.1 = castL ((List.range n).filter fun j => decide (j = k ∨ keyN d j ≠ keyN d k))) (fun (s : List Int × Int) => d.facts.length - s.2.toNat) (fun (s : List Int × Int) => s.1 = castL (keepN d k)) (fun _ => False) (by simp only; omega) ⟨0, rfl, by omega, rfl⟩ (fun ⟨l, i⟩ ⟨n, h1, h2, h3⟩ => ?_) (fun ⟨l, i⟩ h => ?_) (fun _ h => h.elim))))))
    ·simp only at h1 h3
     subst h1 h3
     simp only
     refine .cond (fun h => ?_) fun h => .brk ?_
     ·have hn : n < d.facts.length := by simpa using h
      have hll : (castL ((List.range n).filter fun j => decide (j = k ∨ keyN d j ≠ keyN d k))).length ≤ n := by
       rw [castL_len]
       have := List.length_filter_le (fun j => decide (j = k ∨ keyN d j ≠ keyN d k)) (List.range n)
       rwa [List.length_range] at this
      refine .bind (P := fun t => t = decide (n = k ∨ keyN d n ≠ keyN d k)) (.cond (fun h4 => .ret ?_) fun h4 => .eq (l7Has_eq _ _) (.ret ?_)) fun t ht => ?_
      ·have : n = k := by have := of_decide_eq_true h4; omega
       simp [this]
      ·have h5 : n ≠ k := by have := of_decide_eq_false h4; omega
       have h6 : ((n : Int) ∈ castL (blkN (keyN d) d.facts.length k)) ↔ keyN d n = keyN d k := by
        rw [mem_castL]
        simp [blkN, hn]
       by_cases h7 : keyN d n = keyN d k
       ·rw [decide_eq_true (h6.2 h7)]; simp [h5, h7]
       ·rw [decide_eq_false (fun h => h7 (h6.1 h))]; simp [h7]
      ·subst ht
       refine .cond (fun h8 => .app (by simp only [List.length_cons, List.length_nil]; omega) (.next ⟨⟨n + 1, by simp only; rw [w64_id (by omega)]; simp, hn, ?_⟩, by simp only; rw [w64_id (by omega)]; omega⟩)) fun h8 => .next ⟨⟨n + 1, by simp only; rw [w64_id (by omega)]; simp, hn, ?_⟩, by simp only; rw [w64_id (by omega)]; omega⟩
       ·simp only
        rw [List.range_succ, List.filter_append, List.filter_cons_of_pos (by simpa using h8), List.filter_nil]
        simp [castL]
       ·simp only
        rw [List.range_succ, List.filter_append, List.filter_cons_of_neg (by rw [h8]; decide), List.filter_nil, List.append_nil]
     ·have : n = d.facts.length := by have := of_decide_eq_false h; omega
      subst this; rfl
    ·simp only at h
     subst h
     exact .eq (spec_SelectFacts_eq hd hs hu keepN_lt keepN_asc keepN_len) (.ret rfl)
 ·have e1 : b = false := by cases b with | false => rfl | true => exact (hd (g2.1 rfl)).elim
  have e2 : b' = false := by cases b' with | false => rfl | true => exact (hd (g4.1 rfl)).elim
  subst e1 e2
  refine hno ?_ ?_
  ·unfold m_impl_ContainsFact
   exact Ok.to (.bind (P := fun t => t = false) (.eq g1 (.cf rfl (.ret rfl))) fun t ht => .ret ht)
  ·unfold m_spec_ContainsFact
   exact Ok.to (.bind (P := fun t => t = false) (.eq g3 (.cf rfl (.ret rfl))) fun t ht => .ret ht)
end Go.Proofs.Ytjdpolnakhmkmaa
set_option linter.unusedVariables false
set_option linter.unusedSimpArgs false
namespace Go.Proofs.Ytjdpolnakhmkmaa
open Go Go.Proofs Go.Sep
def marks (k : Int) (n : Nat) : List Int := (List.range n).map fun (i : Nat) => k + (i : Int)
theorem marks_len (k : Int) (n : Nat) : (marks k n).length = n := by simp [marks]
theorem marks_get (k : Int) (n i : Nat) (h : i < n) : (marks k n)[i]? = some (k + i) := by simp [marks, h]
theorem markIntS_eq (a : List Int) (k : Int) (h0 : 0 ≤ k) (h1 : k + a.length ≤ 4611686018427387904) : m_laws_markIntS a k = some (k + a.length, marks k a.length) := by
 unfold m_laws_markIntS
 obtain ⟨s, h2, h3⟩ := forM_ok (m := a.length) (s := (a, k)) (f := fun (i_1 : Int) (⟨a0m, k1⟩ : (List Int) × Int) => (getI a0m (i_1 : Int)).bind fun v_3 => some ((a0m.set ((i_1 : Int)).toNat k1), (w64 (k1 + 1))))
  (fun n s => s.2 = k + n ∧ s.1.length = a.length ∧ ∀ j, j < n → s.1[j]? = some (k + (j : Int))) ⟨by simp, rfl, fun j hj => by omega⟩ fun n s hn ⟨hk, hl, hI⟩ => by
   obtain ⟨xs, c⟩ := s
   simp only at hk hl hI
   refine ⟨(xs.set n c, c + 1), ?_, by simp only; omega, by simpa using hl, fun j hj => ?_⟩
   ·show ((getI xs (n : Int)).bind fun v_3 => some ((xs.set (n : Int).toNat c), (w64 (c + 1)))) = _
    rw [getI_lt (by omega), Option.bind_some, w64_id (by omega)]; rfl
   ·simp only
    by_cases e : n = j
    ·subst e; rw [List.getElem?_set_self (by omega), hk]
    ·rw [List.getElem?_set_ne e]; exact hI j (by omega)
 rw [h2, Option.bind_some]
 obtain ⟨xs, c⟩ := s
 obtain ⟨hk, hl, hI⟩ := h3
 simp only at hk hl hI
 show some (c, xs) = _
 rw [hk]
 congr 2
 apply List.ext_getElem?
 intro j
 by_cases hj : j < a.length
 ·rw [hI j hj, marks_get _ _ _ hj]
 ·rw [List.getElem?_eq_none (by omega), List.getElem?_eq_none (by rw [marks_len]; omega)]
theorem heldIntS_eq (k : Int) (n : Nat) (h0 : 0 ≤ k) (h1 : k + n ≤ 4611686018427387904) : m_laws_heldIntS (marks k n) k = some (k + n) := by
 unfold m_laws_heldIntS
 obtain ⟨o, h2, h3⟩ := forL_ok (xs := marks k n) (s := k) (f := fun (i_1 : Int) (x_i_1 : Int) (k1 : Int) => cond (decide (x_i_1 ≠ k1)) (some (.ret (-1))) (some (.next (w64 (k1 + 1)))))
  (fun j s => s = k + j) (fun _ => False) (fun (_ : Int) => False) (by simp) fun j x s hx hI => by
   have hj : j < n := by have := (List.getElem?_eq_some_iff.1 hx).1; rwa [marks_len] at this
   rw [marks_get _ _ _ hj] at hx
   cases hx
   refine ⟨.next (s + 1), ?_, by simp only [CtlP]; omega⟩
   rw [cond_F' (by simp [hI]), w64_id (by omega)]
 rw [h2, Option.bind_some]
 cases o with
 | inl s => have := h3.resolve_right id; rw [marks_len] at this; simp only [onS, this]
 | inr r => exact h3.elim
end Go.Proofs.Ytjdpolnakhmkmaa
set_option linter.unusedVariables false
set_option linter.unusedSimpArgs false
namespace Go.Proofs.Ytjdpolnakhmkmaa
open Go Go.Proofs Go.Sep
theorem strOf_one (z : Int) : (strOf [z]).size = 1 := by simp [strOf, ByteArray.size_push]
theorem markText_ok {u : Nat} (hu : 1048577 < u) {k : Int} (h0 : 0 ≤ k) (h1 : k ≤ 4611686018427387904) : Ok (m_laws_markText u k) fun _ => True := by
 unfold m_laws_markText
 refine .cond (fun _ => .ret trivial) fun _ => ?_
 refine .while (fun (s : Int × ByteArray) => ∃ m n : Nat, s.1 = (m : Int) ∧ m < 10 ^ n ∧ s.2.size + n ≤ 25 ∧ m ≤ 4611686018427387904) (fun (s : Int × ByteArray) => 25 - s.2.size) (fun (s : Int × ByteArray) => s.2.size ≤ 25) (fun _ => False) (by omega) ⟨k.toNat, 25, by simp only; omega, by have : (10 : Nat) ^ 25 = 10000000000000000000000000 := rfl; omega, Nat.le_refl 25, by omega⟩ (fun ⟨k, out⟩ ⟨m, n, g1, g2, g3, g4⟩ => ?_) (fun ⟨k, out⟩ h => ?_) (fun _ h => h.elim)
 ·simp only at g1 g3
  subst g1
  refine .cond (fun h => ?_) fun h => .brk (by simp only; omega)
  have hm : 0 < m := by have := of_decide_eq_true h; omega
  have hn : 0 < n := by
   rcases Nat.eq_zero_or_pos n with e | e
   ·subst e; simp at g2; omega
   ·exact e
  have hsz : (strOf [IntKind.wrap .u8 (w64 (48 + (m : Int).tmod 10))] ++ out).size = out.size + 1 := by
   rw [ByteArray.size_append, strOf_one]; omega
  refine .eq (catS_ok (by rw [strOf_one]; omega)) (.next ⟨⟨m / 10, n - 1, ?_, ?_, by simp only; rw [hsz]; omega, by omega⟩, by simp only; rw [hsz]; omega⟩)
  ·have e : (m : Int).tdiv 10 = ((m / 10 : Nat) : Int) := by rw [Int.tdiv_eq_ediv_of_nonneg (by omega)]; rfl
   simp only
   rw [e, w64_id (by omega)]
  ·have e : 10 ^ n = 10 * 10 ^ (n - 1) := by rw [← Nat.pow_succ', show (n - 1).succ = n by omega]
   rw [e] at g2
   exact Nat.div_lt_of_lt_mul g2
 ·simp only at h
  exact .eq (catS_ok (by show 1 + out.size ≤ _; omega)) (.ret trivial)
end Go.Proofs.Ytjdpolnakhmkmaa
set_option linter.unusedVariables false
set_option linter.unusedSimpArgs false
namespace Go.Proofs.Ytjdpolnakhmkmaa
open Go Go.Proofs Go.Sep
def relMark (u : Nat) (c : Int) : Relation := { name := (m_laws_markText u c).getD ByteArray.empty, arity := c + 1, keyLength := c + 2 }
theorem markText_some {u : Nat} (hu : 1048577 < u) {k : Int} (h0 : 0 ≤ k) (h1 : k ≤ 4611686018427387904) : m_laws_markText u k = some (relMark u k).name := by
 obtain ⟨r, h2, _⟩ := markText_ok hu h0 h1
 rw [h2]; simp only [relMark, h2, Option.getD_some]
theorem markRelationS_held {u : Nat} (hu : 1048577 < u) {a : List Relation} (ha : a.length ≤ 1048576) {k : Int} (h0 : 0 ≤ k) (h1 : k ≤ 1125899906842624) : Ok (m_laws_markRelationS u a k) fun r => r.1 = k + 3 * a.length ∧ m_laws_heldRelationS u r.2 k = some (k + 3 * a.length) := by
 unfold m_laws_markRelationS
 refine .forM (m := a.length) (fun n s => s.1.length = a.length ∧ s.2 = k + 3 * (n : Int) ∧ ∀ j, j < n → s.1[j]? = some (relMark u (k + 3 * (j : Int)))) ⟨rfl, by simp, fun j hj => by omega⟩ (fun n s hn hI => ?_) (fun s hI => ?_)
 ·obtain ⟨xs, c⟩ := s
  obtain ⟨hl, hc, hj⟩ := hI
  simp only at hl hc hj ⊢
  have hx : n < xs.length := by omega
  refine .eq (markText_some hu (by omega) (by omega)) (.get rfl hx ?_)
  simp only [Int.toNat_natCast]
  refine .get rfl (by simpa using hx) (.get rfl (by simpa using hx) (.ret ⟨by simpa using hl, ?_, fun j hjn => ?_⟩))
  ·simp only
   rw [w64_id (x := c + 1) (by omega), w64_id (x := c + 1 + 1) (by omega), w64_id (by omega)]
   omega
  ·simp only [List.set_set, List.getElem_set_self]
   by_cases e : n = j
   ·subst e
    rw [List.getElem?_set_self (by omega)]
    subst hc
    rw [w64_id (x := _ + 1) (by omega), w64_id (by omega)]
    simp only [relMark]
    congr 2
    omega
   ·rw [List.getElem?_set_ne e]; exact hj j (by omega)
 ·obtain ⟨xs, c⟩ := s
  obtain ⟨hl, hc, hj⟩ := hI
  simp only at hl hc hj ⊢
  refine .ret ⟨by simp only; omega, ?_⟩
  show m_laws_heldRelationS u xs k = _
  unfold m_laws_heldRelationS
  refine Ok.to (.forL (fun n s => s = k + 3 * (n : Int)) (fun _ => False) (fun _ => False) (by simp) (fun n x s hx hI => ?_) (fun s hs => .ret (by have := hs.resolve_right id; rw [this, hl])) (fun r hr => hr.elim))
  have hn : n < a.length := by have := (List.getElem?_eq_some_iff.1 hx).1; omega
  rw [hj n hn] at hx
  cases hx
  subst hI
  refine .eq (markText_some hu (by omega) (by omega)) (.cf (by simp) (.cf ?_ (.cf ?_ (.next ?_))))
  ·rw [w64_id (by omega)]; simp [relMark]
  ·rw [w64_id (x := k + 3 * (n : Int) + 1) (by omega), w64_id (by omega)]; have e : k + 3 * (n : Int) + 2 = k + 3 * (n : Int) + 1 + 1 := by omega
   simp [relMark, e]
  ·rw [w64_id (x := k + 3 * (n : Int) + 1) (by omega), w64_id (x := k + 3 * (n : Int) + 1 + 1) (by omega), w64_id (by omega)]; omega
def factOff (a : List Fact) (n : Nat) : Nat := ((a.take n).map fun f => 1 + f.values.length).sum
theorem factOff_succ {a : List Fact} {n : Nat} {f : Fact} (h : a[n]? = some f) : factOff a (n + 1) = factOff a n + (1 + f.values.length) := by
 obtain ⟨hn, rfl⟩ := List.getElem?_eq_some_iff.1 h
 unfold factOff
 rw [List.take_succ_eq_append_getElem hn, List.map_append, List.sum_append]
 simp
theorem factOff_le {a : List Fact} (hv : ∀ f ∈ a, f.values.length ≤ 1048576) : ∀ n, n ≤ a.length → factOff a n ≤ 1048577 * n
 | 0, _ => by simp [factOff]
 | n + 1, h => by
  have hn : n < a.length := by omega
  have h1 := factOff_le hv n (by omega)
  rw [factOff_succ (List.getElem?_eq_getElem hn)]
  have := hv _ (List.getElem_mem hn)
  omega
def factMark (c : Int) (f : Fact) : Fact := { relation := c, values := marks (c + 1) f.values.length }
theorem markFactS_held {a : List Fact} (ha : a.length ≤ 1048576) (hv : ∀ f ∈ a, f.values.length ≤ 1048576) {k : Int} (h0 : 0 ≤ k) (h1 : k ≤ 1125899906842624) : Ok (m_laws_markFactS a k) fun r => r.1 = k + factOff a a.length ∧ m_laws_heldFactS r.2 k = some (k + factOff a a.length) := by
 have hle := factOff_le hv
 have hlt : ∀ n, n < a.length → k + factOff a n + 1 + 1048576 ≤ 1152921504606846976 := fun n hn => by have := hle n (by omega); omega
 unfold m_laws_markFactS
 refine .forM (m := a.length) (fun n s => s.1.length = a.length ∧ s.2 = k + factOff a n ∧ (∀ j f, j < n → a[j]? = some f → s.1[j]? = some (factMark (k + factOff a j) f)) ∧ ∀ j, n ≤ j → s.1[j]? = a[j]?) ⟨rfl, by simp [factOff], fun j f hj => by omega, fun j _ => rfl⟩ (fun n s hn hI => ?_) (fun s hI => ?_)
 ·obtain ⟨xs, c⟩ := s
  obtain ⟨hl, hc, hj, hr⟩ := hI
  simp only at hl hc hj hr ⊢
  have hx : n < xs.length := by omega
  have hxa : a[n]? = some xs[n] := by rw [← hr n (Nat.le_refl _)]; exact List.getElem?_eq_getElem hx
  have hxv := hv _ (List.mem_of_getElem? hxa)
  have hb := hlt n hn
  refine .get rfl hx ?_
  simp only [Int.toNat_natCast]
  refine .get rfl (by simpa using hx) ?_
  rw [List.getElem_set_self, w64_id (by omega)]
  simp only
  refine .eq (markIntS_eq _ _ (by omega) (by omega)) (.ret ⟨by simpa using hl, ?_, fun j f hjn hf => ?_, fun j hjn => ?_⟩)
  ·simp only; rw [factOff_succ hxa]; omega
  ·simp only [List.set_set]
   by_cases e : n = j
   ·subst e
    rw [List.getElem?_set_self (by omega)]
    rw [hxa] at hf
    cases hf
    simp only [factMark, hc]
   ·rw [List.getElem?_set_ne e]; exact hj j f (by omega) hf
  ·simp only [List.set_set]
   rw [List.getElem?_set_ne (by omega)]; exact hr j (by omega)
 ·obtain ⟨xs, c⟩ := s
  obtain ⟨hl, hc, hj, hr⟩ := hI
  simp only at hl hc hj hr ⊢
  refine .ret ⟨hc, ?_⟩
  show m_laws_heldFactS xs k = _
  unfold m_laws_heldFactS
  refine Ok.to (.forL (fun n s => s = k + factOff a n) (fun _ => False) (fun _ => False) (by simp [factOff]) (fun n x s hx hI => ?_) (fun s hs => .ret (by have := hs.resolve_right id; rw [this, hl])) (fun r hr => hr.elim))
  have hn : n < a.length := by have := (List.getElem?_eq_some_iff.1 hx).1; omega
  rw [hj n _ hn (List.getElem?_eq_getElem hn)] at hx
  cases hx
  subst hI
  have hb := hlt n hn
  have hxv := hv _ (List.getElem_mem hn)
  refine .cf (by simp [factMark]) ?_
  rw [w64_id (by omega)]
  refine .eq (heldIntS_eq _ _ (by omega) (by omega)) (.cf (decide_eq_false (by omega)) (.next ?_))
  rw [factOff_succ (List.getElem?_eq_getElem hn)]; omega
theorem markDatabase_held {u : Nat} (hu : 1048577 < u) {d : Database} (hd : DbS d) : Ok (m_laws_markDatabase u d 1) fun r => (0 ≤ r.1 ∧ r.1 ≤ 1125899906842624) ∧ m_laws_heldDatabase u r.2 1 = some r.1 := by
 have hle := factOff_le hd.2.2.2 d.facts.length (Nat.le_refl _)
 have h1 := hd.1
 have h2 := hd.2.1
 unfold m_laws_markDatabase
 refine .bind (markRelationS_held hu hd.1 (by omega) (by omega)) fun r hr => .bind (markFactS_held hd.2.1 hd.2.2.2 (by omega) (by omega)) fun r' hr' => .ret ⟨⟨by simp only; omega, by simp only; omega⟩, ?_⟩
 unfold m_laws_heldDatabase
 refine Ok.to (.eq hr.2 (.cf (decide_eq_false (by omega)) ?_))
 rw [← hr.1]
 exact .eq hr'.2 (.cf (decide_eq_false (by omega)) (.ret hr'.1.symm))
theorem toFact_id {f : Fact} (hf : f.values.length ≤ 1048576) : m_laws_toFact f = some f := by unfold m_laws_toFact; rw [toIntS_id _ hf]; rfl
theorem markFact_ok {f : Fact} (hf : f.values.length ≤ 1048576) {k : Int} (h0 : 0 ≤ k) (h1 : k ≤ 1125899906842624) : Ok (m_laws_markFact f k) fun r => 0 ≤ r.1 := by
 unfold m_laws_markFact
 exact .eq (markIntS_eq _ _ h0 (by omega)) (.ret (by simp only; omega))
end Go.Proofs.Ytjdpolnakhmkmaa
set_option linter.unusedVariables false
set_option linter.unusedSimpArgs false
namespace Go.Proofs.Ytjdpolnakhmkmaa
open Go Go.Proofs Go.Sep
def PlaceAt (l : List Fact) (f : Fact) (n : Nat) : Prop := n ≤ l.length ∧ (∀ (j : Nat) x, j < n → l[j]? = some x → cmpF x f < 0) ∧ ∀ x, l[n]? = some x → ¬ cmpF x f < 0
theorem PlaceAt.uniq {l : List Fact} {f : Fact} {n n' : Nat} (h : PlaceAt l f n) (h' : PlaceAt l f n') : n = n' := by
 obtain ⟨a1, a2, a3⟩ := h
 obtain ⟨b1, b2, b3⟩ := h'
 rcases Nat.lt_trichotomy n n' with g | g | g
 ·exact absurd (b2 n _ g (List.getElem?_eq_getElem (by omega))) (a3 _ (List.getElem?_eq_getElem (by omega)))
 ·exact g
 ·exact absurd (a2 n' _ g (List.getElem?_eq_getElem (by omega))) (b3 _ (List.getElem?_eq_getElem (by omega)))
def insF (d : Database) (f : Fact) (n : Nat) : Database := ⟨d.relations, d.facts.take n ++ f :: d.facts.drop n⟩
theorem insF_small {d : Database} (hs : DbS d) {f : Fact} (hf : f.values.length ≤ 1048576) {n : Nat} (h : d.facts.length < 1048576) : DbS (insF d f n) := by
 refine ⟨hs.1, ?_, hs.2.2.1, fun g hg => ?_⟩
 ·simp only [insF, List.length_append, List.length_take, List.length_cons, List.length_drop]; omega
 ·simp only [insF, List.mem_append, List.mem_cons] at hg
  rcases hg with h | rfl | h
  ·exact hs.2.2.2 g (List.mem_of_mem_take h)
  ·exact hf
  ·exact hs.2.2.2 g (List.mem_of_mem_drop h)
def Fresh (d : Database) (f : Fact) : Prop := DbOK d ∧ FactOK d.relations f ∧ (∀ (j : Nat), d.facts[j]? ≠ some f) ∧ d.facts.length ≠ 14
theorem contains_both {u : Nat} {d : Database} (hs : DbS d) {f : Fact} (hf : f.values.length ≤ 1048576) (hu : 1048577 < u) (hd : DbOK d) : ∃ k, FirstAt d.facts f k ∧ m_impl_FactIndex d f = some k ∧ m_spec_FactIndex u d f = some k ∧ m_impl_ContainsFact d f = some (decide (0 ≤ k)) ∧ m_spec_ContainsFact u d f = some (decide (0 ≤ k)) := by
 obtain ⟨k, hk1, hk⟩ := impl_FactIndex_ok d f
 obtain ⟨k', hk1', hk'⟩ := spec_FactIndex_ok hs hf hu
 have e := hk'.uniq hk
 subst e
 obtain ⟨b, g1, g2⟩ := impl_IsValidDatabase_eq d
 obtain ⟨b', g3, g4⟩ := spec_IsValidDatabase_eq u d hs hu
 have e1 : b = true := g2.2 hd
 have e2 : b' = true := g4.2 hd
 subst e1 e2
 refine ⟨k', hk, hk1, hk1', ?_, ?_⟩
 ·unfold m_impl_ContainsFact
  exact Ok.to (.bind (P := fun t => t = decide (0 ≤ k')) (.eq g1 (.ct rfl (.eq hk1 (.ret rfl)))) fun t ht => .ret ht)
 ·unfold m_spec_ContainsFact
  exact Ok.to (.bind (P := fun t => t = decide (0 ≤ k')) (.eq g3 (.ct rfl (.eq hk1' (.ret rfl)))) fun t ht => .ret ht)
theorem contains_none {u : Nat} {d : Database} (hs : DbS d) {f : Fact} (hu : 1048577 < u) (hd : ¬ DbOK d) : m_impl_ContainsFact d f = some false ∧ m_spec_ContainsFact u d f = some false := by
 obtain ⟨b, g1, g2⟩ := impl_IsValidDatabase_eq d
 obtain ⟨b', g3, g4⟩ := spec_IsValidDatabase_eq u d hs hu
 have e1 : b = false := by cases b with | false => rfl | true => exact (hd (g2.1 rfl)).elim
 have e2 : b' = false := by cases b' with | false => rfl | true => exact (hd (g4.1 rfl)).elim
 subst e1 e2
 refine ⟨?_, ?_⟩
 ·unfold m_impl_ContainsFact
  exact Ok.to (.bind (P := fun t => t = false) (.eq g1 (.cf rfl (.ret rfl))) fun t ht => .ret ht)
 ·unfold m_spec_ContainsFact
  exact Ok.to (.bind (P := fun t => t = false) (.eq g3 (.cf rfl (.ret rfl))) fun t ht => .ret ht)
theorem delete_ok {u : Nat} {d : Database} (hs : DbS d) {f : Fact} (hf : f.values.length ≤ 1048576) (hu : 1048577 < u) : (m_impl_DeleteFact d f = some (d, false) ∧ m_spec_DeleteFact u d f = some (d, false) ∧ (DbOK d → ∀ (j : Nat), d.facts[j]? ≠ some f)) ∨ ∃ k, DbOK d ∧ d.facts[k]? = some f ∧ m_impl_DeleteFact d f = some (⟨d.relations, d.facts.take k ++ d.facts.drop (k + 1)⟩, true) ∧ m_spec_DeleteFact u d f = some (⟨d.relations, d.facts.take k ++ d.facts.drop (k + 1)⟩, true) := by
 have hno : m_impl_ContainsFact d f = some false → m_spec_ContainsFact u d f = some false → m_impl_DeleteFact d f = some (d, false) ∧ m_spec_DeleteFact u d f = some (d, false) := fun h1 h2 => by
  refine ⟨?_, ?_⟩
  ·unfold m_impl_DeleteFact
   exact Ok.to (.eq (impl_copyDatabase_eq hs) (.eq h1 (.ct rfl (.ret rfl))))
  ·unfold m_spec_DeleteFact
   exact Ok.to (.eq (l4Copy_eq hs hu) (.eq h2 (.ct rfl (.ret rfl))))
 by_cases hd : DbOK d
 ·obtain ⟨k, hk, k1, k2, c1, c2⟩ := contains_both hs hf hu hd
  have hfl := hs.2.1
  rcases hk with ⟨rfl, hn⟩ | ⟨n, rfl, hnf, _⟩
  ·exact .inl ⟨(hno c1 c2).1, (hno c1 c2).2, fun _ => hn⟩
  ·have hlt : n < d.facts.length := (List.getElem?_eq_some_iff.1 hnf).1
   refine .inr ⟨n, hd, hnf, ?_, ?_⟩
   ·unfold m_impl_DeleteFact m_slices_Delete_Simpl_Fact_impl_Fact
    refine Ok.to (.eq (impl_copyDatabase_eq hs) (.eq c1 (.cf (by simp) (.eq k1 ?_))))
    rw [w64_id (by omega)]
    exact .eq (cutOut_ok (i := n) (j := n + 1) (by omega) (by omega)) (.ret rfl)
   ·unfold m_spec_DeleteFact
    refine Ok.to (.eq (l4Copy_eq hs hu) (.eq c2 (.cf (by simp) (.eq k2 ?_))))
    rw [w64_id (by omega)]
    refine .cut (i := 0) (j := n) rfl rfl (by omega) (by omega) (.app (by simp; omega) (.cut (i := n + 1) (j := d.facts.length) rfl rfl (by omega) (Nat.le_refl _) (.app (by simp; omega) (.ret ?_))))
    simp
 ·obtain ⟨c1, c2⟩ := contains_none (f := f) hs hu hd
  exact .inl ⟨(hno c1 c2).1, (hno c1 c2).2, fun h => absurd h hd⟩
theorem insAt_ok {α : Type} {b : Nat} {xs vs : List α} {i : Nat} (h : i ≤ xs.length) (h0 : 0 < vs.length) (h2 : (xs.length + vs.length) * b ≤ 140737488355328) : insAt b xs (i : Int) vs = some (xs.take i ++ vs ++ xs.drop i) := by
 unfold insAt
 rw [if_pos ⟨by omega, by omega, h0, h2⟩]
 simp
theorem insert_ok {u : Nat} {d : Database} (hs : DbS d) {f : Fact} (hf : f.values.length ≤ 1048576) (hu : 1048577 < u) : (¬ Fresh d f ∧ m_impl_InsertFact u d f = some (d, false) ∧ m_spec_InsertFact u d f = some (d, false)) ∨ ∃ n, Fresh d f ∧ PlaceAt d.facts f n ∧ m_impl_InsertFact u d f = some (insF d f n, true) ∧ m_spec_InsertFact u d f = some (insF d f n, true) := by
 have hfl := hs.2.1
 obtain ⟨b, g1, g2⟩ := impl_IsValidDatabase_eq d
 obtain ⟨b', g3, g4⟩ := spec_IsValidDatabase_eq u d hs hu
 obtain ⟨q, i1, i2⟩ := isFact_eq d.relations f
 obtain ⟨q', i3, i4⟩ := spec_isFact_eq u d.relations f (by omega) hf
 -- the guards
 have guards : ∃ t, (t = false ↔ Fresh d f) ∧
   ((m_impl_IsValidDatabase d).bind fun r_5 => cond (!r_5) (some true) ((m_impl_isFact d.relations f).bind fun r_8 => cond (!r_8) (some true) ((m_impl_FactIndex d f).bind fun r_11 => cond (decide (0 ≤ r_11)) (some true) (some (decide ((d.facts.length : Int) = 14)))))) = some t ∧
   ((m_spec_IsValidDatabase u d).bind fun r_5 => cond (!r_5) (some true) ((m_spec_IsValidFact u d.relations f).bind fun r_8 => cond (!r_8) (some true) ((m_spec_ContainsFact u d f).bind fun r_11 => cond r_11 (some true) (some (decide ((d.facts.length : Int) = 14)))))) = some t := by
  by_cases hd : DbOK d
  ·have e1 : b = true := g2.2 hd
   have e2 : b' = true := g4.2 hd
   subst e1 e2
   by_cases hfo : FactOK d.relations f
   ·have e3 : q = true := i2.2 hfo
    have e4 : q' = true := i4.2 ⟨hd.rels, hfo⟩
    subst e3 e4
    obtain ⟨k, hk, k1, k2, c1, c2⟩ := contains_both hs hf hu hd
    by_cases h0 : 0 ≤ k
    ·refine ⟨true, ⟨fun h => by simp at h, fun h => ?_⟩, Ok.to (.eq g1 (.cf rfl (.eq i1 (.cf rfl (.eq k1 (.ct (decide_eq_true h0) (.ret rfl))))))), Ok.to (.eq g3 (.cf rfl (.eq i3 (.cf rfl (.eq c2 (.ct (decide_eq_true h0) (.ret rfl)))))))⟩
     rcases hk with ⟨rfl, _⟩ | ⟨n, rfl, hnf, _⟩
     ·omega
     ·exact absurd hnf (h.2.2.1 n)
    ·refine ⟨decide ((d.facts.length : Int) = 14), ⟨fun h => ?_, fun h => ?_⟩, Ok.to (.eq g1 (.cf rfl (.eq i1 (.cf rfl (.eq k1 (.cf (decide_eq_false h0) (.ret rfl))))))), Ok.to (.eq g3 (.cf rfl (.eq i3 (.cf rfl (.eq c2 (.cf (decide_eq_false h0) (.ret rfl)))))))⟩
     ·have h := of_decide_eq_false h
      refine ⟨hd, hfo, ?_, by omega⟩
      rcases hk with ⟨_, hn⟩ | ⟨n, rfl, _⟩
      ·exact hn
      ·omega
     ·exact decide_eq_false (by have := h.2.2.2; omega)
   ·have e3 : q = false := by cases q with | false => rfl | true => exact (hfo (i2.1 rfl)).elim
    have e4 : q' = false := by cases q' with | false => rfl | true => exact (hfo (i4.1 rfl).2).elim
    subst e3 e4
    exact ⟨true, ⟨fun h => by simp at h, fun h => (hfo h.2.1).elim⟩, Ok.to (.eq g1 (.cf rfl (.eq i1 (.ct rfl (.ret rfl))))), Ok.to (.eq g3 (.cf rfl (.eq i3 (.ct rfl (.ret rfl)))))⟩
  ·have e1 : b = false := by cases b with | false => rfl | true => exact (hd (g2.1 rfl)).elim
   have e2 : b' = false := by cases b' with | false => rfl | true => exact (hd (g4.1 rfl)).elim
   subst e1 e2
   exact ⟨true, ⟨fun h => by simp at h, fun h => (hd h.1).elim⟩, Ok.to (.eq g1 (.ct rfl (.ret rfl))), Ok.to (.eq g3 (.ct rfl (.ret rfl)))⟩
 obtain ⟨t, ht, hi, hsp⟩ := guards
 cases t with
 | true =>
  refine .inl ⟨fun h => by have := ht.2 h; simp at this, ?_, ?_⟩
  ·unfold m_impl_InsertFact
   exact Ok.to (.eq (impl_copyDatabase_eq hs) (.eq hi (.ct rfl (.ret rfl))))
  ·unfold m_spec_InsertFact
   exact Ok.to (.eq (l4Copy_eq hs hu) (.eq hsp (.ct rfl (.ret rfl))))
 | false =>
  have hfr : Fresh d f := ht.1 rfl
  have hfew := hfr.1.few
  have him : Ok (m_impl_InsertFact u d f) fun r => ∃ n, PlaceAt d.facts f n ∧ r = (insF d f n, true) := by
   unfold m_impl_InsertFact m_slices_Insert_Simpl_Fact_impl_Fact
   refine .eq (impl_copyDatabase_eq hs) (.eq hi (.cf rfl ?_))
   refine .while (fun (i : Int) => ∃ n : Nat, i = (n : Int) ∧ n ≤ d.facts.length ∧ ∀ (j : Nat) x, j < n → d.facts[j]? = some x → cmpF x f < 0) (fun i => d.facts.length - i.toNat) (fun (i : Int) => ∃ n : Nat, i = (n : Int) ∧ PlaceAt d.facts f n) (fun _ => False) (by omega) ⟨0, rfl, by omega, fun j x hj => by omega⟩ (fun i ⟨n, h1, h2, h3⟩ => ?_) (fun i ⟨n, h1, h2⟩ => ?_) (fun _ h => h.elim)
   ·subst h1
    by_cases hlt : n < d.facts.length
    ·by_cases hc : cmpF d.facts[n] f < 0
     ·refine .bind (P := fun t => t = true) (.ct (decide_eq_true (by omega)) (.get rfl hlt (.eq (impl_CompareFacts_eq _ f) (.ret (decide_eq_true hc))))) fun t ht => .ct ht (.next ⟨⟨n + 1, by rw [w64_id (by omega)]; simp, hlt, fun j x hj hx => ?_⟩, by rw [w64_id (by omega)]; omega⟩)
      rcases Nat.lt_succ_iff_lt_or_eq.1 hj with h | rfl
      ·exact h3 j x h hx
      ·rw [List.getElem?_eq_getElem hlt] at hx; cases hx; exact hc
     ·refine .bind (P := fun t => t = false) (.ct (decide_eq_true (by omega)) (.get rfl hlt (.eq (impl_CompareFacts_eq _ f) (.ret (decide_eq_false hc))))) fun t ht => .cf ht (.brk ⟨n, rfl, h2, h3, fun x hx => ?_⟩)
      rw [List.getElem?_eq_getElem hlt] at hx; cases hx; exact hc
    ·refine .bind (P := fun t => t = false) (.cf (decide_eq_false (by omega)) (.ret rfl)) fun t ht => .cf ht (.brk ⟨n, rfl, h2, h3, fun x hx => ?_⟩)
     rw [List.getElem?_eq_none (by omega)] at hx; cases hx
   ·subst h1
    refine .app (by simp; omega) (.eq (insAt_ok h2.1 (by simp) (by simp; omega)) (.ret ⟨n, h2, ?_⟩))
    simp [insF]
  have hsm : Ok (m_spec_InsertFact u d f) fun r => ∃ n, PlaceAt d.facts f n ∧ r = (insF d f n, true) := by
   unfold m_spec_InsertFact
   refine .eq (l4Copy_eq hs hu) (.eq hsp (.cf rfl ?_))
   refine .while (fun (i : Int) => ∃ n : Nat, i = (n : Int) ∧ n ≤ d.facts.length ∧ ∀ (j : Nat) x, j < n → d.facts[j]? = some x → cmpF x f < 0) (fun i => d.facts.length - i.toNat) (fun (i : Int) => ∃ n : Nat, i = (n : Int) ∧ PlaceAt d.facts f n) (fun _ => False) (by omega) ⟨0, rfl, by omega, fun j x hj => by omega⟩ (fun i ⟨n, h1, h2, h3⟩ => ?_) (fun i ⟨n, h1, h2⟩ => ?_) (fun _ h => h.elim)
   ·subst h1
    by_cases hlt : n < d.facts.length
    ·have hv := hs.2.2.2 _ (List.getElem_mem hlt)
     by_cases hc : cmpF d.facts[n] f < 0
     ·refine .bind (P := fun t => t = true) (.ct (decide_eq_true (by omega)) (.get rfl hlt (.eq (spec_CompareFacts_eq u _ f (by omega) hv hf) (.ret (decide_eq_true hc))))) fun t ht => .ct ht (.next ⟨⟨n + 1, by rw [w64_id (by omega)]; simp, hlt, fun j x hj hx => ?_⟩, by rw [w64_id (by omega)]; omega⟩)
      rcases Nat.lt_succ_iff_lt_or_eq.1 hj with h | rfl
      ·exact h3 j x h hx
      ·rw [List.getElem?_eq_getElem hlt] at hx; cases hx; exact hc
     ·refine .bind (P := fun t => t = false) (.ct (decide_eq_true (by omega)) (.get rfl hlt (.eq (spec_CompareFacts_eq u _ f (by omega) hv hf) (.ret (decide_eq_false hc))))) fun t ht => .cf ht (.brk ⟨n, rfl, h2, h3, fun x hx => ?_⟩)
      rw [List.getElem?_eq_getElem hlt] at hx; cases hx; exact hc
    ·refine .bind (P := fun t => t = false) (.cf (decide_eq_false (by omega)) (.ret rfl)) fun t ht => .cf ht (.brk ⟨n, rfl, h2, h3, fun x hx => ?_⟩)
     rw [List.getElem?_eq_none (by omega)] at hx; cases hx
   ·subst h1
    have hnl := h2.1
    refine .app (by simp; omega) (.cut (i := n) (j := d.facts.length) rfl rfl hnl (Nat.le_refl _) (.app (by simp; omega) (.cut (i := 0) (j := n) rfl rfl (by omega) hnl (.app (by simp; omega) (.app (by simp; omega) (.ret ⟨n, h2, ?_⟩))))))
    simp [insF]
  obtain ⟨r1, e1, n1, p1, rfl⟩ := him
  obtain ⟨r2, e2, n2, p2, rfl⟩ := hsm
  have e := p1.uniq p2
  subst e
  exact .inr ⟨n1, hfr, p1, e1, e2⟩
theorem apply_ok {u : Nat} {d : Database} (hs : DbS d) {e : Edit} (hf : e.fact.values.length ≤ 1048576) (hu : 1048577 < u) : ∃ y b, m_impl_ApplyEdit u d e = some (y, b) ∧ m_spec_ApplyEdit u d e = some (y, b) ∧ DbS y ∧ (b = false → y = d) := by
 unfold m_impl_ApplyEdit m_spec_ApplyEdit
 rw [l4Copy_eq hs hu, Option.bind_some]
 have fin : ∀ (x x' : Option (Database × Bool)) (y : Database) (b : Bool), x = some (y, b) → x' = some (y, b) → DbS y → (b = false → y = d) → ∃ y b, (x.bind fun r => some (r.1, r.2)) = some (y, b) ∧ (x'.bind fun r => some (r.1, r.2)) = some (y, b) ∧ DbS y ∧ (b = false → y = d) := fun x x' y b h1 h2 h3 h4 => ⟨y, b, by rw [h1]; rfl, by rw [h2]; rfl, h3, h4⟩
 by_cases k1 : e.kind = 1
 ·rw [decide_eq_true k1]
  rcases insert_ok hs hf hu with ⟨_, h1, h2⟩ | ⟨n, hfr, _, h1, h2⟩
  ·exact fin _ _ d false h1 h2 hs fun _ => rfl
  ·exact fin _ _ _ true h1 h2 (insF_small hs hf (by have := hfr.1.few; omega)) fun h => by simp at h
 ·rw [decide_eq_false k1]
  by_cases k2 : e.kind = 2
  ·rw [decide_eq_true k2]
   rcases delete_ok hs hf hu with ⟨h1, h2, _⟩ | ⟨k, _, _, h1, h2⟩
   ·exact fin _ _ d false h1 h2 hs fun _ => rfl
   ·refine fin _ _ _ true h1 h2 ⟨hs.1, ?_, hs.2.2.1, fun g hg => ?_⟩ fun h => by simp at h
    ·simp only [List.length_append, List.length_take, List.length_drop]; have := hs.2.1; omega
    ·rcases List.mem_append.1 hg with h | h
     ·exact hs.2.2.2 g (List.mem_of_mem_take h)
     ·exact hs.2.2.2 g (List.mem_of_mem_drop h)
  ·rw [decide_eq_false k2]
   by_cases k3 : e.kind = 3
   ·rw [decide_eq_true k3]
    obtain ⟨y, b, h1, h2, h3, h4, _⟩ := resolve_ok hs hf hu
    exact fin _ _ y b h1 h2 h4 h3
   ·rw [decide_eq_false k3]
    exact ⟨d, false, by show (m_impl_copyDatabase d).bind _ = _; rw [impl_copyDatabase_eq hs]; rfl, rfl, hs, fun _ => rfl⟩
end Go.Proofs.Ytjdpolnakhmkmaa
set_option linter.unusedVariables false
set_option linter.unusedSimpArgs false
namespace Go.Proofs.Ytjdpolnakhmkmaa
open Go Go.Proofs Go.Sep
theorem eqEdit_self (e : Edit) : m_laws_eqEdit e e = some true := by
 unfold m_laws_eqEdit
 exact Ok.to (.cf (by simp) (.eq (eqFact_self e.fact) (.cf rfl (.ret rfl))))
theorem toEdit_id {e : Edit} (h : e.fact.values.length ≤ 1048576) : m_laws_toEdit e = some e := by
 unfold m_laws_toEdit
 exact Ok.to (.eq (toFact_id h) (.ret rfl))
theorem szEdit_b (e : Edit) (hf : e.fact.values.length ≤ 9223372036854775807) (left : Int) (h0 : 0 ≤ left) (h1 : left ≤ 1048576) : ∃ r, m_laws_szEdit e left = some r ∧ (r = -1 ∨ (0 ≤ r ∧ r ≤ left ∧ e.fact.values.length ≤ 1048576)) := by
 obtain ⟨y, h3, h4⟩ := szFact_b e.fact hf left h0 h1
 unfold m_laws_szEdit
 rw [h3, Option.bind_some]
 rcases h4 with rfl | h4
 ·exact ⟨_, rfl, .inl rfl⟩
 ·exact ⟨y, by rw [decide_eq_false (by omega)]; rfl, .inr h4⟩
theorem markEdit_ok {e : Edit} (hf : e.fact.values.length ≤ 1048576) {k : Int} (h0 : 0 ≤ k) (h1 : k ≤ 1125899906842624) : Ok (m_laws_markEdit e k) fun r => 0 ≤ r.1 := by
 unfold m_laws_markEdit
 exact .bind (markFact_ok hf h0 h1) fun r hr => .ret hr
end Go.Proofs.Ytjdpolnakhmkmaa
set_option linter.unusedVariables false
set_option linter.unusedSimpArgs false
namespace Go.Proofs.Ytjdpolnakhmkmaa
open Go Go.Proofs Go.Sep
end Go.Proofs.Ytjdpolnakhmkmaa
set_option linter.unusedVariables false
set_option linter.unusedSimpArgs false
namespace Go.Proofs.Ytjdpolnakhmkmaa
open Go Go.Proofs Go.Sep
theorem eqEditS_self (l : List Edit) : m_laws_eqEditS l l = some true := eq_loop (fun x _ => eqEdit_self x)
end Go.Proofs.Ytjdpolnakhmkmaa
set_option linter.unusedVariables false
set_option linter.unusedSimpArgs false
namespace Go.Proofs.Ytjdpolnakhmkmaa
open Go Go.Proofs Go.Sep
def editOff (a : List Edit) (n : Nat) : Nat := ((a.take n).map fun f => 2 + f.fact.values.length).sum
theorem editOff_succ {a : List Edit} {n : Nat} {f : Edit} (h : a[n]? = some f) : editOff a (n + 1) = editOff a n + (2 + f.fact.values.length) := by
 obtain ⟨hn, rfl⟩ := List.getElem?_eq_some_iff.1 h
 unfold editOff
 rw [List.take_succ_eq_append_getElem hn, List.map_append, List.sum_append]
 simp
theorem editOff_le {a : List Edit} (hv : ∀ f ∈ a, f.fact.values.length ≤ 1048576) : ∀ n, n ≤ a.length → editOff a n ≤ 1048578 * n
 | 0, _ => by simp [editOff]
 | n + 1, h => by
  have hn : n < a.length := by omega
  have h1 := editOff_le hv n (by omega)
  rw [editOff_succ (List.getElem?_eq_getElem hn)]
  have := hv _ (List.getElem_mem hn)
  omega
def editMark (c : Int) (f : Edit) : Edit := { kind := c, fact := { relation := c + 1, values := marks (c + 1 + 1) f.fact.values.length } }
theorem markEditS_held {a : List Edit} (ha : a.length ≤ 2097152) (hv : ∀ f ∈ a, f.fact.values.length ≤ 1048576) {k : Int} (h0 : 0 ≤ k) (h1 : k ≤ 1125899906842624) : Ok (m_laws_markEditS a k) fun r => r.1 = k + editOff a a.length ∧ m_laws_heldEditS r.2 k = some (k + editOff a a.length) := by
 have hle := editOff_le hv
 have hlt : ∀ n, n < a.length → k + editOff a n + 2 + 1048576 ≤ 2305843009213693952 := fun n hn => by have := hle n (by omega); omega
 unfold m_laws_markEditS
 refine .forM (m := a.length) (fun n s => s.1.length = a.length ∧ s.2 = k + editOff a n ∧ (∀ j f, j < n → a[j]? = some f → s.1[j]? = some (editMark (k + editOff a j) f)) ∧ ∀ j, n ≤ j → s.1[j]? = a[j]?) ⟨rfl, by simp [editOff], fun j f hj => by omega, fun j _ => rfl⟩ (fun n s hn hI => ?_) (fun s hI => ?_)
 ·obtain ⟨xs, c⟩ := s
  obtain ⟨hl, hc, hj, hr⟩ := hI
  simp only at hl hc hj hr ⊢
  have hx : n < xs.length := by omega
  have hxa : a[n]? = some xs[n] := by rw [← hr n (Nat.le_refl _)]; exact List.getElem?_eq_getElem hx
  have hxv := hv _ (List.mem_of_getElem? hxa)
  have hb := hlt n hn
  refine .get rfl hx ?_
  simp only [Int.toNat_natCast]
  refine .get rfl (by simpa using hx) ?_
  rw [List.getElem_set_self]
  refine .get rfl (by simpa using hx) ?_
  rw [List.getElem_set_self, w64_id (x := c + 1) (by omega), w64_id (by omega)]
  simp only
  refine .eq (markIntS_eq _ _ (by omega) (by omega)) (.ret ⟨by simpa using hl, ?_, fun j f hjn hf => ?_, fun j hjn => ?_⟩)
  ·simp only; rw [editOff_succ hxa]; omega
  ·simp only [List.set_set]
   by_cases e : n = j
   ·subst e
    rw [List.getElem?_set_self (by omega)]
    rw [hxa] at hf
    cases hf
    simp only [editMark, hc]
   ·rw [List.getElem?_set_ne e]; exact hj j f (by omega) hf
  ·simp only [List.set_set]
   rw [List.getElem?_set_ne (by omega)]; exact hr j (by omega)
 ·obtain ⟨xs, c⟩ := s
  obtain ⟨hl, hc, hj, hr⟩ := hI
  simp only at hl hc hj hr ⊢
  refine .ret ⟨hc, ?_⟩
  show m_laws_heldEditS xs k = _
  unfold m_laws_heldEditS
  refine Ok.to (.forL (fun n s => s = k + editOff a n) (fun _ => False) (fun _ => False) (by simp [editOff]) (fun n x s hx hI => ?_) (fun s hs => .ret (by have := hs.resolve_right id; rw [this, hl])) (fun r hr => hr.elim))
  have hn : n < a.length := by have := (List.getElem?_eq_some_iff.1 hx).1; omega
  rw [hj n _ hn (List.getElem?_eq_getElem hn)] at hx
  cases hx
  subst hI
  have hb := hlt n hn
  have hxv := hv _ (List.getElem_mem hn)
  refine .cf (by simp [editMark]) ?_
  rw [w64_id (x := k + editOff a n + 1) (by omega), w64_id (by omega)]
  refine .cf (by simp [editMark]) ?_
  refine .eq (heldIntS_eq _ _ (by omega) (by omega)) (.cf (decide_eq_false (by omega)) (.next ?_))
  rw [editOff_succ (List.getElem?_eq_getElem hn)]; omega
theorem FirstAt.neg {l : List Fact} {f : Fact} {k : Int} (h : FirstAt l f k) : k < 0 ↔ f ∉ l := by
 rcases h with ⟨rfl, h⟩ | ⟨n, rfl, h, _⟩
 ·exact ⟨fun _ hm => by obtain ⟨j, hj⟩ := List.getElem?_of_mem hm; exact h j hj, fun _ => by omega⟩
 ·exact ⟨fun h1 => by omega, fun h1 => absurd (List.mem_of_getElem? h) h1⟩
def efF (k : Int) (l l' : List Fact) : List Edit := (l.filter fun f => decide (f ∉ l')).map fun f => ⟨k, f⟩
theorem efF_len (k : Int) (l l' : List Fact) : (efF k l l').length ≤ l.length := by
 simp only [efF, List.length_map]; exact List.length_filter_le _ _
theorem efF_mem {k : Int} {l l' : List Fact} {e : Edit} (h : e ∈ efF k l l') : e.fact ∈ l := by
 obtain ⟨f, h1, rfl⟩ := List.mem_map.1 h
 exact (List.mem_filter.1 h1).1
theorem efF_in {k : Int} {l l' : List Fact} {n : Nat} {x : Fact} (hx : l[n]? = some x) (h : x ∈ l') : efF k (l.take (n + 1)) l' = efF k (l.take n) l' := by
 rw [List.take_add_one, hx]
 simp only [efF, Option.toList_some, List.filter_append]
 rw [List.filter_cons_of_neg (by simpa using h), List.filter_nil, List.append_nil]
theorem efF_out {k : Int} {l l' : List Fact} {n : Nat} {x : Fact} (hx : l[n]? = some x) (h : x ∉ l') : efF k (l.take (n + 1)) l' = efF k (l.take n) l' ++ [⟨k, x⟩] := by
 rw [List.take_add_one, hx]
 simp only [efF, Option.toList_some, List.filter_append]
 rw [List.filter_cons_of_pos (by simpa using h), List.filter_nil, List.map_append]; rfl
theorem efF_take (k : Int) (l l' : List Fact) (n : Nat) (h : l.length ≤ 1048576) : (efF k (l.take n) l').length ≤ 1048576 := by
 have := efF_len k (l.take n) l'
 rw [List.length_take] at this; omega
theorem impl_editsFor_eq {a b : Database} {k : Int} (ha : DbS a) : m_impl_editsFor k a b = some (efF k a.facts b.facts) := by
 unfold m_impl_editsFor
 refine Ok.to (.eq (impl_copyDatabase_eq ha) (.forS (fun n s => s = efF k (a.facts.take n) b.facts) rfl (fun n x s hx hI => ?_) (fun s hI => .ret (by rw [hI, List.take_length]))))
 obtain ⟨q, q1, q2⟩ := impl_FactIndex_ok b x
 have hl := efF_take k a.facts b.facts n ha.2.1
 subst hI
 refine .eq q1 (.cond (fun h => .app (by simp only [List.length_cons, List.length_nil]; omega) (.ret ?_)) fun h => .ret ?_)
 ·exact (efF_out hx (q2.neg.1 (of_decide_eq_true h))).symm
 ·exact (efF_in hx (Classical.byContradiction fun hn => of_decide_eq_false h (q2.neg.2 hn))).symm
theorem inverse_ok {u : Nat} {d : Database} (hs : DbS d) {e : Edit} (hf : e.fact.values.length ≤ 1048576) (hu : 1048577 < u) : ∃ l b, m_impl_InverseEdits u d e = some (l, b) ∧ m_spec_InverseEdits u d e = some (l, b) ∧ l.length ≤ 2097152 ∧ ∀ e ∈ l, e.fact.values.length ≤ 1048576 := by
 obtain ⟨y, b, h1, h2, h3, _⟩ := apply_ok hs hf hu
 cases b with
 | false =>
  refine ⟨[], false, ?_, ?_, by simp, by simp⟩
  ·unfold m_impl_InverseEdits; exact Ok.to (.eq h1 (.ct rfl (.ret rfl)))
  ·unfold m_spec_InverseEdits; exact Ok.to (.eq h2 (.ct rfl (.ret rfl)))
 | true =>
  have l1 := efF_len 2 y.facts d.facts
  have l2 := efF_len 1 d.facts y.facts
  have y1 := h3.2.1
  have d1 := hs.2.1
  refine ⟨efF 2 y.facts d.facts ++ efF 1 d.facts y.facts, true, ?_, ?_, by rw [List.length_append]; omega, fun e he => ?_⟩
  ·unfold m_impl_InverseEdits
   exact Ok.to (.eq h1 (.cf rfl (.eq (impl_editsFor_eq h3) (.eq (impl_editsFor_eq hs) (.app (by simp only; omega) (.ret rfl))))))
  ·unfold m_spec_InverseEdits
   refine Ok.to (.eq h2 (.cf rfl (.while (fun s => ∃ n : Nat, s.2 = (n : Int) ∧ n ≤ y.facts.length ∧ s.1 = efF 2 (y.facts.take n) d.facts) (fun s => y.facts.length - s.2.toNat) (fun s => s.1 = efF 2 y.facts d.facts) (fun _ => False) (by omega) ⟨0, rfl, by omega, rfl⟩ (fun ⟨out, i⟩ ⟨n, e1, e2, e3⟩ => ?_) (fun ⟨out, i⟩ ho => ?_) (fun r hr => hr.elim))))
   ·simp only at e1 e3
    subst e1 e3
    refine .cond (fun hc => ?_) fun hc => .brk ?_
    ·have hn : n < y.facts.length := by simpa using hc
     have hv := h3.2.2.2 _ (List.getElem_mem hn)
     have hx := List.getElem?_eq_getElem hn
     obtain ⟨q, q1, q2⟩ := spec_FactIndex_ok hs hv hu
     have hl := efF_take 2 y.facts d.facts n y1
     have fin : ∀ s', s' = efF 2 (y.facts.take (n + 1)) d.facts → Ok (some (Ctl.next (s', w64 ((n : Int) + 1)) : Ctl (List Edit × Int) (List Edit × Bool))) (CtlP (fun s' => (∃ n : Nat, s'.2 = (n : Int) ∧ n ≤ y.facts.length ∧ s'.1 = efF 2 (y.facts.take n) d.facts) ∧ y.facts.length - s'.2.toNat < y.facts.length - ((n : Int)).toNat) (fun s => s.1 = efF 2 y.facts d.facts) (fun _ => False)) := fun s' hs' =>
      .next ⟨⟨n + 1, by simp only; rw [w64_id (by omega)]; simp, hn, hs'⟩, by simp only; rw [w64_id (by omega)]; omega⟩
     refine .get rfl hn (.eq q1 (.cond (fun h => .app (by simp only [List.length_cons, List.length_nil]; omega) (fin _ ?_)) fun h => fin _ ?_))
     ·exact (efF_out hx (q2.neg.1 (of_decide_eq_true h))).symm
     ·exact (efF_in hx (Classical.byContradiction fun hn => of_decide_eq_false h (q2.neg.2 hn))).symm
    ·simp only
     rw [List.take_of_length_le]
     have := of_decide_eq_false hc; simp only at this; omega
   ·simp only at ho
    subst ho
    refine .while (fun s => ∃ n : Nat, s.2 = (n : Int) ∧ n ≤ d.facts.length ∧ s.1 = efF 2 y.facts d.facts ++ efF 1 (d.facts.take n) y.facts) (fun s => d.facts.length - s.2.toNat) (fun s => s.1 = efF 2 y.facts d.facts ++ efF 1 d.facts y.facts) (fun _ => False) (by omega) ⟨0, rfl, by omega, (List.append_nil _).symm⟩ (fun ⟨out, i⟩ ⟨n, e1, e2, e3⟩ => ?_) (fun ⟨out, i⟩ ho => .ret (by simp only at ho; rw [ho])) (fun r hr => hr.elim)
    simp only at e1 e3
    subst e1 e3
    refine .cond (fun hc => ?_) fun hc => .brk ?_
    ·have hn : n < d.facts.length := by simpa using hc
     have hv := hs.2.2.2 _ (List.getElem_mem hn)
     have hx := List.getElem?_eq_getElem hn
     obtain ⟨q, q1, q2⟩ := spec_FactIndex_ok h3 hv hu
     have hl := efF_take 1 d.facts y.facts n d1
     have fin : ∀ s', s' = efF 2 y.facts d.facts ++ efF 1 (d.facts.take (n + 1)) y.facts → Ok (some (Ctl.next (s', w64 ((n : Int) + 1)) : Ctl (List Edit × Int) (List Edit × Bool))) (CtlP (fun s' => (∃ n : Nat, s'.2 = (n : Int) ∧ n ≤ d.facts.length ∧ s'.1 = efF 2 y.facts d.facts ++ efF 1 (d.facts.take n) y.facts) ∧ d.facts.length - s'.2.toNat < d.facts.length - ((n : Int)).toNat) (fun s => s.1 = efF 2 y.facts d.facts ++ efF 1 d.facts y.facts) (fun _ => False)) := fun s' hs' =>
      .next ⟨⟨n + 1, by simp only; rw [w64_id (by omega)]; simp, hn, hs'⟩, by simp only; rw [w64_id (by omega)]; omega⟩
     refine .get rfl hn (.eq q1 (.cond (fun h => .app (by simp only [List.length_nil]; omega) (.app (by simp only [List.length_append, List.length_cons, List.length_nil]; omega) (fin _ ?_))) fun h => fin _ ?_))
     ·rw [efF_out hx (q2.neg.1 (of_decide_eq_true h)), List.append_assoc]; rfl
     ·rw [efF_in hx (Classical.byContradiction fun hn => of_decide_eq_false h (q2.neg.2 hn))]
    ·simp only
     rw [List.take_of_length_le]
     have := of_decide_eq_false hc; omega
  ·rcases List.mem_append.1 he with h | h
   ·exact h3.2.2.2 _ (efF_mem h)
   ·exact hs.2.2.2 _ (efF_mem h)
theorem law_InverseEdits (d : Database) (e : Edit) (hd : DbM d) (hf : e.fact.values.length ≤ 9223372036854775807) : m_laws_FnExactInverseEdits 1048578 d e = some true := by
 unfold m_laws_FnExactInverseEdits
 obtain ⟨z, h1, h2⟩ := szDatabase_b d hd 1048576 (by omega) (by omega)
 refine Ok.to (.eq h1 (.cond (fun _ => .ret rfl) fun hz => ?_))
 have hz' := of_decide_eq_false hz
 have h2 := h2.resolve_left (by omega)
 obtain ⟨_, _, hs⟩ := h2
 obtain ⟨y, h3, h4⟩ := szEdit_b e hf z (by omega) (by omega)
 refine .eq h3 (.cond (fun _ => .ret rfl) fun hy => ?_)
 have hy' := of_decide_eq_false hy
 have h4 := h4.resolve_left (by omega)
 obtain ⟨_, _, hfs⟩ := h4
 have e1 := toDatabase_id d hs
 have e2 := toEdit_id hfs
 obtain ⟨x, is, k1, k2, k3, k4⟩ := inverse_ok (u := 1048578) hs hfs (by omega)
 have ex := eqEditS_self x
 have eis : (is != is) = false := by cases is <;> rfl
 have hoff := editOff_le k4 x.length (Nat.le_refl _)
 refine .eq e1 (.eq e2 (.eq k2 (.eq e1 (.eq e2 (.eq k1 (.bind (P := fun t => t = false) (.eq ex (.cf rfl (.ret eis))) fun t ht => .cf ht (.eq e1 (.eq (eqDatabase_self d) (.cf rfl (.eq e2 (.eq (eqEdit_self e) (.cf rfl (.bind (markDatabase_held (by omega) hs) fun r hr => .bind (markEdit_ok hfs hr.1.1 hr.1.2) fun r2 hr2 => .bind (P := fun t => t = false) (.cf (decide_eq_false (by omega)) (.eq ex (.cf rfl (.ret eis)))) fun t ht => .cf ht (.bind (markEditS_held k3 k4 (by omega) (by omega)) fun r3 hr3 => .eq hr3.2 (.cf (decide_eq_false (by omega)) (.cf (by rw [hr3.1]; simp) (.eq e1 (.eq e2 (.eq k1 (.bind (P := fun t => t = false) (.eq ex (.cf rfl (.ret eis))) fun t ht => .cf ht (.eq hr3.2 (.cf (decide_eq_false (by omega)) (.cf (by rw [hr3.1]; simp) (.ret rfl))))))))))))))))))))))))
end Go.Proofs.Ytjdpolnakhmkmaa


/- Databases: sizes, copies, comparisons, and what valid ones are, for both sides. -/
import Derived.Test.YtlcpdlngbofgcaaCY
import Derived.Test.YtlcpdlngbofgcaaM0
set_option linter.unusedVariables false
set_option linter.unusedSimpArgs false
namespace Go.Proofs.Ytlcpdlngbofgcaa
open Go Go.Proofs Go.Sep
theorem cond_nt {α : Type} {x y : α} : cond (!true) x y = y := rfl
theorem cond_nf {α : Type} {x y : α} : cond (!false) x y = x := rfl
/-! ### sizes -/
theorem szIntS_b (a : List Int) (hl : a.length ≤ 9223372036854775807) (left : Int) (h0 : 0 ≤ left) (h1 : left ≤ 1048576) : ∃ r, m_laws_szIntS a left = some r ∧ (r = -1 ∨ (0 ≤ r ∧ r ≤ left ∧ a.length ≤ 1048576)) := by
  unfold m_laws_szIntS
  rw [w64_id (by omega)]
  by_cases h : left < a.length
  · rw [cond_T' (by simp; omega)]; exact ⟨_, rfl, .inl rfl⟩
  · rw [cond_F' (by simp; omega)]; exact ⟨_, rfl, .inr ⟨by omega, by omega, by omega⟩⟩
theorem szRelation_b (a : Relation) (hl : a.name.size ≤ 9223372036854775807) (left : Int) (h0 : 0 ≤ left) (h1 : left ≤ 1048576) : ∃ r, m_laws_szRelation a left = some r ∧ (r = -1 ∨ (0 ≤ r ∧ r ≤ left ∧ a.name.size ≤ 1048576)) := by
  unfold m_laws_szRelation
  rw [w64_id (by omega)]
  by_cases h : left < a.name.size
  · rw [cond_T' (by simp; omega)]; exact ⟨_, rfl, .inl rfl⟩
  · rw [cond_F' (by simp; omega)]; exact ⟨_, rfl, .inr ⟨by omega, by omega, by omega⟩⟩
theorem szFact_b (a : Fact) (hl : a.values.length ≤ 9223372036854775807) (left : Int) (h0 : 0 ≤ left) (h1 : left ≤ 1048576) : ∃ r, m_laws_szFact a left = some r ∧ (r = -1 ∨ (0 ≤ r ∧ r ≤ left ∧ a.values.length ≤ 1048576)) := by
  unfold m_laws_szFact
  obtain ⟨r, h2, h3⟩ := szIntS_b a.values hl left h0 h1
  rw [h2, Option.bind_some]
  rcases h3 with rfl | h3
  · exact ⟨_, rfl, .inl rfl⟩
  · rw [cond_F' (by simp; omega)]; exact ⟨_, rfl, .inr h3⟩
/-- What can be held in a machine, for a database. -/
def DbM (d : Database) : Prop := d.relations.length ≤ 9223372036854775807 ∧ d.facts.length ≤ 9223372036854775807 ∧ (∀ r ∈ d.relations, r.name.size ≤ 9223372036854775807) ∧ ∀ f ∈ d.facts, f.values.length ≤ 9223372036854775807
/-- A database that is small enough for the laws. -/
def DbS (d : Database) : Prop := d.relations.length ≤ 1048576 ∧ d.facts.length ≤ 1048576 ∧ (∀ r ∈ d.relations, r.name.size ≤ 1048576) ∧ ∀ f ∈ d.facts, f.values.length ≤ 1048576
theorem szDatabase_b (d : Database) (hd : DbM d) (left : Int) (h0 : 0 ≤ left) (h1 : left ≤ 1048576) : ∃ r, m_laws_szDatabase d left = some r ∧ (r = -1 ∨ (0 ≤ r ∧ r ≤ left ∧ DbS d)) := by
  obtain ⟨r1, h2, h3⟩ := sz_loop (fun r : Relation => r.name.size ≤ 1048576) (a := d.relations) (fun x hx l => szRelation_b x (hd.2.2.1 x hx) l) h0 h1 hd.1
  have h2' : m_laws_szRelationS d.relations left = some r1 := h2
  unfold m_laws_szDatabase
  rw [h2', Option.bind_some]
  rcases h3 with rfl | ⟨h3, h4, h5⟩
  · exact ⟨_, rfl, .inl rfl⟩
  · rw [cond_F' (by simp; omega)]
    obtain ⟨r2, h6, h7⟩ := sz_loop (fun f : Fact => f.values.length ≤ 1048576) (a := d.facts) (fun x hx l => szFact_b x (hd.2.2.2 x hx) l) h3 (by omega) hd.2.1
    have h6' : m_laws_szFactS d.facts r1 = some r2 := h6
    rw [h6', Option.bind_some]
    rcases h7 with rfl | ⟨h7, h8, h9⟩
    · exact ⟨_, rfl, .inl rfl⟩
    · rw [cond_F' (by simp; omega)]; exact ⟨_, rfl, .inr ⟨h7, by omega, by omega, by omega, h5, h9⟩⟩
/-! ### copies -/
theorem toIntS_id (a : List Int) (hl : a.length ≤ 1048576) : m_laws_toIntS a = some a := by
  unfold m_laws_toIntS
  rw [mk_ok (by omega) (by omega), Option.bind_some, forS_fill (fun x => x) (by simp) fun n x zs hx hz => ?_]
  · simp
  · have hn : n < zs.length := by have := (List.getElem?_eq_some_iff.1 hx).1; omega
    rw [getI_lt hn]; simp
theorem toDatabase_id (d : Database) (hd : DbS d) : m_laws_toDatabase d = some d := by
  have h1 : m_laws_toRelationS d.relations = some d.relations := by
    have := to_loop (b := 32) (z := (default : Relation)) (g := m_laws_toRelation) (fun x => x) (a := d.relations) (fun x _ => rfl) hd.1 (by omega)
    rw [List.map_id'] at this; exact this
  have h2 : m_laws_toFactS d.facts = some d.facts := by
    have := to_loop (b := 32) (z := (default : Fact)) (g := m_laws_toFact) (fun x => x) (a := d.facts) (fun x hx => by unfold m_laws_toFact; rw [toIntS_id _ (hd.2.2.2 x hx)]; rfl) hd.2.1 (by omega)
    rw [List.map_id'] at this; exact this
  unfold m_laws_toDatabase
  rw [h1, Option.bind_some, h2, Option.bind_some]
/-! ### comparisons with itself -/
theorem eqIntS_self (a : List Int) : m_laws_eqIntS a a = some true := by
  unfold m_laws_eqIntS
  rw [cond_F' (by simp)]
  obtain ⟨o, h1, h2⟩ := forL_ok (xs := a) (s := ()) (f := fun (i_2 : Int) (x_i_2 : Int) (_ : Unit) => (getI a (i_2 : Int)).bind fun v_4 => cond (decide (x_i_2 ≠ v_4)) (some (.ret false)) (some (.next ())))
    (fun _ _ => True) (fun _ => False) (fun (_ : Bool) => False) trivial fun n x s hx _ => by
      rw [getI_nat, hx, Option.bind_some, cond_F' (by simp)]
      exact ⟨_, rfl, trivial⟩
  rw [h1, Option.bind_some]
  cases o with
  | inl s => rfl
  | inr r => exact h2.elim
theorem eqRelation_self (a : Relation) : m_laws_eqRelation a a = some true := by simp [m_laws_eqRelation]
theorem eqFact_self (a : Fact) : m_laws_eqFact a a = some true := by
  unfold m_laws_eqFact
  rw [cond_F' (by simp), eqIntS_self]; rfl
theorem eqDatabase_self (d : Database) : m_laws_eqDatabase d d = some true := by
  have h1 : m_laws_eqRelationS d.relations d.relations = some true := eq_loop (fun x _ => eqRelation_self x)
  have h2 : m_laws_eqFactS d.facts d.facts = some true := eq_loop (fun x _ => eqFact_self x)
  unfold m_laws_eqDatabase
  rw [h1, Option.bind_some, h2]; rfl
/-! ### lists compared -/
theorem cmpL_drop {a b : List Int} {i : Nat} (h1 : i < a.length) (h2 : i < b.length) : cmpL (a.drop i) (b.drop i) = if a[i] < b[i] then -1 else if b[i] < a[i] then 1 else cmpL (a.drop (i + 1)) (b.drop (i + 1)) := by
  rw [List.drop_eq_getElem_cons h1, List.drop_eq_getElem_cons h2]; rfl
theorem cmpL_nil_r (a : List Int) : cmpL a [] = if a.length = 0 then 0 else 1 := by cases a <;> simp [cmpL]
theorem cmpL_nil_l (b : List Int) : cmpL [] b = if b.length = 0 then 0 else -1 := by cases b <;> simp [cmpL]
theorem cmp_Compare_eq (x y : Int) : m_cmp_Compare_int x y = some (if x < y then -1 else if y < x then 1 else 0) := by
  unfold m_cmp_Compare_int m_cmp_isNaN_int
  simp only [Option.bind_some, ne_eq, not_true_eq_false, decide_false, cond_false]
  by_cases h1 : x < y
  · simp [h1]
  · by_cases h2 : y < x <;> simp [h1, h2]
theorem slices_Compare_from (a b : List Int) : ∀ (k i : Nat), i + k = a.length → (forL (R := Int) (fun (t_1 : Int) (x_t_1 : Int) (_ : Unit) => cond (decide ((b.length : Int) ≤ (t_1 : Int))) (some (.ret 1)) ((getI b (t_1 : Int)).bind fun v_4 => (m_cmp_Compare_int x_t_1 v_4).bind fun r_9 => cond (decide (r_9 ≠ 0)) (some (.ret r_9)) (some (.next ())))) (a.drop i) (i : Int) ()).bind (fun O2_ => onS O2_ (fun (_ : Unit) => cond (decide ((a.length : Int) < (b.length : Int))) (some (-1)) (some 0)) (fun r => some r)) = some (cmpL (a.drop i) (b.drop i))
  | 0, i, hk => by
    rw [List.drop_eq_nil_of_le (show a.length ≤ i by omega), cmpL_nil_l]
    simp only [forL, Option.bind_some, onS, List.length_drop]
    by_cases h : a.length < b.length
    · rw [cond_T' (by simpa using h), if_neg (by omega)]
    · rw [cond_F' (by simpa using h), if_pos (by omega)]
  | k + 1, i, hk => by
    have hi : i < a.length := by omega
    rw [List.drop_eq_getElem_cons hi]
    simp only [forL]
    by_cases hb : b.length ≤ i
    · rw [cond_T' (by simpa using hb), List.drop_eq_nil_of_le hb]; rfl
    · rw [cond_F' (by simpa using hb), getI_lt (show i < b.length by omega), Option.bind_some, cmp_Compare_eq, Option.bind_some]
      rw [← List.drop_eq_getElem_cons hi, cmpL_drop hi (by omega)]
      by_cases h1 : a[i] < b[i]
      · simp [h1, onS]
      · by_cases h2 : b[i] < a[i]
        · simp [h1, h2, onS]
        · simp only [h1, h2, if_false, ne_eq, not_true_eq_false, decide_false, cond_false, Option.bind_some]
          exact slices_Compare_from a b k (i + 1) (by omega)
theorem slices_Compare_eq (a b : List Int) : m_slices_Compare_Sint_int a b = some (cmpL a b) := slices_Compare_from a b a.length 0 (by omega)
theorem l3Ints_cmp (a b : List Int) (u : Nat) (hu : a.length < u) (ha : a.length ≤ 1048576) (hb : b.length ≤ 9223372036854775807) : m_spec_l3Ints u a b = some (cmpL a b) := by
  unfold m_spec_l3Ints
  obtain ⟨o, h1, h2⟩ := while_ok (f := fun (i5 : Int) => cond ((decide (i5 < (a.length : Int))) && (decide (i5 < (b.length : Int)))) ((getI a i5).bind fun v_6 => (getI b i5).bind fun v_11 => cond (decide (v_6 < v_11)) (some (.ret (-1))) (cond (decide (v_11 < v_6)) (some (.ret 1)) (some (.next (w64 (i5 + 1)))))) (some (.brk i5)))
    (fun i => ∃ n : Nat, i = n ∧ n ≤ a.length ∧ n ≤ b.length ∧ cmpL a b = cmpL (a.drop n) (b.drop n)) (fun i => a.length - i.toNat) (fun i => ∃ n : Nat, i = n ∧ n ≤ a.length ∧ n ≤ b.length ∧ cmpL a b = cmpL (a.drop n) (b.drop n) ∧ (n = a.length ∨ n = b.length)) (fun (r : Int) => r = cmpL a b)
    (fun i ⟨n, hi, hn1, hn2, hI⟩ => by
      subst hi
      by_cases h : n < a.length ∧ n < b.length
      · rw [cond_T' (by simp; omega), getI_lt h.1, Option.bind_some, getI_lt h.2, Option.bind_some]
        rw [cmpL_drop h.1 h.2] at hI
        by_cases c1 : a[n] < b[n]
        · rw [cond_T' (by simpa using c1)]; exact ⟨_, rfl, by rw [if_pos c1] at hI; exact hI.symm⟩
        · rw [cond_F' (by simpa using c1)]
          rw [if_neg c1] at hI
          by_cases c2 : b[n] < a[n]
          · rw [cond_T' (by simpa using c2)]; exact ⟨_, rfl, by rw [if_pos c2] at hI; exact hI.symm⟩
          · rw [cond_F' (by simpa using c2), w64_id (by omega)]
            rw [if_neg c2] at hI
            exact ⟨_, rfl, ⟨n + 1, by omega, h.1, h.2, hI⟩, by have := h.1; omega⟩
      · rw [cond_F' (by simp; omega)]
        exact ⟨_, rfl, n, rfl, hn1, hn2, hI, by omega⟩)
    u 0 (by simpa using hu) ⟨0, rfl, by omega, by omega, rfl⟩
  rw [h1, Option.bind_some]
  cases o with
  | inr r => simp only [onS]; rw [h2]
  | inl i =>
    obtain ⟨n, rfl, hn1, hn2, hI, hn⟩ := h2
    simp only [onS]
    rw [hI]
    by_cases c1 : a.length < b.length
    · have e : n = a.length := by omega
      rw [cond_T' (by simpa using c1), e, List.drop_eq_nil_of_le (Nat.le_refl _), cmpL_nil_l, if_neg (by simp; omega)]
    · rw [cond_F' (by simpa using c1)]
      by_cases c2 : b.length < a.length
      · have e : n = b.length := by omega
        rw [cond_T' (by simpa using c2), e, List.drop_eq_nil_of_le (Nat.le_refl b.length), cmpL_nil_r, if_neg (by simp; omega)]
      · have e : n = a.length := by omega
        rw [cond_F' (by simpa using c2), e, List.drop_eq_nil_of_le (Nat.le_refl _), cmpL_nil_l, if_pos (by simp; omega)]
/-! ### valid relations, facts and databases -/
theorem validRelation_tot (r : Relation) : ∃ b, m_impl_IsValidRelation r = some b := by
  unfold m_impl_IsValidRelation m_impl_within
  by_cases h : r.name.size = 1
  · have hb : ∃ z, getB r.name 0 = some z := by
      have h0 : 0 < r.name.size := by omega
      exact ⟨((r.name[0]'h0).toNat : Int), by unfold getB; rw [if_pos (by omega)]; simp [h0]⟩
    obtain ⟨z, hz⟩ := hb
    rw [cond_T' (by simp [h])]
    simp only [hz, Option.bind_some]
    cases decide (97 ≤ z) <;> cases decide (z ≤ 122) <;> simp only [cond_true, cond_false, Option.bind_some] <;> first | exact ⟨_, rfl⟩ | skip
    cases (decide (1 ≤ r.arity) && decide (r.arity ≤ 3)) <;> exact ⟨_, rfl⟩
  · rw [cond_F' (by simp; omega)]; exact ⟨_, rfl⟩
theorem validRelations_tot (l : List Relation) : ∃ b, m_impl_AreValidRelations l = some b := by
  unfold m_impl_AreValidRelations
  obtain ⟨o, h1, h2⟩ := forL_ok (xs := l) (s := ()) (f := fun (t_1 : Int) (x_t_1 : Relation) (_ : Unit) => ((m_impl_IsValidRelation x_t_1).bind fun r_5 => cond (!r_5) (some true) (cond (decide (0 < (t_1 : Int))) ((getI l ((t_1 : Int) - 1)).bind fun v_9 => some (!ltS v_9.name x_t_1.name)) (some false))).bind fun (t29 : Bool) => cond t29 (some (.ret false)) (some (.next ())))
    (fun _ _ => True) (fun _ => False) (fun (_ : Bool) => True) trivial fun n x s hx _ => by
      obtain ⟨b, hb⟩ := validRelation_tot x
      have hn : n < l.length := (List.getElem?_eq_some_iff.1 hx).1
      rw [hb, Option.bind_some]
      have key : ∃ t, cond (!b) (some true) (cond (decide (0 < (n : Int))) ((getI l ((n : Int) - 1)).bind fun v_9 => some (!ltS v_9.name x.name)) (some false)) = some t := by
        cases b with
        | false => exact ⟨_, rfl⟩
        | true =>
          by_cases h0 : 0 < n
          · have e : (n : Int) - 1 = ((n - 1 : Nat) : Int) := by omega
            rw [cond_nt, cond_T' (by simpa using h0), e, getI_lt (show n - 1 < l.length by omega)]; exact ⟨_, rfl⟩
          · rw [cond_nt, cond_F' (by simpa using h0)]; exact ⟨_, rfl⟩
      obtain ⟨t, ht⟩ := key
      rw [ht, Option.bind_some]
      cases t <;> exact ⟨_, rfl, trivial⟩
  rw [h1, Option.bind_some]
  cases o <;> exact ⟨_, rfl⟩
theorem spec_validRelations (l : List Relation) : m_spec_AreValidRelations l = m_impl_AreValidRelations l := rfl
/-- A fact over these relations. -/
def FactOK (l : List Relation) (f : Fact) : Prop := ∃ (n : Nat) (r : Relation), f.relation = n ∧ l[n]? = some r ∧ (f.values.length : Int) = r.arity ∧ ∀ v ∈ f.values, 0 ≤ v ∧ v ≤ 9
theorem areValues_eq (l : List Int) : ∃ b, m_impl_areValues l = some b ∧ (b = true ↔ ∀ v ∈ l, 0 ≤ v ∧ v ≤ 9) := by
  unfold m_impl_areValues m_slices_ContainsFunc_Sint_int m_slices_IndexFunc_Sint_int
  obtain ⟨o, h1, h2⟩ := forL_ok (xs := l) (s := ()) (f := fun (t_1 : Int) (x_t_1 : Int) (_ : Unit) => (m_impl_areValues_1 x_t_1).bind fun r_3 => cond r_3 (some (.ret (t_1 : Int))) (some (.next ())))
    (fun n _ => ∀ (j : Nat) x, j < n → l[j]? = some x → 0 ≤ x ∧ x ≤ 9) (fun _ => False) (fun r => 0 ≤ r ∧ ∃ x ∈ l, ¬ (0 ≤ x ∧ x ≤ 9)) (fun j x hj => by omega) fun n x s hx hI => by
      simp only [m_impl_areValues_1, m_impl_within, Option.bind_some]
      by_cases hp : 0 ≤ x ∧ x ≤ 9
      · rw [cond_F' (by simp [hp])]
        refine ⟨_, rfl, fun j y hj hy => ?_⟩
        by_cases e : j = n
        · subst e; rw [hx] at hy; cases hy; exact hp
        · exact hI j y (by omega) hy
      · rw [cond_T' (by simp; omega)]
        exact ⟨_, rfl, by omega, x, List.mem_of_getElem? hx, hp⟩
  rw [h1]
  cases o with
  | inl s =>
    refine ⟨_, rfl, ?_⟩
    have := h2.resolve_right id
    refine ⟨fun _ v hv => ?_, fun _ => by simp⟩
    obtain ⟨j, hj⟩ := List.getElem?_of_mem hv
    exact this j v (List.getElem?_eq_some_iff.1 hj).1 hj
  | inr r =>
    refine ⟨_, rfl, ?_⟩
    obtain ⟨h3, x, hx, hp⟩ := h2
    refine ⟨fun h => by simp at h; omega, fun h => (hp (h x hx)).elim⟩
theorem isFact_eq (l : List Relation) (f : Fact) : ∃ b, m_impl_isFact l f = some b ∧ (b = true ↔ FactOK l f) := by
  unfold m_impl_isFact m_impl_within
  simp only [Option.bind_some]
  by_cases h : 0 ≤ f.relation ∧ f.relation ≤ (l.length : Int) - 1
  · rw [cond_T' (by simp [h])]
    obtain ⟨n, hn⟩ : ∃ n : Nat, f.relation = n := ⟨f.relation.toNat, by omega⟩
    have hnl : n < l.length := by omega
    rw [hn, getI_lt hnl, Option.bind_some]
    by_cases ha : (f.values.length : Int) = l[n].arity
    · rw [cond_T' (by simpa using ha)]
      obtain ⟨b, h1, h2⟩ := areValues_eq f.values
      rw [h1]
      refine ⟨b, rfl, h2.trans ⟨fun hv => ⟨n, l[n], hn, List.getElem?_eq_getElem hnl, ha, hv⟩, fun ⟨_, _, _, _, _, hv⟩ => hv⟩⟩
    · rw [cond_F' (by simpa using ha)]
      refine ⟨false, rfl, by simp, fun ⟨n', r, h3, h4, h5, _⟩ => ?_⟩
      have : n' = n := by omega
      subst this
      rw [List.getElem?_eq_getElem hnl] at h4; cases h4
      exact (ha h5).elim
  · rw [cond_F' (by simp; omega)]
    refine ⟨false, rfl, by simp, fun ⟨n', r, h3, h4, _⟩ => ?_⟩
    have := (List.getElem?_eq_some_iff.1 h4).1
    omega
theorem spec_isFact_eq (u : Nat) (l : List Relation) (f : Fact) (hu : f.values.length < u) (hf : f.values.length ≤ 1048576) : ∃ b, m_spec_IsValidFact u l f = some b ∧ (b = true ↔ m_impl_AreValidRelations l = some true ∧ FactOK l f) := by
  unfold m_spec_IsValidFact m_spec_l1In
  rw [spec_validRelations]
  obtain ⟨bl, hbl⟩ := validRelations_tot l
  rw [hbl, Option.bind_some]
  cases bl with
  | false => exact ⟨false, rfl, by simp⟩
  | true =>
    rw [cond_nt]
    simp only [Option.bind_some]
    by_cases h : 0 ≤ f.relation ∧ f.relation ≤ (l.length : Int) - 1
    · rw [cond_F' (by simp [h])]
      obtain ⟨n, hn⟩ : ∃ n : Nat, f.relation = n := ⟨f.relation.toNat, by omega⟩
      have hnl : n < l.length := by omega
      rw [hn, getI_lt hnl, Option.bind_some, Option.bind_some]
      by_cases ha : (f.values.length : Int) = l[n].arity
      · rw [cond_F' (by simpa using ha)]
        obtain ⟨o, h1, h2⟩ := while_ok (f := fun (i5 : Int) => cond (decide (i5 < (f.values.length : Int))) ((getI f.values i5).bind fun v_18 => (some ((decide (0 ≤ v_18)) && (decide (v_18 ≤ 9)))).bind fun r_23 => cond (!r_23) (some (.ret false)) (some (.next (w64 (i5 + 1))))) (some (.brk i5)))
          (fun i => ∃ n : Nat, i = n ∧ n ≤ f.values.length ∧ ∀ (j : Nat) x, j < n → f.values[j]? = some x → 0 ≤ x ∧ x ≤ 9) (fun i => f.values.length - i.toNat) (fun i => ∀ v ∈ f.values, 0 ≤ v ∧ v ≤ 9) (fun (r : Bool) => r = false ∧ ¬ ∀ v ∈ f.values, 0 ≤ v ∧ v ≤ 9)
          (fun i ⟨n, hi, hn1, hI⟩ => by
            subst hi
            by_cases h : n < f.values.length
            · rw [cond_T' (by simpa using h), getI_lt h, Option.bind_some, Option.bind_some]
              by_cases hp : 0 ≤ f.values[n] ∧ f.values[n] ≤ 9
              · rw [cond_F' (by simp [hp]), w64_id (by omega)]
                refine ⟨_, rfl, ⟨n + 1, by omega, h, fun j x hj hx => ?_⟩, by omega⟩
                by_cases e : j = n
                · subst e; rw [List.getElem?_eq_getElem h] at hx; cases hx; exact hp
                · exact hI j x (by omega) hx
              · rw [cond_T' (by simp; omega)]
                exact ⟨_, rfl, rfl, fun hv => hp (hv _ (List.getElem_mem h))⟩
            · rw [cond_F' (by simpa using h)]
              refine ⟨_, rfl, fun v hv => ?_⟩
              obtain ⟨j, hj⟩ := List.getElem?_of_mem hv
              have := (List.getElem?_eq_some_iff.1 hj).1
              exact hI j v (by omega) hj)
          u 0 (by simpa using hu) ⟨0, rfl, by omega, fun j x hj => by omega⟩
        simp only [Option.bind_some] at h1
        rw [h1, Option.bind_some]
        cases o with
        | inl i => exact ⟨true, rfl, by simp; exact ⟨n, l[n], hn, List.getElem?_eq_getElem hnl, ha, h2⟩⟩
        | inr r =>
          obtain ⟨rfl, h3⟩ := h2
          exact ⟨false, rfl, by simp; rintro ⟨_, _, _, _, _, hv⟩; exact h3 hv⟩
      · rw [cond_T' (by simpa using ha)]
        refine ⟨false, rfl, by simp, fun ⟨_, n', r, h3, h4, h5, _⟩ => ?_⟩
        have : n' = n := by omega
        subst this
        rw [List.getElem?_eq_getElem hnl] at h4; cases h4
        exact (ha h5).elim
    · rw [cond_T' (by simp; omega)]
      refine ⟨false, rfl, by simp, fun ⟨_, n', r, h3, h4, _⟩ => ?_⟩
      have := (List.getElem?_eq_some_iff.1 h4).1
      omega
/-- Facts, compared. -/
def cmpF (a b : Fact) : Int := if a.relation < b.relation then -1 else if b.relation < a.relation then 1 else cmpL a.values b.values
theorem impl_CompareFacts_eq (a b : Fact) : m_impl_CompareFacts a b = some (cmpF a b) := by
  unfold m_impl_CompareFacts m_impl_compare cmpF
  rw [slices_Compare_eq]
  by_cases h1 : a.relation < b.relation
  · rw [cond_T' (by simp; omega), cond_T' (by simpa using h1), if_pos h1]; rfl
  · by_cases h2 : b.relation < a.relation
    · rw [cond_T' (by simp; omega), cond_F' (by simpa using h1), cond_T' (by simpa using h2), if_neg h1, if_pos h2]; rfl
    · rw [cond_F' (by simp; omega), if_neg h1, if_neg h2]; rfl
theorem spec_CompareFacts_eq (u : Nat) (a b : Fact) (hu : a.values.length < u) (ha : a.values.length ≤ 1048576) (hb : b.values.length ≤ 1048576) : m_spec_CompareFacts u a b = some (cmpF a b) := by
  unfold m_spec_CompareFacts cmpF
  rw [l3Ints_cmp _ _ u hu ha (by omega)]
  by_cases h1 : a.relation < b.relation
  · rw [cond_T' (by simpa using h1), if_pos h1]
  · by_cases h2 : b.relation < a.relation
    · rw [cond_F' (by simpa using h1), cond_T' (by simpa using h2), if_neg h1, if_pos h2]
    · rw [cond_F' (by simpa using h1), cond_F' (by simpa using h2), if_neg h1, if_neg h2]; rfl
/-- A valid database. -/
structure DbOK (d : Database) : Prop where
  rels : m_impl_AreValidRelations d.relations = some true
  few : d.facts.length ≤ 14
  fact : ∀ (n : Nat) f, d.facts[n]? = some f → FactOK d.relations f
  sorted : ∀ (n : Nat) f g, d.facts[n]? = some f → d.facts[n + 1]? = some g → cmpF f g < 0
theorem round_eq (d : Database) {n : Nat} (hn : n < d.facts.length) (b : Bool) (p : Prop) (hb : b = true ↔ p) : ∃ t, cond (!b) (some true) (cond (decide (0 < (n : Int))) ((getI d.facts ((n : Int) - 1)).bind fun v_15 => some (decide (0 ≤ cmpF v_15 d.facts[n]))) (some false)) = some t ∧ (t = false ↔ p ∧ ∀ m f, m + 1 = n → d.facts[m]? = some f → cmpF f d.facts[n] < 0) := by
  cases b with
  | false => exact ⟨true, rfl, by simp at hb; simp [hb]⟩
  | true =>
    have hp : p := hb.1 rfl
    by_cases h0 : 0 < n
    · have e : (n : Int) - 1 = ((n - 1 : Nat) : Int) := by omega
      rw [cond_nt, cond_T' (by simpa using h0), e, getI_lt (show n - 1 < d.facts.length by omega)]
      refine ⟨_, rfl, ?_⟩
      simp only [decide_eq_false_iff_not, hp, true_and]
      constructor
      · intro h m f hm hf
        have : m = n - 1 := by omega
        subst this
        rw [List.getElem?_eq_getElem (by omega)] at hf; cases hf; omega
      · intro h
        have := h (n - 1) d.facts[n - 1] (by omega) (List.getElem?_eq_getElem (by omega)); omega
    · rw [cond_nt, cond_F' (by simpa using h0)]
      exact ⟨_, rfl, by simp [hp]; intro m f hm; omega⟩
theorem impl_IsValidDatabase_eq (d : Database) : ∃ b, m_impl_IsValidDatabase d = some b ∧ (b = true ↔ DbOK d) := by
  unfold m_impl_IsValidDatabase
  obtain ⟨bl, hbl⟩ := validRelations_tot d.relations
  rw [hbl, Option.bind_some]
  cases bl with
  | false => exact ⟨false, rfl, by simp; intro h; have := h.rels; rw [hbl] at this; cases this⟩
  | true =>
    rw [cond_nt, Option.bind_some]
    by_cases hf : d.facts.length ≤ 14
    · rw [cond_F' (by simp; omega)]
      obtain ⟨o, h1, h2⟩ := forL_ok (xs := d.facts) (s := ()) (f := fun (t_7 : Int) (x_t_7 : Fact) (_ : Unit) => ((m_impl_isFact d.relations x_t_7).bind fun r_11 => cond (!r_11) (some true) (cond (decide (0 < (t_7 : Int))) ((getI d.facts ((t_7 : Int) - 1)).bind fun v_15 => (m_impl_CompareFacts v_15 x_t_7).bind fun r_20 => some (decide (0 ≤ r_20))) (some false))).bind fun (t42 : Bool) => cond t42 (some (.ret false)) (some (.next ())))
        (fun n _ => ∀ (j : Nat) (h : j < d.facts.length), j < n → FactOK d.relations d.facts[j] ∧ ∀ m f, m + 1 = j → d.facts[m]? = some f → cmpF f d.facts[j] < 0) (fun _ => False) (fun r => r = false ∧ ¬ DbOK d) (fun j _ hj => by omega) fun n x s hx hI => by
          have hn : n < d.facts.length := (List.getElem?_eq_some_iff.1 hx).1
          rw [List.getElem?_eq_getElem hn] at hx; cases hx
          obtain ⟨b, h3, h4⟩ := isFact_eq d.relations d.facts[n]
          rw [h3, Option.bind_some]
          simp only [impl_CompareFacts_eq, Option.bind_some]
          obtain ⟨t, h5, h6⟩ := round_eq d hn b _ h4
          rw [h5, Option.bind_some]
          cases t with
          | false =>
            refine ⟨_, rfl, fun j hj hjn => ?_⟩
            by_cases e : j = n
            · subst e; exact h6.1 rfl
            · exact hI j hj (by omega)
          | true =>
            refine ⟨_, rfl, rfl, fun hok => ?_⟩
            have := h6.2 ⟨hok.fact n _ (List.getElem?_eq_getElem hn), fun m f hm hf => hok.sorted m f _ hf (by rw [hm]; exact List.getElem?_eq_getElem hn)⟩
            cases this
      rw [h1, Option.bind_some]
      cases o with
      | inl s =>
        have h3 := h2.resolve_right id
        refine ⟨true, rfl, fun _ => ⟨hbl, hf, fun n f hn => ?_, fun n f g hn hg => ?_⟩, fun _ => rfl⟩
        · obtain ⟨hl, rfl⟩ := List.getElem?_eq_some_iff.1 hn; exact (h3 n hl hl).1
        · obtain ⟨hl, rfl⟩ := List.getElem?_eq_some_iff.1 hg; exact (h3 (n + 1) hl hl).2 n f rfl hn
      | inr r => obtain ⟨rfl, h3⟩ := h2; exact ⟨false, rfl, by simp [h3]⟩
    · rw [cond_T' (by simp; omega)]
      exact ⟨false, rfl, by simp; intro h; exact hf h.few⟩
theorem spec_IsValidDatabase_eq (u : Nat) (d : Database) (hd : DbS d) (hu : 1048577 < u) : ∃ b, m_spec_IsValidDatabase u d = some b ∧ (b = true ↔ DbOK d) := by
  unfold m_spec_IsValidDatabase
  have hfl := hd.2.1
  obtain ⟨o, h1, h2⟩ := while_ok (f := fun (i3 : Int) => cond (decide (i3 < (d.facts.length : Int))) (((getI d.facts i3).bind fun v_5 => (m_spec_IsValidFact u d.relations v_5).bind fun r_10 => cond (!r_10) (some true) (cond (decide (0 < i3)) ((getI d.facts (w64 (i3 - 1))).bind fun v_14 => (m_spec_CompareFacts u v_14 v_5).bind fun r_19 => some (decide (0 ≤ r_19))) (some false))).bind fun (t38 : Bool) => cond t38 (some (.ret false)) (some (.next (w64 (i3 + 1))))) (some (.brk i3)))
    (fun i => ∃ n : Nat, i = n ∧ n ≤ d.facts.length ∧ ∀ (j : Nat) (h : j < d.facts.length), j < n → FactOK d.relations d.facts[j] ∧ ∀ m f, m + 1 = j → d.facts[m]? = some f → cmpF f d.facts[j] < 0) (fun i => d.facts.length - i.toNat)
    (fun i => ∀ (j : Nat) (h : j < d.facts.length), FactOK d.relations d.facts[j] ∧ ∀ m f, m + 1 = j → d.facts[m]? = some f → cmpF f d.facts[j] < 0) (fun (r : Bool) => r = false ∧ ¬ DbOK d)
    (fun i ⟨n, hi, hn1, hI⟩ => by
      subst hi
      by_cases h : n < d.facts.length
      · have hv := hd.2.2.2 _ (List.getElem_mem h)
        rw [cond_T' (by simpa using h), getI_lt h, Option.bind_some]
        obtain ⟨b, h3, h4⟩ := spec_isFact_eq u d.relations d.facts[n] (by omega) hv
        rw [h3, Option.bind_some, w64_id (x := (n : Int) - 1) (by omega)]
        have e : ((getI d.facts ((n : Int) - 1)).bind fun v_14 => (m_spec_CompareFacts u v_14 d.facts[n]).bind fun r_19 => some (decide (0 ≤ r_19))) = (getI d.facts ((n : Int) - 1)).bind fun v_15 => some (decide (0 ≤ cmpF v_15 d.facts[n])) := by
          cases hg : getI d.facts ((n : Int) - 1) with
          | none => rfl
          | some f =>
            obtain ⟨m, _, hm⟩ := getI_inv hg
            have hv2 := hd.2.2.2 f (List.mem_of_getElem? hm)
            rw [Option.bind_some, Option.bind_some, spec_CompareFacts_eq u f _ (by omega) hv2 hv]; rfl
        rw [e]
        obtain ⟨t, h5, h6⟩ := round_eq d h b _ h4
        rw [h5, Option.bind_some]
        cases t with
        | false =>
          rw [cond_F' rfl, w64_id (by omega)]
          refine ⟨_, rfl, ⟨n + 1, by omega, h, fun j hj hjn => ?_⟩, by omega⟩
          by_cases e : j = n
          · subst e; have := h6.1 rfl; exact ⟨this.1.2, this.2⟩
          · exact hI j hj (by omega)
        | true =>
          refine ⟨_, rfl, rfl, fun hok => ?_⟩
          have := h6.2 ⟨⟨hok.rels, hok.fact n _ (List.getElem?_eq_getElem h)⟩, fun m f hm hf => hok.sorted m f _ hf (by rw [hm]; exact List.getElem?_eq_getElem h)⟩
          cases this
      · rw [cond_F' (by simpa using h)]
        exact ⟨_, rfl, fun j hj => hI j hj (by omega)⟩)
    u 0 (by simp; omega) ⟨0, rfl, by omega, fun j _ hj => by omega⟩
  rw [h1, Option.bind_some]
  cases o with
  | inr r => obtain ⟨rfl, h3⟩ := h2; exact ⟨false, rfl, by simp [h3]⟩
  | inl i =>
    simp only [onS, spec_validRelations]
    obtain ⟨bl, hbl⟩ := validRelations_tot d.relations
    rw [hbl, Option.bind_some]
    cases bl with
    | false => exact ⟨false, rfl, by simp; intro h; have := h.rels; rw [hbl] at this; cases this⟩
    | true =>
      refine ⟨_, rfl, ?_⟩
      simp only [decide_eq_true_eq]
      refine ⟨fun hf => ⟨hbl, by omega, fun n f hn => ?_, fun n f g hn hg => ?_⟩, fun h => by have := h.few; omega⟩
      · obtain ⟨hl, rfl⟩ := List.getElem?_eq_some_iff.1 hn; exact (h2 n hl).1
      · obtain ⟨hl, rfl⟩ := List.getElem?_eq_some_iff.1 hg; exact (h2 (n + 1) hl).2 n f rfl hn
end Go.Proofs.Ytlcpdlngbofgcaa

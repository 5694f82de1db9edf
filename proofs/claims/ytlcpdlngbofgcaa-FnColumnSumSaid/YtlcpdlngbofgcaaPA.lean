/- Plain laws. -/
import Derived.Test.YtlcpdlngbofgcaaCRC
import Derived.Test.YtlcpdlngbofgcaaM0
/- Databases: sizes, copies, comparisons, and what valid ones are, for both sides. -/
set_option linter.unusedVariables false
set_option linter.unusedSimpArgs false
namespace Go.Proofs.Ytlcpdlngbofgcaa
open Go Go.Proofs Go.Sep
theorem cond_nt {α : Type} {x y : α} : cond (!true) x y = y := rfl
theorem cond_nf {α : Type} {x y : α} : cond (!false) x y = x := rfl
/-! ### sizes -/
theorem szIntS_b (a : List Int) (hl : a.length ≤ 9223372036854775807) (left : Int) (h0 : 0 ≤ left) (h1 : left ≤ 1048576) : ∃ r, m_laws_szIntS a left = some r ∧ (r = -1 ∨ (0 ≤ r ∧ r ≤ left ∧ a.length ≤ 1048576)) := by
  unfold m_laws_szIntS
  rw [w64_id (by omega)]
  by_cases h : left < a.length
  · rw [cond_T' (by simp; omega)]; exact ⟨_, rfl, .inl rfl⟩
  · rw [cond_F' (by simp; omega)]; exact ⟨_, rfl, .inr ⟨by omega, by omega, by omega⟩⟩
theorem szRelation_b (a : Relation) (hl : a.name.size ≤ 9223372036854775807) (left : Int) (h0 : 0 ≤ left) (h1 : left ≤ 1048576) : ∃ r, m_laws_szRelation a left = some r ∧ (r = -1 ∨ (0 ≤ r ∧ r ≤ left ∧ a.name.size ≤ 1048576)) := by
  unfold m_laws_szRelation
  rw [w64_id (by omega)]
  by_cases h : left < a.name.size
  · rw [cond_T' (by simp; omega)]; exact ⟨_, rfl, .inl rfl⟩
  · rw [cond_F' (by simp; omega)]; exact ⟨_, rfl, .inr ⟨by omega, by omega, by omega⟩⟩
theorem szFact_b (a : Fact) (hl : a.values.length ≤ 9223372036854775807) (left : Int) (h0 : 0 ≤ left) (h1 : left ≤ 1048576) : ∃ r, m_laws_szFact a left = some r ∧ (r = -1 ∨ (0 ≤ r ∧ r ≤ left ∧ a.values.length ≤ 1048576)) := by
  unfold m_laws_szFact
  obtain ⟨r, h2, h3⟩ := szIntS_b a.values hl left h0 h1
  rw [h2, Option.bind_some]
  rcases h3 with rfl | h3
  · exact ⟨_, rfl, .inl rfl⟩
  · rw [cond_F' (by simp; omega)]; exact ⟨_, rfl, .inr h3⟩
/-- What can be held in a machine, for a database. -/
def DbM (d : Database) : Prop := d.relations.length ≤ 9223372036854775807 ∧ d.facts.length ≤ 9223372036854775807 ∧ (∀ r ∈ d.relations, r.name.size ≤ 9223372036854775807) ∧ ∀ f ∈ d.facts, f.values.length ≤ 9223372036854775807
/-- A database that is small enough for the laws. -/
def DbS (d : Database) : Prop := d.relations.length ≤ 1048576 ∧ d.facts.length ≤ 1048576 ∧ (∀ r ∈ d.relations, r.name.size ≤ 1048576) ∧ ∀ f ∈ d.facts, f.values.length ≤ 1048576
theorem szDatabase_b (d : Database) (hd : DbM d) (left : Int) (h0 : 0 ≤ left) (h1 : left ≤ 1048576) : ∃ r, m_laws_szDatabase d left = some r ∧ (r = -1 ∨ (0 ≤ r ∧ r ≤ left ∧ DbS d)) := by
  obtain ⟨r1, h2, h3⟩ := sz_loop (fun r : Relation => r.name.size ≤ 1048576) (a := d.relations) (fun x hx l => szRelation_b x (hd.2.2.1 x hx) l) h0 h1 hd.1
  have h2' : m_laws_szRelationS d.relations left = some r1 := h2
  unfold m_laws_szDatabase
  rw [h2', Option.bind_some]
  rcases h3 with rfl | ⟨h3, h4, h5⟩
  · exact ⟨_, rfl, .inl rfl⟩
  · rw [cond_F' (by simp; omega)]
    obtain ⟨r2, h6, h7⟩ := sz_loop (fun f : Fact => f.values.length ≤ 1048576) (a := d.facts) (fun x hx l => szFact_b x (hd.2.2.2 x hx) l) h3 (by omega) hd.2.1
    have h6' : m_laws_szFactS d.facts r1 = some r2 := h6
    rw [h6', Option.bind_some]
    rcases h7 with rfl | ⟨h7, h8, h9⟩
    · exact ⟨_, rfl, .inl rfl⟩
    · rw [cond_F' (by simp; omega)]; exact ⟨_, rfl, .inr ⟨h7, by omega, by omega, by omega, h5, h9⟩⟩
/-! ### copies -/
theorem toIntS_id (a : List Int) (hl : a.length ≤ 1048576) : m_laws_toIntS a = some a := by
  unfold m_laws_toIntS
  rw [mk_ok (by omega) (by omega), Option.bind_some, forS_fill (fun x => x) (by simp) fun n x zs hx hz => ?_]
  · simp
  · have hn : n < zs.length := by have := (List.getElem?_eq_some_iff.1 hx).1; omega
    rw [getI_lt hn]; simp
theorem toDatabase_id (d : Database) (hd : DbS d) : m_laws_toDatabase d = some d := by
  have h1 : m_laws_toRelationS d.relations = some d.relations := by
    have := to_loop (b := 32) (z := (default : Relation)) (g := m_laws_toRelation) (fun x => x) (a := d.relations) (fun x _ => rfl) hd.1 (by omega)
    rw [List.map_id'] at this; exact this
  have h2 : m_laws_toFactS d.facts = some d.facts := by
    have := to_loop (b := 32) (z := (default : Fact)) (g := m_laws_toFact) (fun x => x) (a := d.facts) (fun x hx => by unfold m_laws_toFact; rw [toIntS_id _ (hd.2.2.2 x hx)]; rfl) hd.2.1 (by omega)
    rw [List.map_id'] at this; exact this
  unfold m_laws_toDatabase
  rw [h1, Option.bind_some, h2, Option.bind_some]
/-! ### comparisons with itself -/
theorem eqIntS_self (a : List Int) : m_laws_eqIntS a a = some true := by
  unfold m_laws_eqIntS
  rw [cond_F' (by simp)]
  obtain ⟨o, h1, h2⟩ := forL_ok (xs := a) (s := ()) (f := fun (i_2 : Int) (x_i_2 : Int) (_ : Unit) => (getI a (i_2 : Int)).bind fun v_4 => cond (decide (x_i_2 ≠ v_4)) (some (.ret false)) (some (.next ())))
    (fun _ _ => True) (fun _ => False) (fun (_ : Bool) => False) trivial fun n x s hx _ => by
      rw [getI_nat, hx, Option.bind_some, cond_F' (by simp)]
      exact ⟨_, rfl, trivial⟩
  rw [h1, Option.bind_some]
  cases o with
  | inl s => rfl
  | inr r => exact h2.elim
theorem eqRelation_self (a : Relation) : m_laws_eqRelation a a = some true := by simp [m_laws_eqRelation]
theorem eqFact_self (a : Fact) : m_laws_eqFact a a = some true := by
  unfold m_laws_eqFact
  rw [cond_F' (by simp), eqIntS_self]; rfl
theorem eqDatabase_self (d : Database) : m_laws_eqDatabase d d = some true := by
  have h1 : m_laws_eqRelationS d.relations d.relations = some true := eq_loop (fun x _ => eqRelation_self x)
  have h2 : m_laws_eqFactS d.facts d.facts = some true := eq_loop (fun x _ => eqFact_self x)
  unfold m_laws_eqDatabase
  rw [h1, Option.bind_some, h2]; rfl
/-! ### lists compared -/
theorem cmpL_drop {a b : List Int} {i : Nat} (h1 : i < a.length) (h2 : i < b.length) : cmpL (a.drop i) (b.drop i) = if a[i] < b[i] then -1 else if b[i] < a[i] then 1 else cmpL (a.drop (i + 1)) (b.drop (i + 1)) := by
  rw [List.drop_eq_getElem_cons h1, List.drop_eq_getElem_cons h2]; rfl
theorem cmpL_nil_r (a : List Int) : cmpL a [] = if a.length = 0 then 0 else 1 := by cases a <;> simp [cmpL]
theorem cmpL_nil_l (b : List Int) : cmpL [] b = if b.length = 0 then 0 else -1 := by cases b <;> simp [cmpL]
theorem cmp_Compare_eq (x y : Int) : m_cmp_Compare_int x y = some (if x < y then -1 else if y < x then 1 else 0) := by
  unfold m_cmp_Compare_int m_cmp_isNaN_int
  simp only [Option.bind_some, ne_eq, not_true_eq_false, decide_false, cond_false]
  by_cases h1 : x < y
  · simp [h1]
  · by_cases h2 : y < x <;> simp [h1, h2]
theorem slices_Compare_from (a b : List Int) : ∀ (k i : Nat), i + k = a.length → (forL (R := Int) (fun (t_1 : Int) (x_t_1 : Int) (_ : Unit) => cond (decide ((b.length : Int) ≤ (t_1 : Int))) (some (.ret 1)) ((getI b (t_1 : Int)).bind fun v_4 => (m_cmp_Compare_int x_t_1 v_4).bind fun r_9 => cond (decide (r_9 ≠ 0)) (some (.ret r_9)) (some (.next ())))) (a.drop i) (i : Int) ()).bind (fun O2_ => onS O2_ (fun (_ : Unit) => cond (decide ((a.length : Int) < (b.length : Int))) (some (-1)) (some 0)) (fun r => some r)) = some (cmpL (a.drop i) (b.drop i))
  | 0, i, hk => by
    rw [List.drop_eq_nil_of_le (show a.length ≤ i by omega), cmpL_nil_l]
    simp only [forL, Option.bind_some, onS, List.length_drop]
    by_cases h : a.length < b.length
    · rw [cond_T' (by simpa using h), if_neg (by omega)]
    · rw [cond_F' (by simpa using h), if_pos (by omega)]
  | k + 1, i, hk => by
    have hi : i < a.length := by omega
    rw [List.drop_eq_getElem_cons hi]
    simp only [forL]
    by_cases hb : b.length ≤ i
    · rw [cond_T' (by simpa using hb), List.drop_eq_nil_of_le hb]; rfl
    · rw [cond_F' (by simpa using hb), getI_lt (show i < b.length by omega), Option.bind_some, cmp_Compare_eq, Option.bind_some]
      rw [← List.drop_eq_getElem_cons hi, cmpL_drop hi (by omega)]
      by_cases h1 : a[i] < b[i]
      · simp [h1, onS]
      · by_cases h2 : b[i] < a[i]
        · simp [h1, h2, onS]
        · simp only [h1, h2, if_false, ne_eq, not_true_eq_false, decide_false, cond_false, Option.bind_some]
          exact slices_Compare_from a b k (i + 1) (by omega)
theorem slices_Compare_eq (a b : List Int) : m_slices_Compare_Sint_int a b = some (cmpL a b) := slices_Compare_from a b a.length 0 (by omega)
theorem l3Ints_cmp (a b : List Int) (u : Nat) (hu : a.length < u) (ha : a.length ≤ 1048576) (hb : b.length ≤ 9223372036854775807) : m_spec_l3Ints u a b = some (cmpL a b) := by
  unfold m_spec_l3Ints
  obtain ⟨o, h1, h2⟩ := while_ok (f := fun (i5 : Int) => cond ((decide (i5 < (a.length : Int))) && (decide (i5 < (b.length : Int)))) ((getI a i5).bind fun v_6 => (getI b i5).bind fun v_11 => cond (decide (v_6 < v_11)) (some (.ret (-1))) (cond (decide (v_11 < v_6)) (some (.ret 1)) (some (.next (w64 (i5 + 1)))))) (some (.brk i5)))
    (fun i => ∃ n : Nat, i = n ∧ n ≤ a.length ∧ n ≤ b.length ∧ cmpL a b = cmpL (a.drop n) (b.drop n)) (fun i => a.length - i.toNat) (fun i => ∃ n : Nat, i = n ∧ n ≤ a.length ∧ n ≤ b.length ∧ cmpL a b = cmpL (a.drop n) (b.drop n) ∧ (n = a.length ∨ n = b.length)) (fun (r : Int) => r = cmpL a b)
    (fun i ⟨n, hi, hn1, hn2, hI⟩ => by
      subst hi
      by_cases h : n < a.length ∧ n < b.length
      · rw [cond_T' (by simp; omega), getI_lt h.1, Option.bind_some, getI_lt h.2, Option.bind_some]
        rw [cmpL_drop h.1 h.2] at hI
        by_cases c1 : a[n] < b[n]
        · rw [cond_T' (by simpa using c1)]; exact ⟨_, rfl, by rw [if_pos c1] at hI; exact hI.symm⟩
        · rw [cond_F' (by simpa using c1)]
          rw [if_neg c1] at hI
          by_cases c2 : b[n] < a[n]
          · rw [cond_T' (by simpa using c2)]; exact ⟨_, rfl, by rw [if_pos c2] at hI; exact hI.symm⟩
          · rw [cond_F' (by simpa using c2), w64_id (by omega)]
            rw [if_neg c2] at hI
            exact ⟨_, rfl, ⟨n + 1, by omega, h.1, h.2, hI⟩, by have := h.1; omega⟩
      · rw [cond_F' (by simp; omega)]
        exact ⟨_, rfl, n, rfl, hn1, hn2, hI, by omega⟩)
    u 0 (by simpa using hu) ⟨0, rfl, by omega, by omega, rfl⟩
  rw [h1, Option.bind_some]
  cases o with
  | inr r => simp only [onS]; rw [h2]
  | inl i =>
    obtain ⟨n, rfl, hn1, hn2, hI, hn⟩ := h2
    simp only [onS]
    rw [hI]
    by_cases c1 : a.length < b.length
    · have e : n = a.length := by omega
      rw [cond_T' (by simpa using c1), e, List.drop_eq_nil_of_le (Nat.le_refl _), cmpL_nil_l, if_neg (by simp; omega)]
    · rw [cond_F' (by simpa using c1)]
      by_cases c2 : b.length < a.length
      · have e : n = b.length := by omega
        rw [cond_T' (by simpa using c2), e, List.drop_eq_nil_of_le (Nat.le_refl b.length), cmpL_nil_r, if_neg (by simp; omega)]
      · have e : n = a.length := by omega
        rw [cond_F' (by simpa using c2), e, List.drop_eq_nil_of_le (Nat.le_refl _), cmpL_nil_l, if_pos (by simp; omega)]
/-! ### valid relations, facts and databases -/
theorem validRelation_tot (r : Relation) : ∃ b, m_impl_IsValidRelation r = some b := by
  unfold m_impl_IsValidRelation m_impl_within
  by_cases h : r.name.size = 1
  · have hb : ∃ z, getB r.name 0 = some z := by
      have h0 : 0 < r.name.size := by omega
      exact ⟨((r.name[0]'h0).toNat : Int), by unfold getB; rw [if_pos (by omega)]; simp [h0]⟩
    obtain ⟨z, hz⟩ := hb
    rw [cond_T' (by simp [h])]
    simp only [hz, Option.bind_some]
    cases decide (97 ≤ z) <;> cases decide (z ≤ 122) <;> simp only [cond_true, cond_false, Option.bind_some] <;> first | exact ⟨_, rfl⟩ | skip
    cases (decide (1 ≤ r.arity) && decide (r.arity ≤ 3)) <;> exact ⟨_, rfl⟩
  · rw [cond_F' (by simp; omega)]; exact ⟨_, rfl⟩
theorem validRelations_tot (l : List Relation) : ∃ b, m_impl_AreValidRelations l = some b := by
  unfold m_impl_AreValidRelations
  obtain ⟨o, h1, h2⟩ := forL_ok (xs := l) (s := ()) (f := fun (t_1 : Int) (x_t_1 : Relation) (_ : Unit) => ((m_impl_IsValidRelation x_t_1).bind fun r_5 => cond (!r_5) (some true) (cond (decide (0 < (t_1 : Int))) ((getI l ((t_1 : Int) - 1)).bind fun v_9 => some (!ltS v_9.name x_t_1.name)) (some false))).bind fun (t29 : Bool) => cond t29 (some (.ret false)) (some (.next ())))
    (fun _ _ => True) (fun _ => False) (fun (_ : Bool) => True) trivial fun n x s hx _ => by
      obtain ⟨b, hb⟩ := validRelation_tot x
      have hn : n < l.length := (List.getElem?_eq_some_iff.1 hx).1
      rw [hb, Option.bind_some]
      have key : ∃ t, cond (!b) (some true) (cond (decide (0 < (n : Int))) ((getI l ((n : Int) - 1)).bind fun v_9 => some (!ltS v_9.name x.name)) (some false)) = some t := by
        cases b with
        | false => exact ⟨_, rfl⟩
        | true =>
          by_cases h0 : 0 < n
          · have e : (n : Int) - 1 = ((n - 1 : Nat) : Int) := by omega
            rw [cond_nt, cond_T' (by simpa using h0), e, getI_lt (show n - 1 < l.length by omega)]; exact ⟨_, rfl⟩
          · rw [cond_nt, cond_F' (by simpa using h0)]; exact ⟨_, rfl⟩
      obtain ⟨t, ht⟩ := key
      rw [ht, Option.bind_some]
      cases t <;> exact ⟨_, rfl, trivial⟩
  rw [h1, Option.bind_some]
  cases o <;> exact ⟨_, rfl⟩
theorem spec_validRelations (l : List Relation) : m_spec_AreValidRelations l = m_impl_AreValidRelations l := rfl
/-- A fact over these relations. -/
def FactOK (l : List Relation) (f : Fact) : Prop := ∃ (n : Nat) (r : Relation), f.relation = n ∧ l[n]? = some r ∧ (f.values.length : Int) = r.arity ∧ ∀ v ∈ f.values, 0 ≤ v ∧ v ≤ 9
theorem areValues_eq (l : List Int) : ∃ b, m_impl_areValues l = some b ∧ (b = true ↔ ∀ v ∈ l, 0 ≤ v ∧ v ≤ 9) := by
  unfold m_impl_areValues m_slices_ContainsFunc_Sint_int m_slices_IndexFunc_Sint_int
  obtain ⟨o, h1, h2⟩ := forL_ok (xs := l) (s := ()) (f := fun (t_1 : Int) (x_t_1 : Int) (_ : Unit) => (m_impl_areValues_1 x_t_1).bind fun r_3 => cond r_3 (some (.ret (t_1 : Int))) (some (.next ())))
    (fun n _ => ∀ (j : Nat) x, j < n → l[j]? = some x → 0 ≤ x ∧ x ≤ 9) (fun _ => False) (fun r => 0 ≤ r ∧ ∃ x ∈ l, ¬ (0 ≤ x ∧ x ≤ 9)) (fun j x hj => by omega) fun n x s hx hI => by
      simp only [m_impl_areValues_1, m_impl_within, Option.bind_some]
      by_cases hp : 0 ≤ x ∧ x ≤ 9
      · rw [cond_F' (by simp [hp])]
        refine ⟨_, rfl, fun j y hj hy => ?_⟩
        by_cases e : j = n
        · subst e; rw [hx] at hy; cases hy; exact hp
        · exact hI j y (by omega) hy
      · rw [cond_T' (by simp; omega)]
        exact ⟨_, rfl, by omega, x, List.mem_of_getElem? hx, hp⟩
  rw [h1]
  cases o with
  | inl s =>
    refine ⟨_, rfl, ?_⟩
    have := h2.resolve_right id
    refine ⟨fun _ v hv => ?_, fun _ => by simp⟩
    obtain ⟨j, hj⟩ := List.getElem?_of_mem hv
    exact this j v (List.getElem?_eq_some_iff.1 hj).1 hj
  | inr r =>
    refine ⟨_, rfl, ?_⟩
    obtain ⟨h3, x, hx, hp⟩ := h2
    refine ⟨fun h => by simp at h; omega, fun h => (hp (h x hx)).elim⟩
theorem isFact_eq (l : List Relation) (f : Fact) : ∃ b, m_impl_isFact l f = some b ∧ (b = true ↔ FactOK l f) := by
  unfold m_impl_isFact m_impl_within
  simp only [Option.bind_some]
  by_cases h : 0 ≤ f.relation ∧ f.relation ≤ (l.length : Int) - 1
  · rw [cond_T' (by simp [h])]
    obtain ⟨n, hn⟩ : ∃ n : Nat, f.relation = n := ⟨f.relation.toNat, by omega⟩
    have hnl : n < l.length := by omega
    rw [hn, getI_lt hnl, Option.bind_some]
    by_cases ha : (f.values.length : Int) = l[n].arity
    · rw [cond_T' (by simpa using ha)]
      obtain ⟨b, h1, h2⟩ := areValues_eq f.values
      rw [h1]
      refine ⟨b, rfl, h2.trans ⟨fun hv => ⟨n, l[n], hn, List.getElem?_eq_getElem hnl, ha, hv⟩, fun ⟨_, _, _, _, _, hv⟩ => hv⟩⟩
    · rw [cond_F' (by simpa using ha)]
      refine ⟨false, rfl, by simp, fun ⟨n', r, h3, h4, h5, _⟩ => ?_⟩
      have : n' = n := by omega
      subst this
      rw [List.getElem?_eq_getElem hnl] at h4; cases h4
      exact (ha h5).elim
  · rw [cond_F' (by simp; omega)]
    refine ⟨false, rfl, by simp, fun ⟨n', r, h3, h4, _⟩ => ?_⟩
    have := (List.getElem?_eq_some_iff.1 h4).1
    omega
theorem spec_isFact_eq (u : Nat) (l : List Relation) (f : Fact) (hu : f.values.length < u) (hf : f.values.length ≤ 1048576) : ∃ b, m_spec_IsValidFact u l f = some b ∧ (b = true ↔ m_impl_AreValidRelations l = some true ∧ FactOK l f) := by
  unfold m_spec_IsValidFact m_spec_l1In
  rw [spec_validRelations]
  obtain ⟨bl, hbl⟩ := validRelations_tot l
  rw [hbl, Option.bind_some]
  cases bl with
  | false => exact ⟨false, rfl, by simp⟩
  | true =>
    rw [cond_nt]
    simp only [Option.bind_some]
    by_cases h : 0 ≤ f.relation ∧ f.relation ≤ (l.length : Int) - 1
    · rw [cond_F' (by simp [h])]
      obtain ⟨n, hn⟩ : ∃ n : Nat, f.relation = n := ⟨f.relation.toNat, by omega⟩
      have hnl : n < l.length := by omega
      rw [hn, getI_lt hnl, Option.bind_some, Option.bind_some]
      by_cases ha : (f.values.length : Int) = l[n].arity
      · rw [cond_F' (by simpa using ha)]
        obtain ⟨o, h1, h2⟩ := while_ok (f := fun (i5 : Int) => cond (decide (i5 < (f.values.length : Int))) ((getI f.values i5).bind fun v_18 => (some ((decide (0 ≤ v_18)) && (decide (v_18 ≤ 9)))).bind fun r_23 => cond (!r_23) (some (.ret false)) (some (.next (w64 (i5 + 1))))) (some (.brk i5)))
          (fun i => ∃ n : Nat, i = n ∧ n ≤ f.values.length ∧ ∀ (j : Nat) x, j < n → f.values[j]? = some x → 0 ≤ x ∧ x ≤ 9) (fun i => f.values.length - i.toNat) (fun i => ∀ v ∈ f.values, 0 ≤ v ∧ v ≤ 9) (fun (r : Bool) => r = false ∧ ¬ ∀ v ∈ f.values, 0 ≤ v ∧ v ≤ 9)
          (fun i ⟨n, hi, hn1, hI⟩ => by
            subst hi
            by_cases h : n < f.values.length
            · rw [cond_T' (by simpa using h), getI_lt h, Option.bind_some, Option.bind_some]
              by_cases hp : 0 ≤ f.values[n] ∧ f.values[n] ≤ 9
              · rw [cond_F' (by simp [hp]), w64_id (by omega)]
                refine ⟨_, rfl, ⟨n + 1, by omega, h, fun j x hj hx => ?_⟩, by omega⟩
                by_cases e : j = n
                · subst e; rw [List.getElem?_eq_getElem h] at hx; cases hx; exact hp
                · exact hI j x (by omega) hx
              · rw [cond_T' (by simp; omega)]
                exact ⟨_, rfl, rfl, fun hv => hp (hv _ (List.getElem_mem h))⟩
            · rw [cond_F' (by simpa using h)]
              refine ⟨_, rfl, fun v hv => ?_⟩
              obtain ⟨j, hj⟩ := List.getElem?_of_mem hv
              have := (List.getElem?_eq_some_iff.1 hj).1
              exact hI j v (by omega) hj)
          u 0 (by simpa using hu) ⟨0, rfl, by omega, fun j x hj => by omega⟩
        simp only [Option.bind_some] at h1
        rw [h1, Option.bind_some]
        cases o with
        | inl i => exact ⟨true, rfl, by simp; exact ⟨n, l[n], hn, List.getElem?_eq_getElem hnl, ha, h2⟩⟩
        | inr r =>
          obtain ⟨rfl, h3⟩ := h2
          exact ⟨false, rfl, by simp; rintro ⟨_, _, _, _, _, hv⟩; exact h3 hv⟩
      · rw [cond_T' (by simpa using ha)]
        refine ⟨false, rfl, by simp, fun ⟨_, n', r, h3, h4, h5, _⟩ => ?_⟩
        have : n' = n := by omega
        subst this
        rw [List.getElem?_eq_getElem hnl] at h4; cases h4
        exact (ha h5).elim
    · rw [cond_T' (by simp; omega)]
      refine ⟨false, rfl, by simp, fun ⟨_, n', r, h3, h4, _⟩ => ?_⟩
      have := (List.getElem?_eq_some_iff.1 h4).1
      omega
/-- Facts, compared. -/
def cmpF (a b : Fact) : Int := if a.relation < b.relation then -1 else if b.relation < a.relation then 1 else cmpL a.values b.values
theorem impl_CompareFacts_eq (a b : Fact) : m_impl_CompareFacts a b = some (cmpF a b) := by
  unfold m_impl_CompareFacts m_impl_compare cmpF
  rw [slices_Compare_eq]
  by_cases h1 : a.relation < b.relation
  · rw [cond_T' (by simp; omega), cond_T' (by simpa using h1), if_pos h1]; rfl
  · by_cases h2 : b.relation < a.relation
    · rw [cond_T' (by simp; omega), cond_F' (by simpa using h1), cond_T' (by simpa using h2), if_neg h1, if_pos h2]; rfl
    · rw [cond_F' (by simp; omega), if_neg h1, if_neg h2]; rfl
theorem spec_CompareFacts_eq (u : Nat) (a b : Fact) (hu : a.values.length < u) (ha : a.values.length ≤ 1048576) (hb : b.values.length ≤ 1048576) : m_spec_CompareFacts u a b = some (cmpF a b) := by
  unfold m_spec_CompareFacts cmpF
  rw [l3Ints_cmp _ _ u hu ha (by omega)]
  by_cases h1 : a.relation < b.relation
  · rw [cond_T' (by simpa using h1), if_pos h1]
  · by_cases h2 : b.relation < a.relation
    · rw [cond_F' (by simpa using h1), cond_T' (by simpa using h2), if_neg h1, if_pos h2]
    · rw [cond_F' (by simpa using h1), cond_F' (by simpa using h2), if_neg h1, if_neg h2]; rfl
/-- A valid database. -/
structure DbOK (d : Database) : Prop where
  rels : m_impl_AreValidRelations d.relations = some true
  few : d.facts.length ≤ 14
  fact : ∀ (n : Nat) f, d.facts[n]? = some f → FactOK d.relations f
  sorted : ∀ (n : Nat) f g, d.facts[n]? = some f → d.facts[n + 1]? = some g → cmpF f g < 0
theorem round_eq (d : Database) {n : Nat} (hn : n < d.facts.length) (b : Bool) (p : Prop) (hb : b = true ↔ p) : ∃ t, cond (!b) (some true) (cond (decide (0 < (n : Int))) ((getI d.facts ((n : Int) - 1)).bind fun v_15 => some (decide (0 ≤ cmpF v_15 d.facts[n]))) (some false)) = some t ∧ (t = false ↔ p ∧ ∀ m f, m + 1 = n → d.facts[m]? = some f → cmpF f d.facts[n] < 0) := by
  cases b with
  | false => exact ⟨true, rfl, by simp at hb; simp [hb]⟩
  | true =>
    have hp : p := hb.1 rfl
    by_cases h0 : 0 < n
    · have e : (n : Int) - 1 = ((n - 1 : Nat) : Int) := by omega
      rw [cond_nt, cond_T' (by simpa using h0), e, getI_lt (show n - 1 < d.facts.length by omega)]
      refine ⟨_, rfl, ?_⟩
      simp only [decide_eq_false_iff_not, hp, true_and]
      constructor
      · intro h m f hm hf
        have : m = n - 1 := by omega
        subst this
        rw [List.getElem?_eq_getElem (by omega)] at hf; cases hf; omega
      · intro h
        have := h (n - 1) d.facts[n - 1] (by omega) (List.getElem?_eq_getElem (by omega)); omega
    · rw [cond_nt, cond_F' (by simpa using h0)]
      exact ⟨_, rfl, by simp [hp]; intro m f hm; omega⟩
theorem impl_IsValidDatabase_eq (d : Database) : ∃ b, m_impl_IsValidDatabase d = some b ∧ (b = true ↔ DbOK d) := by
  unfold m_impl_IsValidDatabase
  obtain ⟨bl, hbl⟩ := validRelations_tot d.relations
  rw [hbl, Option.bind_some]
  cases bl with
  | false => exact ⟨false, rfl, by simp; intro h; have := h.rels; rw [hbl] at this; cases this⟩
  | true =>
    rw [cond_nt, Option.bind_some]
    by_cases hf : d.facts.length ≤ 14
    · rw [cond_F' (by simp; omega)]
      obtain ⟨o, h1, h2⟩ := forL_ok (xs := d.facts) (s := ()) (f := fun (t_7 : Int) (x_t_7 : Fact) (_ : Unit) => ((m_impl_isFact d.relations x_t_7).bind fun r_11 => cond (!r_11) (some true) (cond (decide (0 < (t_7 : Int))) ((getI d.facts ((t_7 : Int) - 1)).bind fun v_15 => (m_impl_CompareFacts v_15 x_t_7).bind fun r_20 => some (decide (0 ≤ r_20))) (some false))).bind fun (t42 : Bool) => cond t42 (some (.ret false)) (some (.next ())))
        (fun n _ => ∀ (j : Nat) (h : j < d.facts.length), j < n → FactOK d.relations d.facts[j] ∧ ∀ m f, m + 1 = j → d.facts[m]? = some f → cmpF f d.facts[j] < 0) (fun _ => False) (fun r => r = false ∧ ¬ DbOK d) (fun j _ hj => by omega) fun n x s hx hI => by
          have hn : n < d.facts.length := (List.getElem?_eq_some_iff.1 hx).1
          rw [List.getElem?_eq_getElem hn] at hx; cases hx
          obtain ⟨b, h3, h4⟩ := isFact_eq d.relations d.facts[n]
          rw [h3, Option.bind_some]
          simp only [impl_CompareFacts_eq, Option.bind_some]
          obtain ⟨t, h5, h6⟩ := round_eq d hn b _ h4
          rw [h5, Option.bind_some]
          cases t with
          | false =>
            refine ⟨_, rfl, fun j hj hjn => ?_⟩
            by_cases e : j = n
            · subst e; exact h6.1 rfl
            · exact hI j hj (by omega)
          | true =>
            refine ⟨_, rfl, rfl, fun hok => ?_⟩
            have := h6.2 ⟨hok.fact n _ (List.getElem?_eq_getElem hn), fun m f hm hf => hok.sorted m f _ hf (by rw [hm]; exact List.getElem?_eq_getElem hn)⟩
            cases this
      rw [h1, Option.bind_some]
      cases o with
      | inl s =>
        have h3 := h2.resolve_right id
        refine ⟨true, rfl, fun _ => ⟨hbl, hf, fun n f hn => ?_, fun n f g hn hg => ?_⟩, fun _ => rfl⟩
        · obtain ⟨hl, rfl⟩ := List.getElem?_eq_some_iff.1 hn; exact (h3 n hl hl).1
        · obtain ⟨hl, rfl⟩ := List.getElem?_eq_some_iff.1 hg; exact (h3 (n + 1) hl hl).2 n f rfl hn
      | inr r => obtain ⟨rfl, h3⟩ := h2; exact ⟨false, rfl, by simp [h3]⟩
    · rw [cond_T' (by simp; omega)]
      exact ⟨false, rfl, by simp; intro h; exact hf h.few⟩
theorem spec_IsValidDatabase_eq (u : Nat) (d : Database) (hd : DbS d) (hu : 1048577 < u) : ∃ b, m_spec_IsValidDatabase u d = some b ∧ (b = true ↔ DbOK d) := by
  unfold m_spec_IsValidDatabase
  have hfl := hd.2.1
  obtain ⟨o, h1, h2⟩ := while_ok (f := fun (i3 : Int) => cond (decide (i3 < (d.facts.length : Int))) (((getI d.facts i3).bind fun v_5 => (m_spec_IsValidFact u d.relations v_5).bind fun r_10 => cond (!r_10) (some true) (cond (decide (0 < i3)) ((getI d.facts (w64 (i3 - 1))).bind fun v_14 => (m_spec_CompareFacts u v_14 v_5).bind fun r_19 => some (decide (0 ≤ r_19))) (some false))).bind fun (t38 : Bool) => cond t38 (some (.ret false)) (some (.next (w64 (i3 + 1))))) (some (.brk i3)))
    (fun i => ∃ n : Nat, i = n ∧ n ≤ d.facts.length ∧ ∀ (j : Nat) (h : j < d.facts.length), j < n → FactOK d.relations d.facts[j] ∧ ∀ m f, m + 1 = j → d.facts[m]? = some f → cmpF f d.facts[j] < 0) (fun i => d.facts.length - i.toNat)
    (fun i => ∀ (j : Nat) (h : j < d.facts.length), FactOK d.relations d.facts[j] ∧ ∀ m f, m + 1 = j → d.facts[m]? = some f → cmpF f d.facts[j] < 0) (fun (r : Bool) => r = false ∧ ¬ DbOK d)
    (fun i ⟨n, hi, hn1, hI⟩ => by
      subst hi
      by_cases h : n < d.facts.length
      · have hv := hd.2.2.2 _ (List.getElem_mem h)
        rw [cond_T' (by simpa using h), getI_lt h, Option.bind_some]
        obtain ⟨b, h3, h4⟩ := spec_isFact_eq u d.relations d.facts[n] (by omega) hv
        rw [h3, Option.bind_some, w64_id (x := (n : Int) - 1) (by omega)]
        have e : ((getI d.facts ((n : Int) - 1)).bind fun v_14 => (m_spec_CompareFacts u v_14 d.facts[n]).bind fun r_19 => some (decide (0 ≤ r_19))) = (getI d.facts ((n : Int) - 1)).bind fun v_15 => some (decide (0 ≤ cmpF v_15 d.facts[n])) := by
          cases hg : getI d.facts ((n : Int) - 1) with
          | none => rfl
          | some f =>
            obtain ⟨m, _, hm⟩ := getI_inv hg
            have hv2 := hd.2.2.2 f (List.mem_of_getElem? hm)
            rw [Option.bind_some, Option.bind_some, spec_CompareFacts_eq u f _ (by omega) hv2 hv]; rfl
        rw [e]
        obtain ⟨t, h5, h6⟩ := round_eq d h b _ h4
        rw [h5, Option.bind_some]
        cases t with
        | false =>
          rw [cond_F' rfl, w64_id (by omega)]
          refine ⟨_, rfl, ⟨n + 1, by omega, h, fun j hj hjn => ?_⟩, by omega⟩
          by_cases e : j = n
          · subst e; have := h6.1 rfl; exact ⟨this.1.2, this.2⟩
          · exact hI j hj (by omega)
        | true =>
          refine ⟨_, rfl, rfl, fun hok => ?_⟩
          have := h6.2 ⟨⟨hok.rels, hok.fact n _ (List.getElem?_eq_getElem h)⟩, fun m f hm hf => hok.sorted m f _ hf (by rw [hm]; exact List.getElem?_eq_getElem h)⟩
          cases this
      · rw [cond_F' (by simpa using h)]
        exact ⟨_, rfl, fun j hj => hI j hj (by omega)⟩)
    u 0 (by simp; omega) ⟨0, rfl, by omega, fun j _ hj => by omega⟩
  rw [h1, Option.bind_some]
  cases o with
  | inr r => obtain ⟨rfl, h3⟩ := h2; exact ⟨false, rfl, by simp [h3]⟩
  | inl i =>
    simp only [onS, spec_validRelations]
    obtain ⟨bl, hbl⟩ := validRelations_tot d.relations
    rw [hbl, Option.bind_some]
    cases bl with
    | false => exact ⟨false, rfl, by simp; intro h; have := h.rels; rw [hbl] at this; cases this⟩
    | true =>
      refine ⟨_, rfl, ?_⟩
      simp only [decide_eq_true_eq]
      refine ⟨fun hf => ⟨hbl, by omega, fun n f hn => ?_, fun n f g hn hg => ?_⟩, fun h => by have := h.few; omega⟩
      · obtain ⟨hl, rfl⟩ := List.getElem?_eq_some_iff.1 hn; exact (h2 n hl).1
      · obtain ⟨hl, rfl⟩ := List.getElem?_eq_some_iff.1 hg; exact (h2 (n + 1) hl).2 n f rfl hn
end Go.Proofs.Ytlcpdlngbofgcaa
/- What the draws hand back: nothing panics. -/
set_option linter.unusedVariables false
set_option linter.unusedSimpArgs false
namespace Go.Proofs.Ytlcpdlngbofgcaa
open Go Go.Proofs Go.Sep
theorem and_byte (x : Int) : 0 ≤ bitI .and .i64 x 255 ∧ bitI .and .i64 x 255 ≤ 255 := by
  have h : (BitVec.ofInt 64 x &&& BitVec.ofInt 64 255).toNat ≤ 255 := by
    rw [BitVec.toNat_and]
    exact Nat.le_trans Nat.and_le_right (by decide)
  have e : bitI .and .i64 x 255 = w64 (((BitVec.ofInt 64 x &&& BitVec.ofInt 64 255).toNat : Nat) : Int) := rfl
  rw [e, w64_id (by omega)]; omega
/-- A cursor that may be asked. -/
def CurOK (c : l1Cur) : Prop := 0 ≤ c.i ∧ c.i ≤ (c.b.length : Int) ∧ c.b.length ≤ 1048576
theorem l1Byte_ok {c : l1Cur} (hc : CurOK c) : Ok (m_spec_l1Byte c) fun r => 0 ≤ r.1 ∧ r.1 ≤ 255 ∧ CurOK r.2 := by
  unfold m_spec_l1Byte
  obtain ⟨h0, h1, h2⟩ := hc
  refine .cond (fun h => ?_) fun h => ?_
  · have hlt : c.i < (c.b.length : Int) := by simpa using h
    refine .get' h0 hlt fun n hn e => .ret ?_
    have := and_byte (w64 (bitI .and .i64 (bitI .xor .i64 (shrI .i64 (w64 (w64 (c.h * 6364136223846793005) + 1442695040888963407)) 33) (shrI .i64 (w64 (w64 (c.h * 6364136223846793005) + 1442695040888963407)) 45)) 255 + w64 c.b[n]))
    exact ⟨this.1, this.2, by show 0 ≤ w64 (c.i + 1); rw [w64_id (by omega)]; omega, by show w64 (c.i + 1) ≤ _; rw [w64_id (by omega)]; simp only; omega, h2⟩
  · have := and_byte (bitI .xor .i64 (shrI .i64 (w64 (w64 (c.h * 6364136223846793005) + 1442695040888963407)) 33) (shrI .i64 (w64 (w64 (c.h * 6364136223846793005) + 1442695040888963407)) 45))
    exact .ret ⟨this.1, this.2, h0, h1, h2⟩
theorem tmod_lt {a n : Int} (h0 : 0 ≤ a) (hn : 0 < n) : 0 ≤ a.tmod n ∧ a.tmod n < n := ⟨Int.tmod_nonneg _ h0, Int.tmod_lt_of_pos _ hn⟩
theorem l1Below_ok {c : l1Cur} (hc : CurOK c) (n : Int) : Ok (m_spec_l1Below c n) fun r => CurOK r.2 ∧ 0 ≤ r.1 ∧ (0 < n → r.1 < n) ∧ (n ≤ 0 → r.1 = 0) := by
  unfold m_spec_l1Below
  refine .cond (fun h => .ret ⟨hc, by simp, fun h' => absurd h' (by have h2 := of_decide_eq_true h; omega), fun _ => rfl⟩) fun h => ?_
  have hn : 0 < n := by simpa using h
  refine .cond (fun h2 => ?_) fun h2 => ?_
  · refine .bind (l1Byte_ok hc) fun r hr => .gD (by omega) (.ret ⟨hr.2.2, (tmod_lt hr.1 hn).1, fun _ => (tmod_lt hr.1 hn).2, fun h => by omega⟩)
  · refine .bind (l1Byte_ok hc) fun a ha => .bind (l1Byte_ok ha.2.2) fun b hb => .bind (l1Byte_ok hb.2.2) fun d hd => .bind (l1Byte_ok hd.2.2) fun e he => .gD (by omega) (.ret ?_)
    have h0 : 0 ≤ w64 (w64 (w64 (w64 (a.1 * 16777216) + w64 (b.1 * 65536)) + w64 (d.1 * 256)) + e.1) := by
      have := ha.1; have := ha.2.1; have := hb.1; have := hb.2.1; have := hd.1; have := hd.2.1; have := he.1; have := he.2.1
      rw [w64_id (x := a.1 * 16777216) (by omega), w64_id (x := b.1 * 65536) (by omega), w64_id (x := d.1 * 256) (by omega), w64_id (x := a.1 * 16777216 + b.1 * 65536) (by omega), w64_id (x := a.1 * 16777216 + b.1 * 65536 + d.1 * 256) (by omega), w64_id (by omega)]
      omega
    exact ⟨he.2.2, (tmod_lt h0 hn).1, fun _ => (tmod_lt h0 hn).2, fun h => by omega⟩
theorem l1Once_ok {c : l1Cur} (hc : CurOK c) (n : Int) : Ok (m_spec_l1Once c n) fun r => CurOK r.2 := by
  unfold m_spec_l1Once
  exact .bind (l1Below_ok hc n) fun r hr => .ret hr.1
theorem l1PickInt_ok {c : l1Cur} (hc : CurOK c) (l : List Int) (hl : l ≠ []) : Ok (m_spec_l1PickInt c l) fun r => CurOK r.2 ∧ r.1 ∈ l := by
  have h0 : 0 < l.length := List.length_pos_iff.2 hl
  unfold m_spec_l1PickInt
  refine .bind (l1Below_ok hc _) fun r hr => .get' hr.2.1 (hr.2.2.1 (by omega)) fun n hn e => .ret ⟨hr.1, List.getElem_mem hn⟩
theorem l1New_ok {u : Nat} {code : List Int} (hl : code.length ≤ 1048576) (hu : 1048577 < u) : Ok (m_spec_l1New u code) CurOK := by
  unfold m_spec_l1New
  refine .while (fun (s : Int × Int) => 0 ≤ s.2 ∧ s.2 ≤ (code.length : Int)) (fun (s : Int × Int) => code.length - s.2.toNat) (fun _ => True) (fun _ => False) (by simp only; omega) ⟨by simp, by simp⟩ (fun ⟨h, i⟩ ⟨h0, h1⟩ => ?_) (fun ⟨h, i⟩ _ => .ret ⟨by simp, by simp, hl⟩) (fun _ h => h.elim)
  simp only at h0 h1 ⊢
  refine .cond (fun hc => ?_) fun _ => .brk trivial
  have hlt : i < (code.length : Int) := by simp only [Bool.and_eq_true, decide_eq_true_eq] at hc; exact hc.1
  refine .get' h0 hlt fun n hn e => .next ⟨⟨?_, ?_⟩, ?_⟩ <;> simp only <;> rw [w64_id (by omega)] <;> omega
/-- The relations that are drawn, as far as the facts need it. -/
def SigsOK (l : List Relation) : Prop := l.length = 4 ∧ ∀ r ∈ l, r.name.size ≤ 2 ∧ 1 ≤ r.arity ∧ r.arity ≤ 3
theorem l2Sigs_ok {c : l1Cur} (hc : CurOK c) : Ok (m_spec_l2Sigs c) fun r => CurOK r.2 ∧ SigsOK r.1 := by
  unfold m_spec_l2Sigs
  refine .bind (l1PickInt_ok hc _ (by simp)) fun r hr => .bind (l1Below_ok hr.1 2) fun s hs => .ret ⟨hs.1, rfl, fun x hx => ?_⟩
  simp only [List.mem_cons, List.not_mem_nil, or_false] at hx
  rcases hx with rfl | rfl | rfl | rfl <;> refine ⟨?_, ?_, ?_⟩ <;> first | (show ByteArray.size _ ≤ 2; exact Nat.le_of_ble_eq_true rfl) | (simp only; omega)
theorem l3Fact_ok {u : Nat} {c : l1Cur} (hc : CurOK c) {l : List Relation} (hl : l ≠ []) (ha : ∀ r ∈ l, r.arity ≤ 3) (val : Int) (hu : 1048577 < u) : Ok (m_spec_l3Fact u c l val) fun r => CurOK r.2 ∧ r.1.values.length ≤ 3 ∧ ((∀ r ∈ l, 1 ≤ r.arity) → 1 ≤ r.1.values.length) := by
  have h0 : 0 < l.length := List.length_pos_iff.2 hl
  unfold m_spec_l3Fact
  refine .bind (l1Below_ok hc _) fun r hr => ?_
  have hi := hr.2.2.1 (by omega)
  obtain ⟨n, hn⟩ : ∃ n : Nat, r.1 = n := ⟨r.1.toNat, by have := hr.2.1; omega⟩
  have hnl : n < l.length := by omega
  have har := ha _ (List.getElem_mem hnl)
  refine .while (fun (s : l1Cur × List Int) => CurOK s.1 ∧ s.2.length ≤ 3) (fun (s : l1Cur × List Int) => 3 - s.2.length) (fun (s : l1Cur × List Int) => CurOK s.1 ∧ s.2.length ≤ 3 ∧ l[n].arity ≤ (s.2.length : Int)) (fun _ => False) (by simp only [List.length_nil]; omega) ⟨hr.1, by simp⟩ (fun ⟨b, vs⟩ ⟨g1, g2⟩ => ?_) (fun ⟨b, vs⟩ ⟨g1, g2, g3⟩ => .ret ⟨g1, g2, fun h1 => by have := h1 _ (List.getElem_mem hnl); simp only at g3 ⊢; omega⟩) (fun _ h => h.elim)
  simp only at g1 g2 ⊢
  refine .get hn hnl (.cond (fun hlt => ?_) fun hge => .brk ⟨g1, g2, by simpa using hge⟩)
  have hlt' : (vs.length : Int) < l[n].arity := by simpa using hlt
  exact .bind (l1Below_ok g1 _) fun s hs => .app (by simp; omega) (.next ⟨⟨hs.1, by simp; omega⟩, by simp; omega⟩)
/-- A drawn database. -/
def DbD (d : Database) : Prop := d.relations.length ≤ 4 ∧ d.facts.length ≤ 14 ∧ (∀ r ∈ d.relations, r.name.size ≤ 2) ∧ ∀ f ∈ d.facts, f.values.length ≤ 4
theorem DbD.s {d : Database} (h : DbD d) : DbS d := ⟨by have := h.1; omega, by have := h.2.1; omega, fun r hr => by have := h.2.2.1 r hr; omega, fun f hf => by have := h.2.2.2 f hf; omega⟩
theorem l4Copy_eq {u : Nat} {d : Database} (hd : DbS d) (hu : 1048577 < u) : m_spec_l4Copy u d = some d := by
  unfold m_spec_l4Copy
  refine Ok.to (.app (by have := hd.1; simp; omega) ?_)
  refine .while (fun (s : Int × List Fact) => ∃ n : Nat, s.1 = (n : Int) ∧ n ≤ d.facts.length ∧ s.2 = d.facts.take n) (fun (s : Int × List Fact) => d.facts.length - s.1.toNat) (fun (s : Int × List Fact) => s.2 = d.facts) (fun _ => False) (by have := hd.2.1; simp only; omega) ⟨0, rfl, by omega, rfl⟩ (fun ⟨i, fs⟩ ⟨n, h1, h2, h3⟩ => ?_) (fun ⟨i, fs⟩ h => .ret (by simp only at h; subst h; simp)) (fun _ h => h.elim)
  simp only at h1 h3
  subst h1 h3
  simp only
  have hf := hd.2.1
  refine .cond (fun h => ?_) fun h => .brk ?_
  · have hlt : n < d.facts.length := by simpa using h
    have hv := hd.2.2.2 _ (List.getElem_mem hlt)
    refine .get rfl hlt (.app (by simp; omega) (.app (by simp; omega) (.next ⟨⟨n + 1, by rw [w64_id (by omega)]; simp, hlt, ?_⟩, by simp only; rw [w64_id (by omega)]; omega⟩)))
    simp only [List.nil_append]
    rw [List.take_add_one, List.getElem?_eq_getElem hlt]; rfl
  · have : ¬ n < d.facts.length := by simpa using h
    simp only
    rw [List.take_of_length_le (by omega)]
theorem FactIndex_tot {u : Nat} {d : Database} (hd : DbS d) {f : Fact} (hf : f.values.length ≤ 1048576) (hu : 1048577 < u) : Ok (m_spec_FactIndex u d f) fun _ => True := by
  unfold m_spec_FactIndex
  refine .while (fun (i : Int) => ∃ n : Nat, i = (n : Int) ∧ n ≤ d.facts.length) (fun i => d.facts.length - i.toNat) (fun _ => True) (fun _ => True) (by have := hd.2.1; omega) ⟨0, rfl, by omega⟩ (fun i ⟨n, h1, h2⟩ => ?_) (fun _ _ => .ret trivial) (fun _ _ => .ret trivial)
  subst h1
  have hfl := hd.2.1
  refine .cond (fun h => ?_) fun h => .brk trivial
  have hlt : n < d.facts.length := by simpa using h
  have hv := hd.2.2.2 _ (List.getElem_mem hlt)
  exact .get rfl hlt (.eq (spec_CompareFacts_eq u _ f (by omega) hv hf) (.cond (fun _ => .out trivial) fun _ => .next ⟨⟨n + 1, by rw [w64_id (by omega)]; simp, hlt⟩, by rw [w64_id (by omega)]; omega⟩))
theorem ContainsFact_tot {u : Nat} {d : Database} (hd : DbS d) {f : Fact} (hf : f.values.length ≤ 1048576) (hu : 1048577 < u) : Ok (m_spec_ContainsFact u d f) fun _ => True := by
  unfold m_spec_ContainsFact
  obtain ⟨b, h1, _⟩ := spec_IsValidDatabase_eq u d hd hu
  refine .bind (P := fun _ => True) (.eq h1 (.cond (fun _ => .bind (FactIndex_tot hd hf hu) fun _ _ => .ret trivial) fun _ => .ret trivial)) fun _ _ => .ret trivial
theorem InsertFact_ok {u : Nat} {d : Database} (hd : DbS d) {f : Fact} (hf : f.values.length ≤ 1048576) (hu : 1048577 < u) : Ok (m_spec_InsertFact u d f) fun r => r.1.relations = d.relations ∧ r.1.facts.length ≤ d.facts.length + 1 ∧ ∀ x ∈ r.1.facts, x ∈ d.facts ∨ x = f := by
  unfold m_spec_InsertFact
  have hfl := hd.2.1
  refine .eq (l4Copy_eq hd hu) (.bind (P := fun _ => True) ?_ fun t _ => ?_)
  · obtain ⟨b, h1, _⟩ := spec_IsValidDatabase_eq u d hd hu
    obtain ⟨b2, h2, _⟩ := spec_isFact_eq u d.relations f (by omega) hf
    exact .eq h1 (.cond (fun _ => .ret trivial) fun _ => .eq h2 (.cond (fun _ => .ret trivial) fun _ => .bind (ContainsFact_tot hd hf hu) fun _ _ => .cond (fun _ => .ret trivial) fun _ => .ret trivial))
  · refine .cond (fun _ => .ret ⟨rfl, by simp, fun x hx => .inl hx⟩) fun _ => ?_
    refine .while (fun (i : Int) => ∃ n : Nat, i = (n : Int) ∧ n ≤ d.facts.length) (fun i => d.facts.length - i.toNat) (fun (i : Int) => ∃ n : Nat, i = (n : Int) ∧ n ≤ d.facts.length) (fun _ => False) (by omega) ⟨0, rfl, by omega⟩ (fun i ⟨n, h1, h2⟩ => ?_) (fun i ⟨n, h1, h2⟩ => ?_) (fun _ h => h.elim)
    · subst h1
      refine .bind (P := fun t => t = true → n < d.facts.length) (.cond (fun h => ?_) fun _ => .ret (fun h => by cases h)) fun t ht => ?_
      · have hlt : n < d.facts.length := by simpa using h
        have hv := hd.2.2.2 _ (List.getElem_mem hlt)
        exact .get rfl hlt (.eq (spec_CompareFacts_eq u _ f (by omega) hv hf) (.ret fun _ => hlt))
      · refine .cond (fun h => .next ⟨⟨n + 1, by rw [w64_id (by omega)]; simp, ht h⟩, by have := ht h; rw [w64_id (by omega)]; omega⟩) fun _ => .brk ⟨n, rfl, h2⟩
    · subst h1
      refine .app (by simp; omega) (.cut rfl rfl h2 (Nat.le_refl _) (.app (by simp; omega) (.cut (i := 0) rfl rfl (Nat.zero_le _) h2 (.app (by simp; omega) (.app (by simp; omega) (.ret ⟨rfl, by simp; omega, fun x hx => ?_⟩))))))
      simp only [List.take_length, List.drop_zero, List.nil_append, List.mem_append, List.mem_singleton, List.cons_append, List.mem_cons] at hx
      rcases hx with h | rfl | h
      · exact .inl (List.mem_of_mem_take h)
      · exact .inr rfl
      · exact .inl (List.mem_of_mem_drop h)
/-- A database that is being drawn. -/
def DbG (n : Nat) (d : Database) : Prop := SigsOK d.relations ∧ d.facts.length ≤ n ∧ ∀ f ∈ d.facts, 1 ≤ f.values.length ∧ f.values.length ≤ 3
theorem DbG.d {n : Nat} {d : Database} (h : DbG n d) (hn : n ≤ 14) : DbD d := ⟨by have := h.1.1; omega, by have := h.2.1; omega, fun r hr => (h.1.2 r hr).1, fun f hf => by have := (h.2.2 f hf).2; omega⟩
theorem SigsOK.ne {l : List Relation} (h : SigsOK l) : l ≠ [] := fun e => by rw [e] at h; have := h.1; simp at this
theorem l4Db_ok {u : Nat} {c : l1Cur} (hc : CurOK c) (hu : 1048577 < u) : Ok (m_spec_l4Db u c) fun r => CurOK r.2 ∧ DbG 12 r.1 := by
  unfold m_spec_l4Db
  refine .bind (l2Sigs_ok hc) fun r1 h1 => .bind (l1PickInt_ok h1.1 _ (by simp)) fun r3 h3 => .bind (l1Below_ok h3.1 11) fun r5 h5 => ?_
  have hb := h5.2.2.1 (by omega)
  have hb0 := h5.2.1
  refine .while (fun (s : Int × l1Cur × List Relation × List Fact) => CurOK s.2.1 ∧ 0 ≤ s.1 ∧ s.1 ≤ 12 ∧ DbG (12 - s.1.toNat) ⟨s.2.2.1, s.2.2.2⟩) (fun (s : Int × l1Cur × List Relation × List Fact) => s.1.toNat) (fun (s : Int × l1Cur × List Relation × List Fact) => CurOK s.2.1 ∧ DbG 12 ⟨s.2.2.1, s.2.2.2⟩) (fun _ => False) (by simp only; rw [w64_id (by omega)]; omega) ⟨h5.1, by simp only; rw [w64_id (by omega)]; omega, by simp only; rw [w64_id (by omega)]; omega, h1.2, by simp, by simp⟩ (fun ⟨n, b, rs, fs⟩ ⟨g1, g2, g3, g4⟩ => ?_) (fun ⟨n, b, rs, fs⟩ h => .ret ⟨h.1, h.2⟩) (fun _ h => h.elim)
  simp only at g1 g2 g3 g4 ⊢
  refine .cond (fun h => ?_) fun h => .brk ⟨g1, g4.1, Nat.le_trans g4.2.1 (by omega), g4.2.2⟩
  have hn : 0 < n := by simpa using h
  refine .bind (l3Fact_ok g1 g4.1.ne (fun r hr => (g4.1.2 r hr).2.2) _ hu) fun r9 h9 => .bind (InsertFact_ok (d := ⟨rs, fs⟩) (DbG.d g4 (by omega)).s (f := r9.1) (by omega) hu) fun r11 h11 => .next ⟨⟨h9.1, ?_, ?_, ?_⟩, ?_⟩
  · simp only; rw [w64_id (by omega)]; omega
  · simp only; rw [w64_id (by omega)]; omega
  · simp only
    rw [w64_id (by omega)]
    refine ⟨by rw [h11.1]; exact g4.1, ?_, fun f hf => ?_⟩
    · have a1 := h11.2.1; have a2 := g4.2.1; simp only at a1 a2 ⊢; omega
    · rcases h11.2.2 f hf with h | rfl
      · exact g4.2.2 f h
      · exact ⟨h9.2.2 fun r hr => (g4.1.2 r hr).2.1, h9.2.1⟩
  · simp only; rw [w64_id (by omega)]; omega
theorem l3Any_ok {u : Nat} {c : l1Cur} (hc : CurOK c) {l : List Relation} (hl : SigsOK l) (hu : 1048577 < u) : Ok (m_spec_l3Any u c l) fun r => CurOK r.2 ∧ r.1.values.length ≤ 4 := by
  unfold m_spec_l3Any
  refine .bind (l3Fact_ok hc hl.ne (fun r hr => (hl.2 r hr).2.2) 4 hu) fun r1 h1 => .bind (l1Below_ok h1.1 10) fun r3 h3 => ?_
  have hl3 := h1.2.1
  have hl1 := h1.2.2 fun r hr => (hl.2 r hr).2.1
  refine .cond (fun _ => .bind (l1Below_ok h3.1 6) fun r6 h6 => .ret ⟨h6.1, by simp only; omega⟩) fun _ => .cond (fun _ => .app (by simp; omega) (.ret ⟨h3.1, by simp; omega⟩)) fun _ => .cond (fun _ => .bind (l1PickInt_ok h3.1 _ (by simp)) fun r12 h12 => .get (n := 0) rfl (by omega) (.ret ⟨h12.1, by simp; omega⟩)) fun _ => .ret ⟨h3.1, by simp only; omega⟩
theorem l1Pick_ok {c : l1Cur} (hc : CurOK c) (l : List ByteArray) (hl : l ≠ []) : Ok (m_spec_l1Pick c l) fun r => CurOK r.2 ∧ r.1 ∈ l := by
  have h0 : 0 < l.length := List.length_pos_iff.2 hl
  unfold m_spec_l1Pick
  refine .bind (l1Below_ok hc _) fun r hr => .get' hr.2.1 (hr.2.2.1 (by omega)) fun n hn e => .ret ⟨hr.1, List.getElem_mem hn⟩
theorem l2Any_ok {c : l1Cur} (hc : CurOK c) : Ok (m_spec_l2Any c) fun r => CurOK r.2 ∧ r.1.name.size ≤ 2 := by
  unfold m_spec_l2Any
  refine .bind (l1Pick_ok hc _ (by simp)) fun r1 h1 => .bind (l1Below_ok h1.1 6) fun r3 h3 => .bind (l1Below_ok h3.1 5) fun r5 h5 => .ret ⟨h5.1, ?_⟩
  have := h1.2
  simp only [List.mem_cons, List.not_mem_nil, or_false] at this
  show r1.1.size ≤ 2
  rcases this with h | h | h | h | h | h <;> rw [h] <;> decide
theorem l4Any_ok {u : Nat} {c : l1Cur} (hc : CurOK c) (hu : 1048577 < u) : Ok (m_spec_l4Any u c) fun r => CurOK r.2 ∧ DbD r.1 := by
  unfold m_spec_l4Any
  refine .bind (l4Db_ok hc hu) fun r1 h1 => .bind (l1Below_ok h1.1 14) fun r3 h3 => ?_
  have hg := h1.2
  have hd := hg.d (by omega)
  refine .cond (fun _ => .bind (l3Any_ok h3.1 hg.1 hu) fun r6 h6 => .app (by have := hg.2.1; simp; omega) (.ret ⟨h6.1, hd.1, ?_, hd.2.2.1, fun f hf => ?_⟩)) fun _ => .cond (fun _ => .bind (l1Below_ok h3.1 4) fun r11 h11 => ?_) fun _ => .cond (fun _ => .bind (l1Below_ok h3.1 4) fun r23 h23 => .bind (l2Any_ok h23.1) fun r25 h25 => ?_) fun _ => .ret ⟨h3.1, hd⟩
  · have := hg.2.1; simp; omega
  · simp only [List.mem_append, List.mem_singleton] at hf
    rcases hf with hf | rfl
    · exact hd.2.2.2 f hf
    · exact h6.2
  · have h4 := h11.2.2.1 (by omega)
    have h5 := hg.1.1
    obtain ⟨k, hk⟩ : ∃ k : Nat, r11.1 = k := ⟨r11.1.toNat, by have := h11.2.1; omega⟩
    refine .cut (i := 0) rfl hk (Nat.zero_le _) (by omega) (.ret ⟨h11.1, by simp; omega, hd.2.1, fun r hr => hd.2.2.1 r ?_, hd.2.2.2⟩)
    simp only [List.drop_zero] at hr; exact List.mem_of_mem_take hr
  · have h4 := h23.2.2.1 (by omega)
    have h5 := hg.1.1
    refine .get' h23.2.1 (by omega) fun n hn e => .ret ⟨h25.1, by simp; exact hd.1, hd.2.1, fun r hr => ?_, hd.2.2.2⟩
    rcases List.mem_or_eq_of_mem_set hr with h | rfl
    · exact hd.2.2.1 r h
    · exact h25.2
theorem l4Places_ok {u : Nat} {c : l1Cur} (hc : CurOK c) {d : Database} (hd : DbD d) (hu : 1048577 < u) : Ok (m_spec_l4Places u c d) fun r => CurOK r.2 ∧ r.1.length ≤ 14 := by
  unfold m_spec_l4Places
  have hf := hd.2.1
  refine .while (fun (s : List Int × Int × l1Cur) => CurOK s.2.2 ∧ ∃ n : Nat, s.2.1 = (n : Int) ∧ n ≤ d.facts.length ∧ s.1.length ≤ n) (fun (s : List Int × Int × l1Cur) => d.facts.length - s.2.1.toNat) (fun (s : List Int × Int × l1Cur) => CurOK s.2.2 ∧ s.1.length ≤ 14) (fun _ => False) (by simp only; omega) ⟨hc, 0, rfl, by omega, by simp⟩ (fun ⟨l, i, b⟩ ⟨g1, n, g2, g3, g4⟩ => ?_) (fun ⟨l, i, b⟩ ⟨g1, g2⟩ => ?_) (fun _ h => h.elim)
  · simp only at g1 g2 g4
    subst g2
    simp only
    refine .cond (fun h => ?_) fun h => .brk ⟨g1, by simp only; omega⟩
    have hlt : n < d.facts.length := by simpa using h
    refine .bind (l1Once_ok g1 2) fun r3 h3 => .cond (fun _ => .app (by simp; omega) (.next ⟨⟨h3, n + 1, by rw [w64_id (by omega)]; simp, hlt, by simp; omega⟩, by simp only; rw [w64_id (by omega)]; omega⟩)) fun _ => .next ⟨⟨h3, n + 1, by rw [w64_id (by omega)]; simp, hlt, by simp only; omega⟩, by simp only; rw [w64_id (by omega)]; omega⟩
  · simp only at g1 g2 ⊢
    refine .bind (P := fun (t : Bool × l1Cur) => CurOK t.2 ∧ (t.1 = true → 0 < l.length)) (.cond (fun h => .bind (l1Once_ok g1 12) fun r h2 => .ret ⟨h2, fun _ => by simpa using h⟩) fun _ => .ret ⟨g1, fun h => by cases h⟩) fun ⟨t, b2⟩ ⟨h1, h2⟩ => ?_
    simp only at h1 h2 ⊢
    refine .cond (fun h => .bind (l1PickInt_ok h1 _ (by simp)) fun r14 h14 => .get (n := 0) rfl (h2 h) (.ret ⟨h14.1, by simp; omega⟩)) fun _ => .ret ⟨h1, g2⟩
theorem l27Draw_ok {u : Nat} {code : List Int} (hl : code.length ≤ 1048576) (hu : 1048577 < u) : Ok (m_spec_l27Draw u code) fun r => CurOK r.1 ∧ DbD r.2.1 := by
  unfold m_spec_l27Draw
  refine .bind (l1New_ok hl hu) fun r1 h1 => .bind (l4Any_ok h1 hu) fun r3 h3 => .bind (l1Below_ok h3.1 4) fun r5 h5 => .bind (l1Once_ok h5.1 10) fun r7 h7 => .cond (fun _ => .bind (l1PickInt_ok h7 _ (by simp)) fun r10 h10 => .bind (l1Below_ok h10.1 3) fun r12 h12 => .bind (l1Below_ok h12.1 12) fun r14 h14 => .ret ⟨h14.1, h3.2⟩) fun _ => .bind (l1Below_ok h7 3) fun r16 h16 => .bind (l1Below_ok h16.1 12) fun r18 h18 => .ret ⟨h18.1, h3.2⟩
end Go.Proofs.Ytlcpdlngbofgcaa
/- Lists of indices. -/
set_option linter.unusedVariables false
set_option linter.unusedSimpArgs false
namespace Go.Proofs.Ytlcpdlngbofgcaa
open Go Go.Proofs Go.Sep
theorem areIndices_tot (l : List Int) (n : Int) (h0 : 0 ≤ n) (h1 : n ≤ 1048576) : ∃ b, m_impl_areIndices l n = some b ∧ (b = true → ∀ x ∈ l, 0 ≤ x ∧ x < n) := by
  unfold m_impl_areIndices m_impl_within
  obtain ⟨o, h1, h2⟩ := forL_ok (xs := l) (s := ()) (f := fun (t_1 : Int) (x_t_1 : Int) (_ : Unit) => ((some ((decide (0 ≤ x_t_1)) && (decide (x_t_1 ≤ w64 (n - 1))))).bind fun r_5 => cond (!r_5) (some true) (cond (decide (0 < (t_1 : Int))) ((getI l ((t_1 : Int) - 1)).bind fun v_9 => some (decide (x_t_1 ≤ v_9))) (some false))).bind fun (t31 : Bool) => cond t31 (some (.ret false)) (some (.next ())))
    (fun m _ => ∀ (j : Nat) x, j < m → l[j]? = some x → 0 ≤ x ∧ x < n) (fun _ => False) (fun (r : Bool) => r = false) (fun j x hj => by omega) fun m x s hx hI => by
      have hm : m < l.length := (List.getElem?_eq_some_iff.1 hx).1
      rw [w64_id (x := n - 1) (by omega), Option.bind_some]
      by_cases hr : 0 ≤ x ∧ x ≤ n - 1
      · have e : (decide (0 ≤ x) && decide (x ≤ n - 1)) = true := by simp [hr]
        rw [e, cond_nt]
        have key : ∃ t, cond (decide (0 < (m : Int))) ((getI l ((m : Int) - 1)).bind fun v_9 => some (decide (x ≤ v_9))) (some false) = some t := by
          by_cases h0 : 0 < m
          · have e : (m : Int) - 1 = ((m - 1 : Nat) : Int) := by omega
            rw [cond_T' (by simpa using h0), e, getI_lt (show m - 1 < l.length by omega)]; exact ⟨_, rfl⟩
          · rw [cond_F' (by simpa using h0)]; exact ⟨_, rfl⟩
        obtain ⟨t, ht⟩ := key
        rw [ht, Option.bind_some]
        cases t with
        | true => exact ⟨_, rfl, rfl⟩
        | false =>
          refine ⟨_, rfl, fun j y hj hy => ?_⟩
          by_cases e : j = m
          · subst e; rw [hx] at hy; cases hy; omega
          · exact hI j y (by omega) hy
      · have e : (decide (0 ≤ x) && decide (x ≤ n - 1)) = false := by simp; omega
        rw [e, cond_nf, Option.bind_some]; exact ⟨_, rfl, rfl⟩
  rw [h1, Option.bind_some]
  cases o with
  | inl s =>
    refine ⟨true, rfl, fun _ x hx => ?_⟩
    obtain ⟨j, hj⟩ := List.getElem?_of_mem hx
    exact (h2.resolve_right id) j x (List.getElem?_eq_some_iff.1 hj).1 hj
  | inr r => exact ⟨r, rfl, fun h => by rw [h2] at h; cases h⟩
theorem l4Set_eq (d : Database) (l : List Int) (hd : d.facts.length ≤ 1048576) : m_spec_l4Set d l = m_impl_areIndices l (d.facts.length : Int) := by
  unfold m_spec_l4Set m_impl_areIndices m_impl_within m_spec_l1In
  rw [w64_id (x := (d.facts.length : Int) - 1) (by omega)]
end Go.Proofs.Ytlcpdlngbofgcaa
/- Columns of relations, for both sides. -/
set_option linter.unusedVariables false
set_option linter.unusedSimpArgs false
namespace Go.Proofs.Ytlcpdlngbofgcaa
open Go Go.Proofs Go.Sep
/-- A column of a relation of a valid database. -/
def ColOK (d : Database) (r c : Int) : Prop := DbOK d ∧ ∃ (n : Nat) (rel : Relation), r = n ∧ d.relations[n]? = some rel ∧ 0 ≤ c ∧ c ≤ w64 (rel.arity - 1)
theorem col_tail (d : Database) (r c : Int) (b : Bool) (hb : b = true ↔ DbOK d) : ∃ t, (cond b ((some ((decide (0 ≤ r)) && (decide (r ≤ (d.relations.length : Int) - 1)))).bind fun r_7 => cond r_7 ((getI d.relations r).bind fun v_10 => (some ((decide (0 ≤ c)) && (decide (c ≤ w64 (v_10.arity - 1))))).bind fun r_15 => some r_15) (some false)) (some false)) = some t ∧ (t = true ↔ ColOK d r c) := by
  cases b with
  | false => exact ⟨false, rfl, by simp; intro h; simp at hb; exact hb h.1⟩
  | true =>
    have hd : DbOK d := hb.1 rfl
    rw [cond_T' rfl, Option.bind_some]
    by_cases h : 0 ≤ r ∧ r ≤ (d.relations.length : Int) - 1
    · rw [cond_T' (by simp [h])]
      obtain ⟨n, hn⟩ : ∃ n : Nat, r = n := ⟨r.toNat, by omega⟩
      have hnl : n < d.relations.length := by omega
      rw [hn, getI_lt hnl, Option.bind_some, Option.bind_some]
      refine ⟨_, rfl, ?_⟩
      simp only [Bool.and_eq_true, decide_eq_true_eq]
      constructor
      · intro hc; exact ⟨hd, n, _, rfl, List.getElem?_eq_getElem hnl, hc.1, hc.2⟩
      · rintro ⟨_, n', rel, h1, h2, h3, h4⟩
        have : n' = n := by omega
        subst this
        rw [List.getElem?_eq_getElem hnl] at h2; cases h2
        exact ⟨h3, h4⟩
    · rw [cond_F' (by simp; omega)]
      refine ⟨false, rfl, by simp; rintro ⟨_, n', rel, h1, h2, _⟩; have := (List.getElem?_eq_some_iff.1 h2).1; omega⟩
theorem isColumn_eq (d : Database) (r c : Int) : ∃ b, m_impl_isColumn d r c = some b ∧ (b = true ↔ ColOK d r c) := by
  obtain ⟨b, h1, h2⟩ := impl_IsValidDatabase_eq d
  obtain ⟨t, h3, h4⟩ := col_tail d r c b h2
  unfold m_impl_isColumn m_impl_within
  rw [h1, Option.bind_some]
  exact ⟨t, by rw [h3]; rfl, h4⟩
theorem l27Ok_eq (u : Nat) (d : Database) (hd : DbS d) (hu : 1048577 < u) (r c : Int) : ∃ b, m_spec_l27Ok u d r c = some b ∧ (b = true ↔ ColOK d r c) := by
  obtain ⟨b, h1, h2⟩ := spec_IsValidDatabase_eq u d hd hu
  obtain ⟨t, h3, h4⟩ := col_tail d r c b h2
  unfold m_spec_l27Ok m_spec_l1In
  rw [h1, Option.bind_some]
  exact ⟨t, by rw [h3]; rfl, h4⟩
/-- What one index adds. -/
def pickV (d : Database) (r c : Int) (x : Int) : List Int := match d.facts[x.toNat]? with
  | some f => if f.relation = r then (match f.values[c.toNat]? with | some v => [v] | none => []) else []
  | none => []
def addW (xs : List Int) : Int := xs.foldl (fun s x => w64 (s + x)) 0
theorem addW_snoc (xs ys : List Int) : addW (xs ++ ys) = ys.foldl (fun s x => w64 (s + x)) (addW xs) := by simp [addW]
theorem val_at {d : Database} {r c : Int} (hok : ColOK d r c) {x : Int} {f : Fact} (hf : getI d.facts x = some f) (hr : f.relation = r) (hs : f.values.length ≤ 1048576) : ∃ v, getI f.values c = some v ∧ pickV d r c x = [v] := by
  obtain ⟨m, rfl, hm⟩ := getI_inv hf
  obtain ⟨hd, n, rel, h1, h2, h3, h4⟩ := hok
  obtain ⟨n', rel', g1, g2, g3, g4⟩ := hd.fact m f hm
  have : n' = n := by omega
  subst this
  rw [h2] at g2; cases g2
  rw [w64_id (by omega)] at h4
  obtain ⟨k, rfl⟩ : ∃ k : Nat, c = k := ⟨c.toNat, by omega⟩
  have hk : k < f.values.length := by omega
  refine ⟨f.values[k], getI_lt hk, ?_⟩
  simp only [pickV, Int.toNat_natCast, hm, if_pos hr, List.getElem?_eq_getElem hk]
theorem columnOf_eq {d : Database} {r c : Int} (hok : ColOK d r c) (hd : DbS d) (l : List Int) (hl : l.length ≤ 1048576) (hx : ∀ x ∈ l, 0 ≤ x ∧ x < (d.facts.length : Int)) : m_impl_columnOf d l r c = some (l.flatMap (pickV d r c)) := by
  unfold m_impl_columnOf
  obtain ⟨s, h1, h2⟩ := forS_ok (xs := l) (s := ([] : List Int)) (f := fun (t_1 : Int) (x_t_1 : Int) (out9 : (List Int)) => (getI d.facts x_t_1).bind fun v_3 => cond (decide (v_3.relation = r)) ((getI v_3.values c).bind fun v_9 => (app 8 out9 ([v_9] : (List Int))).bind fun us_14 => some us_14) (some out9))
    (fun n s => s.length ≤ n ∧ s = (l.take n).flatMap (pickV d r c)) ⟨by simp, rfl⟩ fun n x s hx' ⟨hs, hI⟩ => by
      have hn : n < l.length := (List.getElem?_eq_some_iff.1 hx').1
      have hb := hx x (List.mem_of_getElem? hx')
      obtain ⟨m, rfl⟩ : ∃ m : Nat, x = m := ⟨x.toNat, by omega⟩
      have hm : m < d.facts.length := by omega
      have hg : getI d.facts (m : Int) = some d.facts[m] := getI_lt hm
      have hv := hd.2.2.2 _ (List.getElem_mem hm)
      rw [hg, Option.bind_some, List.take_add_one, hx']
      by_cases hr : d.facts[m].relation = r
      · obtain ⟨v, h3, h4⟩ := val_at hok hg hr hv
        rw [cond_T' (by simpa using hr), h3, Option.bind_some, app_ok (by simp; omega), Option.bind_some]
        exact ⟨_, rfl, by simp; omega, by simp [h4, hI]⟩
      · rw [cond_F' (by simpa using hr)]
        refine ⟨_, rfl, by omega, ?_⟩
        have : pickV d r c m = [] := by simp only [pickV, Int.toNat_natCast, List.getElem?_eq_getElem hm, if_neg hr]
        simp [this, hI]
  rw [h1, Option.bind_some, h2.2, List.take_length]
end Go.Proofs.Ytlcpdlngbofgcaa
/- Sums. -/
set_option linter.unusedVariables false
set_option linter.unusedSimpArgs false
namespace Go.Proofs.Ytlcpdlngbofgcaa
open Go Go.Proofs Go.Sep
theorem sumOf_eq (xs : List Int) : m_impl_sumOf xs = some (addW xs) := by
  unfold m_impl_sumOf
  obtain ⟨s, h1, h2⟩ := forS_ok (xs := xs) (s := 0) (f := fun (t_1 : Int) (x_t_1 : Int) (sum3 : Int) => some (w64 (sum3 + x_t_1))) (fun n s => s = addW (xs.take n)) rfl fun n x s hx hI => by
    refine ⟨_, rfl, ?_⟩
    rw [List.take_add_one, hx, addW_snoc, hI]; rfl
  rw [h1, Option.bind_some, h2, List.take_length]
end Go.Proofs.Ytlcpdlngbofgcaa
/- Sums of a column, for both sides. -/
set_option linter.unusedVariables false
set_option linter.unusedSimpArgs false
namespace Go.Proofs.Ytlcpdlngbofgcaa
open Go Go.Proofs Go.Sep
theorem spec_ColumnSum_eq (u : Nat) (d : Database) (hd : DbS d) (hu : 1048577 < u) (l : List Int) (hl : l.length ≤ 1048576) (r c : Int) : ∃ z, m_spec_ColumnSum u d l r c = some z ∧ (l = [] → z = 0) ∧ (∀ b1 b2, m_impl_isColumn d r c = some b1 → m_impl_areIndices l (d.facts.length : Int) = some b2 → z = if b1 = true ∧ b2 = true then addW (l.flatMap (pickV d r c)) else 0) := by
  obtain ⟨b1, hb1, hb1'⟩ := isColumn_eq d r c
  obtain ⟨b1s, hs1, hs1'⟩ := l27Ok_eq u d hd hu r c
  have eb : b1s = b1 := by rw [Bool.eq_iff_iff, hs1', hb1']
  subst eb
  obtain ⟨b2, hb2, hb2'⟩ := areIndices_tot l (d.facts.length : Int) (by omega) (by have := hd.2.1; omega)
  have hs2 := l4Set_eq d l hd.2.1
  rw [hb2] at hs2
  unfold m_spec_ColumnSum
  obtain ⟨o, h1, h2⟩ := while_ok (f := fun (⟨n9, i10⟩ : Int × Int) => (cond (decide (i10 < (l.length : Int))) ((m_spec_l27Ok u d r c).bind fun r_5 => cond r_5 ((m_spec_l4Set d l).bind fun r_8 => some r_8) (some false)) (some false)).bind fun (t25 : Bool) => cond t25 ((getI l i10).bind fun v_11 => (getI d.facts v_11).bind fun v_16 => cond (decide (v_16.relation = r)) ((getI v_16.values c).bind fun v_22 => some (Ctl.next (R := Int) ((w64 (n9 + v_22)), (w64 (i10 + 1))))) (some (.next (n9, (w64 (i10 + 1)))))) (some (.brk (n9, i10))))
    (fun (s : Int × Int) => ∃ n : Nat, s.2 = (n : Int) ∧ n ≤ l.length ∧ s.1 = addW ((l.take n).flatMap (pickV d r c)) ∧ (n = 0 ∨ (b1s = true ∧ b2 = true))) (fun (s : Int × Int) => l.length - s.2.toNat)
    (fun (s : Int × Int) => s.1 = if b1s = true ∧ b2 = true then addW (l.flatMap (pickV d r c)) else 0) (fun (_ : Int) => False)
    (fun ⟨s, i⟩ ⟨n, hi, hn1, hI, h0⟩ => by
      simp only at hi hI
      subst hi
      simp only [hs1, hs2, Option.bind_some]
      by_cases h : n < l.length
      · rw [cond_T' (by simpa using h)]
        by_cases hb : b1s = true ∧ b2 = true
        · obtain ⟨e1, e2⟩ := hb
          subst e1 e2
          simp only [cond_true, Option.bind_some]
          rw [getI_lt h, Option.bind_some]
          have hx := hb2' rfl l[n] (List.getElem_mem h)
          obtain ⟨m, hm'⟩ : ∃ m : Nat, l[n] = m := ⟨l[n].toNat, by omega⟩
          have hm : m < d.facts.length := by omega
          have hg : getI d.facts l[n] = some d.facts[m] := by rw [hm']; exact getI_lt hm
          have hv := hd.2.2.2 _ (List.getElem_mem hm)
          have ht : l.take (n + 1) = l.take n ++ [l[n]] := by rw [List.take_add_one, List.getElem?_eq_getElem h]; rfl
          rw [hg, Option.bind_some]
          by_cases hr : d.facts[m].relation = r
          · obtain ⟨v, h3, h4⟩ := val_at (hb1'.1 rfl) hg hr hv
            rw [cond_T' (by simpa using hr), h3, Option.bind_some, w64_id (x := (n : Int) + 1) (by omega)]
            refine ⟨_, rfl, ⟨n + 1, by simp, h, ?_, .inr (by simp)⟩, by simp only; omega⟩
            simp only
            rw [ht, List.flatMap_append, addW_snoc, hI]; simp [h4]
          · rw [cond_F' (by simpa using hr), w64_id (x := (n : Int) + 1) (by omega)]
            have h4 : pickV d r c l[n] = [] := by simp only [pickV, hm', Int.toNat_natCast, List.getElem?_eq_getElem hm, if_neg hr]
            refine ⟨_, rfl, ⟨n + 1, by simp, h, ?_, .inr (by simp)⟩, by simp only; omega⟩
            simp only
            rw [ht, List.flatMap_append, addW_snoc, hI]; simp [h4]
        · have hn0 : n = 0 := h0.resolve_right hb
          subst hn0
          have e : cond b1s (some b2) (some false) = some false := by cases b1s <;> cases b2 <;> simp at hb ⊢
          rw [e, Option.bind_some]
          exact ⟨_, rfl, by simp only [CtlP]; rw [if_neg hb, hI]; rfl⟩
      · rw [cond_F' (by simpa using h), Option.bind_some]
        have en : n = l.length := by omega
        refine ⟨_, rfl, ?_⟩
        simp only [CtlP]
        rcases h0 with h0 | h0
        · have : l = [] := List.eq_nil_of_length_eq_zero (by omega)
          subst this
          rw [hI]; simp [addW]
        · rw [if_pos h0, hI, en, List.take_length])
    u (0, 0) (by simp; omega) ⟨0, rfl, by omega, rfl, .inl rfl⟩
  rw [h1, Option.bind_some]
  cases o with
  | inr z => exact h2.elim
  | inl s =>
    obtain ⟨z, i⟩ := s
    simp only [SumP] at h2
    refine ⟨z, rfl, fun hl0 => ?_, fun c1 c2 hc1 hc2 => ?_⟩
    · subst hl0; rw [h2]; simp [addW]
    · rw [hb1] at hc1; cases hc1; rw [hb2] at hc2; cases hc2; exact h2
theorem impl_ColumnSum_eq (d : Database) (hd : DbS d) (l : List Int) (hl : l.length ≤ 1048576) (r c : Int) {b1 b2 : Bool} (hb1 : m_impl_isColumn d r c = some b1) (hb2 : m_impl_areIndices l (d.facts.length : Int) = some b2) : m_impl_ColumnSum d l r c = some (if b1 = true ∧ b2 = true then addW (l.flatMap (pickV d r c)) else 0) := by
  obtain ⟨b1', h1, h1'⟩ := isColumn_eq d r c
  rw [hb1] at h1; cases h1
  obtain ⟨b2', h2, h2'⟩ := areIndices_tot l (d.facts.length : Int) (by omega) (by have := hd.2.1; omega)
  rw [hb2] at h2; cases h2
  unfold m_impl_ColumnSum
  rw [hb1, hb2]
  cases b1 with
  | false => rfl
  | true =>
    cases b2 with
    | false => rfl
    | true =>
      simp only [Option.bind_some, Bool.not_true, cond_false, and_self, if_true]
      rw [columnOf_eq (h1'.1 rfl) hd l hl (h2' rfl), Option.bind_some, sumOf_eq]; rfl
end Go.Proofs.Ytlcpdlngbofgcaa
/- The column sum over a disjoint union: the law. -/
set_option linter.unusedVariables false
set_option linter.unusedSimpArgs false
namespace Go.Proofs.Ytlcpdlngbofgcaa
open Go Go.Proofs Go.Sep
/-- A list of ascending indices: so are its parts. -/
def AscB (n : Int) (l : List Int) : Prop := (∀ x ∈ l, 0 ≤ x ∧ x ≤ n - 1) ∧ l.Pairwise (· < ·)
theorem areIndices_iff (l : List Int) (n : Int) (h0 : 0 ≤ n) (h1 : n ≤ 1048576) : Ok (m_impl_areIndices l n) fun b => (b = true ↔ AscB n l) := by
  unfold m_impl_areIndices m_impl_within
  have adj : ∀ (l : List Int), (∀ (j : Nat) x y, l[j]? = some x → l[j + 1]? = some y → x < y) → l.Pairwise (· < ·) := by
    intro l
    induction l with
    | nil => intro _; exact .nil
    | cons a l ih =>
      intro h
      have hl := ih fun j x y hx hy => h (j + 1) x y (by simpa using hx) (by simpa using hy)
      refine .cons (fun y hy => ?_) hl
      cases l with
      | nil => cases hy
      | cons b l =>
        have hab := h 0 a b rfl rfl
        rcases List.mem_cons.1 hy with rfl | hy
        · exact hab
        · exact Int.lt_trans hab ((List.pairwise_cons.1 hl).1 y hy)
  refine Ok.forL (fun m _ => (∀ (j : Nat) x, j < m → l[j]? = some x → 0 ≤ x ∧ x ≤ n - 1) ∧ ∀ (j : Nat) x y, j + 1 < m → l[j]? = some x → l[j + 1]? = some y → x < y) (fun _ => False) (fun (r : Bool) => r = false ∧ ¬ AscB n l) ⟨fun j x hj => by omega, fun j x y hj => by omega⟩ (fun m x s hx ⟨hI, hJ⟩ => ?_) (fun s hs => .ret ⟨fun _ => ?_, fun _ => rfl⟩) (fun r hr => .ret ⟨fun h => absurd h (by rw [hr.1]; exact Bool.false_ne_true), fun h => (hr.2 h).elim⟩)
  · have hm : m < l.length := (List.getElem?_eq_some_iff.1 hx).1
    rw [w64_id (x := n - 1) (by omega)]
    refine .bind (P := fun t => (t = true → ¬ AscB n l) ∧ (t = false → (0 ≤ x ∧ x ≤ n - 1) ∧ ∀ (j : Nat) y, j + 1 = m → l[j]? = some y → y < x)) ?_ fun t ht => .cond (fun h => .out ⟨rfl, ht.1 h⟩) fun h => .next ⟨fun j y hj hy => ?_, fun j y z hj hy hz => ?_⟩
    · refine .bind (Ok.of rfl) fun b hb => ?_
      subst hb
      refine .cond (fun h => .ret ⟨fun _ ha => ?_, fun h => by cases h⟩) fun h => ?_
      · have := ha.1 x (List.mem_of_getElem? hx)
        simp at h; omega
      · have hr : 0 ≤ x ∧ x ≤ n - 1 := by simpa using h
        refine .cond (fun h0 => ?_) fun h0 => .ret ⟨(fun h => by cases h), fun _ => ⟨hr, fun j y hj hy => absurd (show (0 : Int) < (m : Int) by omega) (of_decide_eq_false h0)⟩⟩
        have hm0 : 0 < m := by simpa using h0
        refine .get (n := m - 1) (by omega) (by omega) (.ret ⟨fun h ha => ?_, fun h => ⟨hr, fun j y hj hy => ?_⟩⟩)
        · have h1 : x ≤ l[m - 1] := by simpa using h
          have h2 := List.pairwise_iff_getElem.1 ha.2 (m - 1) m (by omega) hm (by omega)
          rw [List.getElem?_eq_getElem hm] at hx; cases hx
          omega
        · have h1 : ¬ x ≤ l[m - 1] := by simpa using h
          have e : j = m - 1 := by omega
          subst e
          rw [List.getElem?_eq_getElem (by omega)] at hy; cases hy
          omega
    · by_cases e : j = m
      · subst e; rw [hx] at hy; cases hy; exact (ht.2 h).1
      · exact hI j y (by omega) hy
    · by_cases e : j + 1 = m
      · subst e; rw [hx] at hz; cases hz; exact (ht.2 h).2 j y rfl hy
      · exact hJ j y z (by omega) hy hz
  · have h := hs.resolve_right id
    refine ⟨fun x hx => ?_, adj l fun j x y hx hy => h.2 j x y (List.getElem?_eq_some_iff.1 hy).1 hx hy⟩
    obtain ⟨j, hj⟩ := List.getElem?_of_mem hx
    exact h.1 j x (List.getElem?_eq_some_iff.1 hj).1 hj
theorem AscB.take {n : Int} {l : List Int} (h : AscB n l) (k : Nat) : AscB n (l.take k) := ⟨fun x hx => h.1 x (List.mem_of_mem_take hx), h.2.sublist (List.take_sublist k l)⟩
theorem AscB.drop {n : Int} {l : List Int} (h : AscB n l) (k : Nat) : AscB n (l.drop k) := ⟨fun x hx => h.1 x (List.mem_of_mem_drop hx), h.2.sublist (List.drop_sublist k l)⟩
theorem w64_w64_add (a b : Int) : w64 (w64 a + b) = w64 (a + b) := by
  unfold w64 IntKind.wrap
  simp only [IntKind.bits, IntKind.signed, Bool.true_and, decide_eq_true_eq, Int.reducePow, Nat.reduceSub, ge_iff_le]
  split <;> split <;> split <;> omega
theorem foldl_w (ys : List Int) : ∀ a : Int, ys.foldl (fun s x => w64 (s + x)) (w64 a) = w64 (a + ys.foldl (fun s x => w64 (s + x)) 0) := by
  have key : ∀ (ys : List Int) (a b : Int), ys.foldl (fun s x => w64 (s + x)) (w64 (a + b)) = w64 (a + ys.foldl (fun s x => w64 (s + x)) (w64 b)) := by
    intro ys
    induction ys with
    | nil => intro a b; simp only [List.foldl_nil]; rw [Int.add_comm a (w64 b), w64_w64_add, Int.add_comm]
    | cons y ys ih =>
      intro a b
      simp only [List.foldl_cons]
      rw [w64_w64_add, w64_w64_add, Int.add_assoc, ih a (b + y)]
  intro a
  have := key ys a 0
  rw [Int.add_zero] at this
  rw [this, w64_id (x := 0) (by omega)]
theorem addW_w (xs : List Int) : w64 (addW xs) = addW xs := by
  rcases List.eq_nil_or_concat xs with rfl | ⟨ys, x, rfl⟩
  · exact w64_id (by simp [addW])
  · rw [List.concat_eq_append, addW_snoc]
    simp only [List.foldl_cons, List.foldl_nil]
    have := w64_w64_add (addW ys + x) 0
    rw [Int.add_zero, Int.add_zero] at this; exact this
theorem addW_add (xs ys : List Int) : addW (xs ++ ys) = w64 (addW xs + addW ys) := by
  rw [addW_snoc]
  have := foldl_w ys (addW xs)
  rw [addW_w] at this; exact this
theorem at_ok {code : List Int} (hc : ∀ x ∈ code, 0 ≤ x ∧ x ≤ 255) (hl : code.length ≤ 1048576) {i : Int} (hi : 0 ≤ i) (hi2 : i ≤ 1000) : Ok (m_laws_at code i) fun k => 0 ≤ k ∧ k ≤ 255 := by
  unfold m_laws_at
  refine .cond (fun h => .get' hi (of_decide_eq_true h) fun n hn e => .ret ?_) fun h => .ret ?_
  · have := hc _ (List.getElem_mem hn)
    rw [w64_id (by omega)]; exact this
  · rw [w64_id (x := i * 37) (by omega), w64_id (x := (code.length : Int) * 11) (by omega), w64_id (by omega)]
    have h1 := Int.tmod_nonneg (a := i * 37 + (code.length : Int) * 11) 256 (by omega)
    have h2 := Int.tmod_lt_of_pos (a := i * 37 + (code.length : Int) * 11) (b := 256) (by omega)
    omega
theorem cutAt_ok {code : List Int} (hc : ∀ x ∈ code, 0 ≤ x ∧ x ≤ 255) (hl : code.length ≤ 1048576) {i n : Int} (hi : 0 ≤ i) (hi2 : i ≤ 1000) (h0 : 0 ≤ n) (h1 : n ≤ 1000) : Ok (m_laws_cutAt code i n) fun k => 0 ≤ k ∧ k ≤ n := by
  unfold m_laws_cutAt
  refine .bind (at_ok hc hl hi hi2) fun r hr => .ret ?_
  have ha : 0 ≤ r * (n + 1) := Int.mul_nonneg hr.1 (by omega)
  have hb : r * (n + 1) ≤ 255 * (n + 1) := Int.mul_le_mul_of_nonneg_right hr.2 (by omega)
  rw [w64_id (x := n + 1) (by omega), w64_id (x := r * (n + 1)) (by omega), Int.tdiv_eq_ediv_of_nonneg ha]
  generalize r * (n + 1) = z at ha hb
  rw [w64_id (by omega)]
  omega
theorem law_ColumnSumD (code : List Int) (hc : ∀ x ∈ code, 0 ≤ x ∧ x ≤ 255) : m_laws_FnColumnSum 1048578 code = some true := by
  unfold m_laws_FnColumnSum m_laws_big
  refine Ok.to (.bind (Ok.of rfl) fun b hb => ?_)
  subst hb
  refine .cond (fun _ => .ret rfl) fun hbig => ?_
  have hl : code.length ≤ 1048576 := by have := of_decide_eq_false hbig; omega
  have hdraw : Ok (m_spec_DrawColumnSum 1048578 code) fun r => DbD r.1 ∧ r.2.1.length ≤ 14 := by
    unfold m_spec_DrawColumnSum
    exact .bind (l27Draw_ok hl (by omega)) fun r1 h1 => .bind (l4Places_ok h1.1 h1.2 (by omega)) fun r3 h3 => .ret ⟨h1.2, h3.2⟩
  refine .bind hdraw fun r hr => ?_
  obtain ⟨d, l, rr, c⟩ := r
  obtain ⟨hd, hll⟩ := hr
  simp only at hd hll ⊢
  have hs := hd.s
  obtain ⟨b1, hb1, hb1'⟩ := isColumn_eq d rr c
  have ix : ∀ l : List Int, ∃ b2, m_impl_areIndices l (d.facts.length : Int) = some b2 ∧ (b2 = true ↔ AscB d.facts.length l) := fun l => areIndices_iff l _ (by omega) (by have := hd.2.1; omega)
  obtain ⟨b2, hb2, hb2'⟩ := ix l
  have him : ∀ l : List Int, l.length ≤ 1048576 → ∀ b2, m_impl_areIndices l (d.facts.length : Int) = some b2 → m_impl_ColumnSum d l rr c = some (if b1 = true ∧ b2 = true then addW (l.flatMap (pickV d rr c)) else 0) := fun l hl b2 h => impl_ColumnSum_eq d hs l hl rr c hb1 h
  obtain ⟨z, hz, _, hz2⟩ := spec_ColumnSum_eq 1048578 d hs (by omega) l (by omega) rr c
  have hz3 := hz2 b1 b2 hb1 hb2
  rw [him l (by omega) b2 hb2]
  refine .bind (Ok.of rfl) fun n hn => .eq hz ?_
  rw [hz3, hn]
  refine .cf (by simp) (.bind (cutAt_ok hc hl (by omega) (by omega) (by omega) (by omega)) fun k hk => ?_)
  obtain ⟨m, hm⟩ : ∃ m : Nat, k = m := ⟨k.toNat, by omega⟩
  refine .bind (P := fun t => t = true) ?_ fun t ht => .ret ht
  have hml : m ≤ l.length := by omega
  obtain ⟨b3, hb3, hb3'⟩ := ix (l.take m)
  obtain ⟨b4, hb4, hb4'⟩ := ix (l.drop m)
  refine .cut (i := 0) (j := m) rfl hm (Nat.zero_le _) hml ?_
  rw [List.drop_zero]
  refine .eq (him (l.take m) (by simp; omega) b3 hb3) (.cut (i := m) (j := l.length) hm rfl hml (Nat.le_refl _) ?_)
  rw [List.take_length]
  refine .eq (him (l.drop m) (by simp; omega) b4 hb4) ?_
  by_cases hc1 : b1 = true ∧ b2 = true
  · have h3 : b3 = true := hb3'.2 ((hb2'.1 hc1.2).take m)
    have h4 : b4 = true := hb4'.2 ((hb2'.1 hc1.2).drop m)
    rw [if_pos hc1, if_pos ⟨hc1.1, h3⟩, if_pos ⟨hc1.1, h4⟩, ← addW_add, ← List.flatMap_append, List.take_append_drop]
    exact .ct (by simp) (.ret rfl)
  · rw [if_neg hc1]
    exact .cond (fun _ => .ret rfl) fun _ => .ret (by simp)
end Go.Proofs.Ytlcpdlngbofgcaa

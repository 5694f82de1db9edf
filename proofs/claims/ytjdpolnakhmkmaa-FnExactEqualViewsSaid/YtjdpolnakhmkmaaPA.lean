/- Plain laws. -/
import Derived.Test.YtjdpolnakhmkmaaCRC
import Derived.Test.YtjdpolnakhmkmaaM0
/- Databases: sizes, copies, comparisons, and what valid ones are, for both sides. -/
set_option linter.unusedVariables false
set_option linter.unusedSimpArgs false
namespace Go.Proofs.Ytjdpolnakhmkmaa
open Go Go.Proofs Go.Sep
theorem cond_nt {α : Type} {x y : α} : cond (!true) x y = y := rfl
theorem cond_nf {α : Type} {x y : α} : cond (!false) x y = x := rfl
/-! ### sizes -/
theorem szIntS_b (a : List Int) (hl : a.length ≤ 9223372036854775807) (left : Int) (h0 : 0 ≤ left) (h1 : left ≤ 1048576) : ∃ r, m_laws_szIntS a left = some r ∧ (r = -1 ∨ (0 ≤ r ∧ r ≤ left ∧ a.length ≤ 1048576)) := by
  unfold m_laws_szIntS
  rw [w64_id (by omega)]
  by_cases h : left < a.length
  · rw [cond_T' (by simp; omega)]; exact ⟨_, rfl, .inl rfl⟩
  · rw [cond_F' (by simp; omega)]; exact ⟨_, rfl, .inr ⟨by omega, by omega, by omega⟩⟩
theorem szRelation_b (a : Relation) (hl : a.name.size ≤ 9223372036854775807) (left : Int) (h0 : 0 ≤ left) (h1 : left ≤ 1048576) : ∃ r, m_laws_szRelation a left = some r ∧ (r = -1 ∨ (0 ≤ r ∧ r ≤ left ∧ a.name.size ≤ 1048576)) := by
  unfold m_laws_szRelation
  rw [w64_id (by omega)]
  by_cases h : left < a.name.size
  · rw [cond_T' (by simp; omega)]; exact ⟨_, rfl, .inl rfl⟩
  · rw [cond_F' (by simp; omega)]; exact ⟨_, rfl, .inr ⟨by omega, by omega, by omega⟩⟩
theorem szFact_b (a : Fact) (hl : a.values.length ≤ 9223372036854775807) (left : Int) (h0 : 0 ≤ left) (h1 : left ≤ 1048576) : ∃ r, m_laws_szFact a left = some r ∧ (r = -1 ∨ (0 ≤ r ∧ r ≤ left ∧ a.values.length ≤ 1048576)) := by
  unfold m_laws_szFact
  obtain ⟨r, h2, h3⟩ := szIntS_b a.values hl left h0 h1
  rw [h2, Option.bind_some]
  rcases h3 with rfl | h3
  · exact ⟨_, rfl, .inl rfl⟩
  · rw [cond_F' (by simp; omega)]; exact ⟨_, rfl, .inr h3⟩
/-- What can be held in a machine, for a database. -/
def DbM (d : Database) : Prop := d.relations.length ≤ 9223372036854775807 ∧ d.facts.length ≤ 9223372036854775807 ∧ (∀ r ∈ d.relations, r.name.size ≤ 9223372036854775807) ∧ ∀ f ∈ d.facts, f.values.length ≤ 9223372036854775807
/-- A database that is small enough for the laws. -/
def DbS (d : Database) : Prop := d.relations.length ≤ 1048576 ∧ d.facts.length ≤ 1048576 ∧ (∀ r ∈ d.relations, r.name.size ≤ 1048576) ∧ ∀ f ∈ d.facts, f.values.length ≤ 1048576
theorem szDatabase_b (d : Database) (hd : DbM d) (left : Int) (h0 : 0 ≤ left) (h1 : left ≤ 1048576) : ∃ r, m_laws_szDatabase d left = some r ∧ (r = -1 ∨ (0 ≤ r ∧ r ≤ left ∧ DbS d)) := by
  obtain ⟨r1, h2, h3⟩ := sz_loop (fun r : Relation => r.name.size ≤ 1048576) (a := d.relations) (fun x hx l => szRelation_b x (hd.2.2.1 x hx) l) h0 h1 hd.1
  have h2' : m_laws_szRelationS d.relations left = some r1 := h2
  unfold m_laws_szDatabase
  rw [h2', Option.bind_some]
  rcases h3 with rfl | ⟨h3, h4, h5⟩
  · exact ⟨_, rfl, .inl rfl⟩
  · rw [cond_F' (by simp; omega)]
    obtain ⟨r2, h6, h7⟩ := sz_loop (fun f : Fact => f.values.length ≤ 1048576) (a := d.facts) (fun x hx l => szFact_b x (hd.2.2.2 x hx) l) h3 (by omega) hd.2.1
    have h6' : m_laws_szFactS d.facts r1 = some r2 := h6
    rw [h6', Option.bind_some]
    rcases h7 with rfl | ⟨h7, h8, h9⟩
    · exact ⟨_, rfl, .inl rfl⟩
    · rw [cond_F' (by simp; omega)]; exact ⟨_, rfl, .inr ⟨h7, by omega, by omega, by omega, h5, h9⟩⟩
/-! ### copies -/
theorem toIntS_id (a : List Int) (hl : a.length ≤ 1048576) : m_laws_toIntS a = some a := by
  unfold m_laws_toIntS
  rw [mk_ok (by omega) (by omega), Option.bind_some, forS_fill (fun x => x) (by simp) fun n x zs hx hz => ?_]
  · simp
  · have hn : n < zs.length := by have := (List.getElem?_eq_some_iff.1 hx).1; omega
    rw [getI_lt hn]; simp
theorem toDatabase_id (d : Database) (hd : DbS d) : m_laws_toDatabase d = some d := by
  have h1 : m_laws_toRelationS d.relations = some d.relations := by
    have := to_loop (b := 32) (z := (default : Relation)) (g := m_laws_toRelation) (fun x => x) (a := d.relations) (fun x _ => rfl) hd.1 (by omega)
    rw [List.map_id'] at this; exact this
  have h2 : m_laws_toFactS d.facts = some d.facts := by
    have := to_loop (b := 32) (z := (default : Fact)) (g := m_laws_toFact) (fun x => x) (a := d.facts) (fun x hx => by unfold m_laws_toFact; rw [toIntS_id _ (hd.2.2.2 x hx)]; rfl) hd.2.1 (by omega)
    rw [List.map_id'] at this; exact this
  unfold m_laws_toDatabase
  rw [h1, Option.bind_some, h2, Option.bind_some]
/-! ### comparisons with itself -/
theorem eqIntS_self (a : List Int) : m_laws_eqIntS a a = some true := by
  unfold m_laws_eqIntS
  rw [cond_F' (by simp)]
  obtain ⟨o, h1, h2⟩ := forL_ok (xs := a) (s := ()) (f := fun (i_2 : Int) (x_i_2 : Int) (_ : Unit) => (getI a (i_2 : Int)).bind fun v_4 => cond (decide (x_i_2 ≠ v_4)) (some (.ret false)) (some (.next ())))
    (fun _ _ => True) (fun _ => False) (fun (_ : Bool) => False) trivial fun n x s hx _ => by
      rw [getI_nat, hx, Option.bind_some, cond_F' (by simp)]
      exact ⟨_, rfl, trivial⟩
  rw [h1, Option.bind_some]
  cases o with
  | inl s => rfl
  | inr r => exact h2.elim
theorem eqRelation_self (a : Relation) : m_laws_eqRelation a a = some true := by simp [m_laws_eqRelation]
theorem eqFact_self (a : Fact) : m_laws_eqFact a a = some true := by
  unfold m_laws_eqFact
  rw [cond_F' (by simp), eqIntS_self]; rfl
theorem eqDatabase_self (d : Database) : m_laws_eqDatabase d d = some true := by
  have h1 : m_laws_eqRelationS d.relations d.relations = some true := eq_loop (fun x _ => eqRelation_self x)
  have h2 : m_laws_eqFactS d.facts d.facts = some true := eq_loop (fun x _ => eqFact_self x)
  unfold m_laws_eqDatabase
  rw [h1, Option.bind_some, h2]; rfl
/-! ### lists compared -/
theorem cmpL_drop {a b : List Int} {i : Nat} (h1 : i < a.length) (h2 : i < b.length) : cmpL (a.drop i) (b.drop i) = if a[i] < b[i] then -1 else if b[i] < a[i] then 1 else cmpL (a.drop (i + 1)) (b.drop (i + 1)) := by
  rw [List.drop_eq_getElem_cons h1, List.drop_eq_getElem_cons h2]; rfl
theorem cmpL_nil_r (a : List Int) : cmpL a [] = if a.length = 0 then 0 else 1 := by cases a <;> simp [cmpL]
theorem cmpL_nil_l (b : List Int) : cmpL [] b = if b.length = 0 then 0 else -1 := by cases b <;> simp [cmpL]
theorem cmp_Compare_eq (x y : Int) : m_cmp_Compare_int x y = some (if x < y then -1 else if y < x then 1 else 0) := by
  unfold m_cmp_Compare_int m_cmp_isNaN_int
  simp only [Option.bind_some, ne_eq, not_true_eq_false, decide_false, cond_false]
  by_cases h1 : x < y
  · simp [h1]
  · by_cases h2 : y < x <;> simp [h1, h2]
theorem slices_Compare_from (a b : List Int) : ∀ (k i : Nat), i + k = a.length → (forL (R := Int) (fun (t_1 : Int) (x_t_1 : Int) (_ : Unit) => cond (decide ((b.length : Int) ≤ (t_1 : Int))) (some (.ret 1)) ((getI b (t_1 : Int)).bind fun v_4 => (m_cmp_Compare_int x_t_1 v_4).bind fun r_9 => cond (decide (r_9 ≠ 0)) (some (.ret r_9)) (some (.next ())))) (a.drop i) (i : Int) ()).bind (fun O2_ => onS O2_ (fun (_ : Unit) => cond (decide ((a.length : Int) < (b.length : Int))) (some (-1)) (some 0)) (fun r => some r)) = some (cmpL (a.drop i) (b.drop i))
  | 0, i, hk => by
    rw [List.drop_eq_nil_of_le (show a.length ≤ i by omega), cmpL_nil_l]
    simp only [forL, Option.bind_some, onS, List.length_drop]
    by_cases h : a.length < b.length
    · rw [cond_T' (by simpa using h), if_neg (by omega)]
    · rw [cond_F' (by simpa using h), if_pos (by omega)]
  | k + 1, i, hk => by
    have hi : i < a.length := by omega
    rw [List.drop_eq_getElem_cons hi]
    simp only [forL]
    by_cases hb : b.length ≤ i
    · rw [cond_T' (by simpa using hb), List.drop_eq_nil_of_le hb]; rfl
    · rw [cond_F' (by simpa using hb), getI_lt (show i < b.length by omega), Option.bind_some, cmp_Compare_eq, Option.bind_some]
      rw [← List.drop_eq_getElem_cons hi, cmpL_drop hi (by omega)]
      by_cases h1 : a[i] < b[i]
      · simp [h1, onS]
      · by_cases h2 : b[i] < a[i]
        · simp [h1, h2, onS]
        · simp only [h1, h2, if_false, ne_eq, not_true_eq_false, decide_false, cond_false, Option.bind_some]
          exact slices_Compare_from a b k (i + 1) (by omega)
theorem slices_Compare_eq (a b : List Int) : m_slices_Compare_Sint_int a b = some (cmpL a b) := slices_Compare_from a b a.length 0 (by omega)
theorem l3Ints_cmp (a b : List Int) (u : Nat) (hu : a.length < u) (ha : a.length ≤ 1048576) (hb : b.length ≤ 9223372036854775807) : m_spec_l3Ints u a b = some (cmpL a b) := by
  unfold m_spec_l3Ints
  obtain ⟨o, h1, h2⟩ := while_ok (f := fun (i5 : Int) => cond ((decide (i5 < (a.length : Int))) && (decide (i5 < (b.length : Int)))) ((getI a i5).bind fun v_6 => (getI b i5).bind fun v_11 => cond (decide (v_6 < v_11)) (some (.ret (-1))) (cond (decide (v_11 < v_6)) (some (.ret 1)) (some (.next (w64 (i5 + 1)))))) (some (.brk i5)))
    (fun i => ∃ n : Nat, i = n ∧ n ≤ a.length ∧ n ≤ b.length ∧ cmpL a b = cmpL (a.drop n) (b.drop n)) (fun i => a.length - i.toNat) (fun i => ∃ n : Nat, i = n ∧ n ≤ a.length ∧ n ≤ b.length ∧ cmpL a b = cmpL (a.drop n) (b.drop n) ∧ (n = a.length ∨ n = b.length)) (fun (r : Int) => r = cmpL a b)
    (fun i ⟨n, hi, hn1, hn2, hI⟩ => by
      subst hi
      by_cases h : n < a.length ∧ n < b.length
      · rw [cond_T' (by simp; omega), getI_lt h.1, Option.bind_some, getI_lt h.2, Option.bind_some]
        rw [cmpL_drop h.1 h.2] at hI
        by_cases c1 : a[n] < b[n]
        · rw [cond_T' (by simpa using c1)]; exact ⟨_, rfl, by rw [if_pos c1] at hI; exact hI.symm⟩
        · rw [cond_F' (by simpa using c1)]
          rw [if_neg c1] at hI
          by_cases c2 : b[n] < a[n]
          · rw [cond_T' (by simpa using c2)]; exact ⟨_, rfl, by rw [if_pos c2] at hI; exact hI.symm⟩
          · rw [cond_F' (by simpa using c2), w64_id (by omega)]
            rw [if_neg c2] at hI
            exact ⟨_, rfl, ⟨n + 1, by omega, h.1, h.2, hI⟩, by have := h.1; omega⟩
      · rw [cond_F' (by simp; omega)]
        exact ⟨_, rfl, n, rfl, hn1, hn2, hI, by omega⟩)
    u 0 (by simpa using hu) ⟨0, rfl, by omega, by omega, rfl⟩
  rw [h1, Option.bind_some]
  cases o with
  | inr r => simp only [onS]; rw [h2]
  | inl i =>
    obtain ⟨n, rfl, hn1, hn2, hI, hn⟩ := h2
    simp only [onS]
    rw [hI]
    by_cases c1 : a.length < b.length
    · have e : n = a.length := by omega
      rw [cond_T' (by simpa using c1), e, List.drop_eq_nil_of_le (Nat.le_refl _), cmpL_nil_l, if_neg (by simp; omega)]
    · rw [cond_F' (by simpa using c1)]
      by_cases c2 : b.length < a.length
      · have e : n = b.length := by omega
        rw [cond_T' (by simpa using c2), e, List.drop_eq_nil_of_le (Nat.le_refl b.length), cmpL_nil_r, if_neg (by simp; omega)]
      · have e : n = a.length := by omega
        rw [cond_F' (by simpa using c2), e, List.drop_eq_nil_of_le (Nat.le_refl _), cmpL_nil_l, if_pos (by simp; omega)]
/-! ### valid relations, facts and databases -/
theorem validRelation_tot (r : Relation) : ∃ b, m_impl_IsValidRelation r = some b := by
  unfold m_impl_IsValidRelation m_impl_within
  by_cases h : r.name.size = 1
  · have hb : ∃ z, getB r.name 0 = some z := by
      have h0 : 0 < r.name.size := by omega
      exact ⟨((r.name[0]'h0).toNat : Int), by unfold getB; rw [if_pos (by omega)]; simp [h0]⟩
    obtain ⟨z, hz⟩ := hb
    rw [cond_T' (by simp [h])]
    simp only [hz, Option.bind_some]
    cases decide (97 ≤ z) <;> cases decide (z ≤ 122) <;> simp only [cond_true, cond_false, Option.bind_some] <;> first | exact ⟨_, rfl⟩ | skip
    cases (decide (1 ≤ r.arity) && decide (r.arity ≤ 3)) <;> exact ⟨_, rfl⟩
  · rw [cond_F' (by simp; omega)]; exact ⟨_, rfl⟩
theorem validRelations_tot (l : List Relation) : ∃ b, m_impl_AreValidRelations l = some b := by
  unfold m_impl_AreValidRelations
  obtain ⟨o, h1, h2⟩ := forL_ok (xs := l) (s := ()) (f := fun (t_1 : Int) (x_t_1 : Relation) (_ : Unit) => ((m_impl_IsValidRelation x_t_1).bind fun r_5 => cond (!r_5) (some true) (cond (decide (0 < (t_1 : Int))) ((getI l ((t_1 : Int) - 1)).bind fun v_9 => some (!ltS v_9.name x_t_1.name)) (some false))).bind fun (t29 : Bool) => cond t29 (some (.ret false)) (some (.next ())))
    (fun _ _ => True) (fun _ => False) (fun (_ : Bool) => True) trivial fun n x s hx _ => by
      obtain ⟨b, hb⟩ := validRelation_tot x
      have hn : n < l.length := (List.getElem?_eq_some_iff.1 hx).1
      rw [hb, Option.bind_some]
      have key : ∃ t, cond (!b) (some true) (cond (decide (0 < (n : Int))) ((getI l ((n : Int) - 1)).bind fun v_9 => some (!ltS v_9.name x.name)) (some false)) = some t := by
        cases b with
        | false => exact ⟨_, rfl⟩
        | true =>
          by_cases h0 : 0 < n
          · have e : (n : Int) - 1 = ((n - 1 : Nat) : Int) := by omega
            rw [cond_nt, cond_T' (by simpa using h0), e, getI_lt (show n - 1 < l.length by omega)]; exact ⟨_, rfl⟩
          · rw [cond_nt, cond_F' (by simpa using h0)]; exact ⟨_, rfl⟩
      obtain ⟨t, ht⟩ := key
      rw [ht, Option.bind_some]
      cases t <;> exact ⟨_, rfl, trivial⟩
  rw [h1, Option.bind_some]
  cases o <;> exact ⟨_, rfl⟩
theorem spec_validRelations (l : List Relation) : m_spec_AreValidRelations l = m_impl_AreValidRelations l := rfl
/-- A fact over these relations. -/
def FactOK (l : List Relation) (f : Fact) : Prop := ∃ (n : Nat) (r : Relation), f.relation = n ∧ l[n]? = some r ∧ (f.values.length : Int) = r.arity ∧ ∀ v ∈ f.values, 0 ≤ v ∧ v ≤ 9
theorem areValues_eq (l : List Int) : ∃ b, m_impl_areValues l = some b ∧ (b = true ↔ ∀ v ∈ l, 0 ≤ v ∧ v ≤ 9) := by
  unfold m_impl_areValues m_slices_ContainsFunc_Sint_int m_slices_IndexFunc_Sint_int
  obtain ⟨o, h1, h2⟩ := forL_ok (xs := l) (s := ()) (f := fun (t_1 : Int) (x_t_1 : Int) (_ : Unit) => (m_impl_areValues_1 x_t_1).bind fun r_3 => cond r_3 (some (.ret (t_1 : Int))) (some (.next ())))
    (fun n _ => ∀ (j : Nat) x, j < n → l[j]? = some x → 0 ≤ x ∧ x ≤ 9) (fun _ => False) (fun r => 0 ≤ r ∧ ∃ x ∈ l, ¬ (0 ≤ x ∧ x ≤ 9)) (fun j x hj => by omega) fun n x s hx hI => by
      simp only [m_impl_areValues_1, m_impl_within, Option.bind_some]
      by_cases hp : 0 ≤ x ∧ x ≤ 9
      · rw [cond_F' (by simp [hp])]
        refine ⟨_, rfl, fun j y hj hy => ?_⟩
        by_cases e : j = n
        · subst e; rw [hx] at hy; cases hy; exact hp
        · exact hI j y (by omega) hy
      · rw [cond_T' (by simp; omega)]
        exact ⟨_, rfl, by omega, x, List.mem_of_getElem? hx, hp⟩
  rw [h1]
  cases o with
  | inl s =>
    refine ⟨_, rfl, ?_⟩
    have := h2.resolve_right id
    refine ⟨fun _ v hv => ?_, fun _ => by simp⟩
    obtain ⟨j, hj⟩ := List.getElem?_of_mem hv
    exact this j v (List.getElem?_eq_some_iff.1 hj).1 hj
  | inr r =>
    refine ⟨_, rfl, ?_⟩
    obtain ⟨h3, x, hx, hp⟩ := h2
    refine ⟨fun h => by simp at h; omega, fun h => (hp (h x hx)).elim⟩
theorem isFact_eq (l : List Relation) (f : Fact) : ∃ b, m_impl_isFact l f = some b ∧ (b = true ↔ FactOK l f) := by
  unfold m_impl_isFact m_impl_within
  simp only [Option.bind_some]
  by_cases h : 0 ≤ f.relation ∧ f.relation ≤ (l.length : Int) - 1
  · rw [cond_T' (by simp [h])]
    obtain ⟨n, hn⟩ : ∃ n : Nat, f.relation = n := ⟨f.relation.toNat, by omega⟩
    have hnl : n < l.length := by omega
    rw [hn, getI_lt hnl, Option.bind_some]
    by_cases ha : (f.values.length : Int) = l[n].arity
    · rw [cond_T' (by simpa using ha)]
      obtain ⟨b, h1, h2⟩ := areValues_eq f.values
      rw [h1]
      refine ⟨b, rfl, h2.trans ⟨fun hv => ⟨n, l[n], hn, List.getElem?_eq_getElem hnl, ha, hv⟩, fun ⟨_, _, _, _, _, hv⟩ => hv⟩⟩
    · rw [cond_F' (by simpa using ha)]
      refine ⟨false, rfl, by simp, fun ⟨n', r, h3, h4, h5, _⟩ => ?_⟩
      have : n' = n := by omega
      subst this
      rw [List.getElem?_eq_getElem hnl] at h4; cases h4
      exact (ha h5).elim
  · rw [cond_F' (by simp; omega)]
    refine ⟨false, rfl, by simp, fun ⟨n', r, h3, h4, _⟩ => ?_⟩
    have := (List.getElem?_eq_some_iff.1 h4).1
    omega
theorem spec_isFact_eq (u : Nat) (l : List Relation) (f : Fact) (hu : f.values.length < u) (hf : f.values.length ≤ 1048576) : ∃ b, m_spec_IsValidFact u l f = some b ∧ (b = true ↔ m_impl_AreValidRelations l = some true ∧ FactOK l f) := by
  unfold m_spec_IsValidFact m_spec_l1In
  rw [spec_validRelations]
  obtain ⟨bl, hbl⟩ := validRelations_tot l
  rw [hbl, Option.bind_some]
  cases bl with
  | false => exact ⟨false, rfl, by simp⟩
  | true =>
    rw [cond_nt]
    simp only [Option.bind_some]
    by_cases h : 0 ≤ f.relation ∧ f.relation ≤ (l.length : Int) - 1
    · rw [cond_F' (by simp [h])]
      obtain ⟨n, hn⟩ : ∃ n : Nat, f.relation = n := ⟨f.relation.toNat, by omega⟩
      have hnl : n < l.length := by omega
      rw [hn, getI_lt hnl, Option.bind_some, Option.bind_some]
      by_cases ha : (f.values.length : Int) = l[n].arity
      · rw [cond_F' (by simpa using ha)]
        obtain ⟨o, h1, h2⟩ := while_ok (f := fun (i5 : Int) => cond (decide (i5 < (f.values.length : Int))) ((getI f.values i5).bind fun v_18 => (some ((decide (0 ≤ v_18)) && (decide (v_18 ≤ 9)))).bind fun r_23 => cond (!r_23) (some (.ret false)) (some (.next (w64 (i5 + 1))))) (some (.brk i5)))
          (fun i => ∃ n : Nat, i = n ∧ n ≤ f.values.length ∧ ∀ (j : Nat) x, j < n → f.values[j]? = some x → 0 ≤ x ∧ x ≤ 9) (fun i => f.values.length - i.toNat) (fun i => ∀ v ∈ f.values, 0 ≤ v ∧ v ≤ 9) (fun (r : Bool) => r = false ∧ ¬ ∀ v ∈ f.values, 0 ≤ v ∧ v ≤ 9)
          (fun i ⟨n, hi, hn1, hI⟩ => by
            subst hi
            by_cases h : n < f.values.length
            · rw [cond_T' (by simpa using h), getI_lt h, Option.bind_some, Option.bind_some]
              by_cases hp : 0 ≤ f.values[n] ∧ f.values[n] ≤ 9
              · rw [cond_F' (by simp [hp]), w64_id (by omega)]
                refine ⟨_, rfl, ⟨n + 1, by omega, h, fun j x hj hx => ?_⟩, by omega⟩
                by_cases e : j = n
                · subst e; rw [List.getElem?_eq_getElem h] at hx; cases hx; exact hp
                · exact hI j x (by omega) hx
              · rw [cond_T' (by simp; omega)]
                exact ⟨_, rfl, rfl, fun hv => hp (hv _ (List.getElem_mem h))⟩
            · rw [cond_F' (by simpa using h)]
              refine ⟨_, rfl, fun v hv => ?_⟩
              obtain ⟨j, hj⟩ := List.getElem?_of_mem hv
              have := (List.getElem?_eq_some_iff.1 hj).1
              exact hI j v (by omega) hj)
          u 0 (by simpa using hu) ⟨0, rfl, by omega, fun j x hj => by omega⟩
        simp only [Option.bind_some] at h1
        rw [h1, Option.bind_some]
        cases o with
        | inl i => exact ⟨true, rfl, by simp; exact ⟨n, l[n], hn, List.getElem?_eq_getElem hnl, ha, h2⟩⟩
        | inr r =>
          obtain ⟨rfl, h3⟩ := h2
          exact ⟨false, rfl, by simp; rintro ⟨_, _, _, _, _, hv⟩; exact h3 hv⟩
      · rw [cond_T' (by simpa using ha)]
        refine ⟨false, rfl, by simp, fun ⟨_, n', r, h3, h4, h5, _⟩ => ?_⟩
        have : n' = n := by omega
        subst this
        rw [List.getElem?_eq_getElem hnl] at h4; cases h4
        exact (ha h5).elim
    · rw [cond_T' (by simp; omega)]
      refine ⟨false, rfl, by simp, fun ⟨_, n', r, h3, h4, _⟩ => ?_⟩
      have := (List.getElem?_eq_some_iff.1 h4).1
      omega
/-- Facts, compared. -/
def cmpF (a b : Fact) : Int := if a.relation < b.relation then -1 else if b.relation < a.relation then 1 else cmpL a.values b.values
theorem impl_CompareFacts_eq (a b : Fact) : m_impl_CompareFacts a b = some (cmpF a b) := by
  unfold m_impl_CompareFacts m_impl_compare cmpF
  rw [slices_Compare_eq]
  by_cases h1 : a.relation < b.relation
  · rw [cond_T' (by simp; omega), cond_T' (by simpa using h1), if_pos h1]; rfl
  · by_cases h2 : b.relation < a.relation
    · rw [cond_T' (by simp; omega), cond_F' (by simpa using h1), cond_T' (by simpa using h2), if_neg h1, if_pos h2]; rfl
    · rw [cond_F' (by simp; omega), if_neg h1, if_neg h2]; rfl
theorem spec_CompareFacts_eq (u : Nat) (a b : Fact) (hu : a.values.length < u) (ha : a.values.length ≤ 1048576) (hb : b.values.length ≤ 1048576) : m_spec_CompareFacts u a b = some (cmpF a b) := by
  unfold m_spec_CompareFacts cmpF
  rw [l3Ints_cmp _ _ u hu ha (by omega)]
  by_cases h1 : a.relation < b.relation
  · rw [cond_T' (by simpa using h1), if_pos h1]
  · by_cases h2 : b.relation < a.relation
    · rw [cond_F' (by simpa using h1), cond_T' (by simpa using h2), if_neg h1, if_pos h2]
    · rw [cond_F' (by simpa using h1), cond_F' (by simpa using h2), if_neg h1, if_neg h2]; rfl
/-- A valid database. -/
structure DbOK (d : Database) : Prop where
  rels : m_impl_AreValidRelations d.relations = some true
  few : d.facts.length ≤ 14
  fact : ∀ (n : Nat) f, d.facts[n]? = some f → FactOK d.relations f
  sorted : ∀ (n : Nat) f g, d.facts[n]? = some f → d.facts[n + 1]? = some g → cmpF f g < 0
theorem round_eq (d : Database) {n : Nat} (hn : n < d.facts.length) (b : Bool) (p : Prop) (hb : b = true ↔ p) : ∃ t, cond (!b) (some true) (cond (decide (0 < (n : Int))) ((getI d.facts ((n : Int) - 1)).bind fun v_15 => some (decide (0 ≤ cmpF v_15 d.facts[n]))) (some false)) = some t ∧ (t = false ↔ p ∧ ∀ m f, m + 1 = n → d.facts[m]? = some f → cmpF f d.facts[n] < 0) := by
  cases b with
  | false => exact ⟨true, rfl, by simp at hb; simp [hb]⟩
  | true =>
    have hp : p := hb.1 rfl
    by_cases h0 : 0 < n
    · have e : (n : Int) - 1 = ((n - 1 : Nat) : Int) := by omega
      rw [cond_nt, cond_T' (by simpa using h0), e, getI_lt (show n - 1 < d.facts.length by omega)]
      refine ⟨_, rfl, ?_⟩
      simp only [decide_eq_false_iff_not, hp, true_and]
      constructor
      · intro h m f hm hf
        have : m = n - 1 := by omega
        subst this
        rw [List.getElem?_eq_getElem (by omega)] at hf; cases hf; omega
      · intro h
        have := h (n - 1) d.facts[n - 1] (by omega) (List.getElem?_eq_getElem (by omega)); omega
    · rw [cond_nt, cond_F' (by simpa using h0)]
      exact ⟨_, rfl, by simp [hp]; intro m f hm; omega⟩
theorem impl_IsValidDatabase_eq (d : Database) : ∃ b, m_impl_IsValidDatabase d = some b ∧ (b = true ↔ DbOK d) := by
  unfold m_impl_IsValidDatabase
  obtain ⟨bl, hbl⟩ := validRelations_tot d.relations
  rw [hbl, Option.bind_some]
  cases bl with
  | false => exact ⟨false, rfl, by simp; intro h; have := h.rels; rw [hbl] at this; cases this⟩
  | true =>
    rw [cond_nt, Option.bind_some]
    by_cases hf : d.facts.length ≤ 14
    · rw [cond_F' (by simp; omega)]
      obtain ⟨o, h1, h2⟩ := forL_ok (xs := d.facts) (s := ()) (f := fun (t_7 : Int) (x_t_7 : Fact) (_ : Unit) => ((m_impl_isFact d.relations x_t_7).bind fun r_11 => cond (!r_11) (some true) (cond (decide (0 < (t_7 : Int))) ((getI d.facts ((t_7 : Int) - 1)).bind fun v_15 => (m_impl_CompareFacts v_15 x_t_7).bind fun r_20 => some (decide (0 ≤ r_20))) (some false))).bind fun (t42 : Bool) => cond t42 (some (.ret false)) (some (.next ())))
        (fun n _ => ∀ (j : Nat) (h : j < d.facts.length), j < n → FactOK d.relations d.facts[j] ∧ ∀ m f, m + 1 = j → d.facts[m]? = some f → cmpF f d.facts[j] < 0) (fun _ => False) (fun r => r = false ∧ ¬ DbOK d) (fun j _ hj => by omega) fun n x s hx hI => by
          have hn : n < d.facts.length := (List.getElem?_eq_some_iff.1 hx).1
          rw [List.getElem?_eq_getElem hn] at hx; cases hx
          obtain ⟨b, h3, h4⟩ := isFact_eq d.relations d.facts[n]
          rw [h3, Option.bind_some]
          simp only [impl_CompareFacts_eq, Option.bind_some]
          obtain ⟨t, h5, h6⟩ := round_eq d hn b _ h4
          rw [h5, Option.bind_some]
          cases t with
          | false =>
            refine ⟨_, rfl, fun j hj hjn => ?_⟩
            by_cases e : j = n
            · subst e; exact h6.1 rfl
            · exact hI j hj (by omega)
          | true =>
            refine ⟨_, rfl, rfl, fun hok => ?_⟩
            have := h6.2 ⟨hok.fact n _ (List.getElem?_eq_getElem hn), fun m f hm hf => hok.sorted m f _ hf (by rw [hm]; exact List.getElem?_eq_getElem hn)⟩
            cases this
      rw [h1, Option.bind_some]
      cases o with
      | inl s =>
        have h3 := h2.resolve_right id
        refine ⟨true, rfl, fun _ => ⟨hbl, hf, fun n f hn => ?_, fun n f g hn hg => ?_⟩, fun _ => rfl⟩
        · obtain ⟨hl, rfl⟩ := List.getElem?_eq_some_iff.1 hn; exact (h3 n hl hl).1
        · obtain ⟨hl, rfl⟩ := List.getElem?_eq_some_iff.1 hg; exact (h3 (n + 1) hl hl).2 n f rfl hn
      | inr r => obtain ⟨rfl, h3⟩ := h2; exact ⟨false, rfl, by simp [h3]⟩
    · rw [cond_T' (by simp; omega)]
      exact ⟨false, rfl, by simp; intro h; exact hf h.few⟩
theorem spec_IsValidDatabase_eq (u : Nat) (d : Database) (hd : DbS d) (hu : 1048577 < u) : ∃ b, m_spec_IsValidDatabase u d = some b ∧ (b = true ↔ DbOK d) := by
  unfold m_spec_IsValidDatabase
  have hfl := hd.2.1
  obtain ⟨o, h1, h2⟩ := while_ok (f := fun (i3 : Int) => cond (decide (i3 < (d.facts.length : Int))) (((getI d.facts i3).bind fun v_5 => (m_spec_IsValidFact u d.relations v_5).bind fun r_10 => cond (!r_10) (some true) (cond (decide (0 < i3)) ((getI d.facts (w64 (i3 - 1))).bind fun v_14 => (m_spec_CompareFacts u v_14 v_5).bind fun r_19 => some (decide (0 ≤ r_19))) (some false))).bind fun (t38 : Bool) => cond t38 (some (.ret false)) (some (.next (w64 (i3 + 1))))) (some (.brk i3)))
    (fun i => ∃ n : Nat, i = n ∧ n ≤ d.facts.length ∧ ∀ (j : Nat) (h : j < d.facts.length), j < n → FactOK d.relations d.facts[j] ∧ ∀ m f, m + 1 = j → d.facts[m]? = some f → cmpF f d.facts[j] < 0) (fun i => d.facts.length - i.toNat)
    (fun i => ∀ (j : Nat) (h : j < d.facts.length), FactOK d.relations d.facts[j] ∧ ∀ m f, m + 1 = j → d.facts[m]? = some f → cmpF f d.facts[j] < 0) (fun (r : Bool) => r = false ∧ ¬ DbOK d)
    (fun i ⟨n, hi, hn1, hI⟩ => by
      subst hi
      by_cases h : n < d.facts.length
      · have hv := hd.2.2.2 _ (List.getElem_mem h)
        rw [cond_T' (by simpa using h), getI_lt h, Option.bind_some]
        obtain ⟨b, h3, h4⟩ := spec_isFact_eq u d.relations d.facts[n] (by omega) hv
        rw [h3, Option.bind_some, w64_id (x := (n : Int) - 1) (by omega)]
        have e : ((getI d.facts ((n : Int) - 1)).bind fun v_14 => (m_spec_CompareFacts u v_14 d.facts[n]).bind fun r_19 => some (decide (0 ≤ r_19))) = (getI d.facts ((n : Int) - 1)).bind fun v_15 => some (decide (0 ≤ cmpF v_15 d.facts[n])) := by
          cases hg : getI d.facts ((n : Int) - 1) with
          | none => rfl
          | some f =>
            obtain ⟨m, _, hm⟩ := getI_inv hg
            have hv2 := hd.2.2.2 f (List.mem_of_getElem? hm)
            rw [Option.bind_some, Option.bind_some, spec_CompareFacts_eq u f _ (by omega) hv2 hv]; rfl
        rw [e]
        obtain ⟨t, h5, h6⟩ := round_eq d h b _ h4
        rw [h5, Option.bind_some]
        cases t with
        | false =>
          rw [cond_F' rfl, w64_id (by omega)]
          refine ⟨_, rfl, ⟨n + 1, by omega, h, fun j hj hjn => ?_⟩, by omega⟩
          by_cases e : j = n
          · subst e; have := h6.1 rfl; exact ⟨this.1.2, this.2⟩
          · exact hI j hj (by omega)
        | true =>
          refine ⟨_, rfl, rfl, fun hok => ?_⟩
          have := h6.2 ⟨⟨hok.rels, hok.fact n _ (List.getElem?_eq_getElem h)⟩, fun m f hm hf => hok.sorted m f _ hf (by rw [hm]; exact List.getElem?_eq_getElem h)⟩
          cases this
      · rw [cond_F' (by simpa using h)]
        exact ⟨_, rfl, fun j hj => hI j hj (by omega)⟩)
    u 0 (by simp; omega) ⟨0, rfl, by omega, fun j _ hj => by omega⟩
  rw [h1, Option.bind_some]
  cases o with
  | inr r => obtain ⟨rfl, h3⟩ := h2; exact ⟨false, rfl, by simp [h3]⟩
  | inl i =>
    simp only [onS, spec_validRelations]
    obtain ⟨bl, hbl⟩ := validRelations_tot d.relations
    rw [hbl, Option.bind_some]
    cases bl with
    | false => exact ⟨false, rfl, by simp; intro h; have := h.rels; rw [hbl] at this; cases this⟩
    | true =>
      refine ⟨_, rfl, ?_⟩
      simp only [decide_eq_true_eq]
      refine ⟨fun hf => ⟨hbl, by omega, fun n f hn => ?_, fun n f g hn hg => ?_⟩, fun h => by have := h.few; omega⟩
      · obtain ⟨hl, rfl⟩ := List.getElem?_eq_some_iff.1 hn; exact (h2 n hl).1
      · obtain ⟨hl, rfl⟩ := List.getElem?_eq_some_iff.1 hg; exact (h2 (n + 1) hl).2 n f rfl hn
end Go.Proofs.Ytjdpolnakhmkmaa
/- Keys of facts, for both sides. -/
set_option linter.unusedVariables false
set_option linter.unusedSimpArgs false
namespace Go.Proofs.Ytjdpolnakhmkmaa
open Go Go.Proofs Go.Sep
/-- What a valid relation's numbers are. -/
def RelOK (r : Relation) : Prop := 0 ≤ r.keyLength ∧ r.keyLength ≤ r.arity ∧ 1 ≤ r.arity ∧ r.arity ≤ 3
theorem validRelation_ok {r : Relation} (h : m_impl_IsValidRelation r = some true) : RelOK r := by
  unfold m_impl_IsValidRelation m_impl_within at h
  obtain ⟨t, h1, h2⟩ := bind_inv h
  have h2 : t = true := by simpa using h2
  subst h2
  by_cases hs : (r.name.size : Int) = 1
  · rw [cond_T' (by simpa using hs)] at h1
    obtain ⟨b1, _, h3⟩ := bind_inv h1
    cases hd : decide (97 ≤ b1) with
    | false => rw [hd] at h3; simp at h3
    | true =>
      rw [hd, cond_T' rfl] at h3
      obtain ⟨b2, _, h4⟩ := bind_inv h3
      cases hd2 : decide (b2 ≤ 122) with
      | false => rw [hd2] at h4; simp at h4
      | true =>
        rw [hd2, cond_T' rfl] at h4
        simp only [Option.bind_some] at h4
        by_cases ha : 1 ≤ r.arity ∧ r.arity ≤ 3
        · rw [cond_T' (by simp [ha])] at h4
          simp only [Option.some.injEq, Bool.and_eq_true, decide_eq_true_eq] at h4
          exact ⟨h4.1, h4.2, ha.1, ha.2⟩
        · rw [cond_F' (by simp; omega)] at h4; simp at h4
  · rw [cond_F' (by simpa using hs)] at h1; simp at h1
theorem validRelations_ok {l : List Relation} (h : m_impl_AreValidRelations l = some true) : ∀ r ∈ l, RelOK r := by
  unfold m_impl_AreValidRelations at h
  obtain ⟨o, h1, h2⟩ := forL_ok (xs := l) (s := ()) (f := fun (t_1 : Int) (x_t_1 : Relation) (_ : Unit) => ((m_impl_IsValidRelation x_t_1).bind fun r_5 => cond (!r_5) (some true) (cond (decide (0 < (t_1 : Int))) ((getI l ((t_1 : Int) - 1)).bind fun v_9 => some (!ltS v_9.name x_t_1.name)) (some false))).bind fun (t29 : Bool) => cond t29 (some (.ret false)) (some (.next ())))
    (fun n _ => ∀ (j : Nat) r, j < n → l[j]? = some r → RelOK r) (fun _ => False) (fun (r : Bool) => r = false) (fun j r hj => by omega) fun n x s hx hI => by
      obtain ⟨b, hb⟩ := validRelation_tot x
      have hn : n < l.length := (List.getElem?_eq_some_iff.1 hx).1
      rw [hb, Option.bind_some]
      cases b with
      | false => exact ⟨_, rfl, rfl⟩
      | true =>
        have key : ∃ t, (cond (decide (0 < (n : Int))) ((getI l ((n : Int) - 1)).bind fun v_9 => some (!ltS v_9.name x.name)) (some false)) = some t := by
          by_cases h0 : 0 < n
          · have e : (n : Int) - 1 = ((n - 1 : Nat) : Int) := by omega
            rw [cond_T' (by simpa using h0), e, getI_lt (show n - 1 < l.length by omega)]; exact ⟨_, rfl⟩
          · rw [cond_F' (by simpa using h0)]; exact ⟨_, rfl⟩
        obtain ⟨t, ht⟩ := key
        rw [cond_nt, ht, Option.bind_some]
        cases t with
        | true => exact ⟨_, rfl, rfl⟩
        | false =>
          refine ⟨_, rfl, fun j r hj hr => ?_⟩
          by_cases e : j = n
          · subst e; rw [hx] at hr; cases hr; exact validRelation_ok hb
          · exact hI j r (by omega) hr
  rw [h1, Option.bind_some] at h
  cases o with
  | inl s =>
    intro r hr
    obtain ⟨j, hj⟩ := List.getElem?_of_mem hr
    exact (h2.resolve_right id) j r (List.getElem?_eq_some_iff.1 hj).1 hj
  | inr r =>
    simp only [SumP] at h2
    subst h2; simp [onS] at h
/-- The key of a fact: its relation and the first values. -/
def keyLen (l : List Relation) (f : Fact) : Nat := match l[f.relation.toNat]? with
  | some r => r.keyLength.toNat
  | none => 0
def keyF (l : List Relation) (f : Fact) : Int × List Int := (f.relation, f.values.take (keyLen l f))
theorem cut_key {xs : List Int} {k : Int} (h0 : 0 ≤ k) (h1 : k ≤ (xs.length : Int)) : cutI xs 0 k = some (xs.take k.toNat) := by
  unfold cutI
  rw [if_pos (by omega)]; simp
theorem keyLen_eq {l : List Relation} {f : Fact} {n : Nat} {r : Relation} (h1 : f.relation = n) (h2 : l[n]? = some r) : keyLen l f = r.keyLength.toNat := by
  simp only [keyLen, h1, Int.toNat_natCast, h2]
theorem impl_sameKey_eq {l : List Relation} (hl : m_impl_AreValidRelations l = some true) {a b : Fact} (ha : FactOK l a) (hb : FactOK l b) : m_impl_sameKey l a b = some (decide (keyF l a = keyF l b)) := by
  unfold m_impl_sameKey
  by_cases hr : a.relation = b.relation
  · obtain ⟨n, r, h1, h2, h3, h4⟩ := ha
    obtain ⟨n', r', g1, g2, g3, g4⟩ := hb
    have : n' = n := by omega
    subst this
    rw [h2] at g2; cases g2
    have hok := validRelations_ok hl r (List.mem_of_getElem? h2)
    rw [cond_F' (by simp [hr]), h1, getI_nat, h2, Option.bind_some, cut_key hok.1 (by have := hok.2.1; omega), Option.bind_some, cut_key hok.1 (by have := hok.2.1; omega), Option.bind_some]
    have he : m_slices_Equal_Sint_int (a.values.take r.keyLength.toNat) (b.values.take r.keyLength.toNat) = some (decide (a.values.take r.keyLength.toNat = b.values.take r.keyLength.toNat)) := by
      unfold m_slices_Equal_Sint_int
      generalize a.values.take r.keyLength.toNat = x
      generalize b.values.take r.keyLength.toNat = y
      by_cases hl : x.length = y.length
      · rw [cond_F' (by simp [hl])]
        obtain ⟨o, h1, h2⟩ := forL_all (f := fun (i_2 : Int) (x_i_2 : Int) (_ : Unit) => (getI y (i_2 : Int)).bind fun v_4 => cond (decide (x_i_2 ≠ v_4)) (some (.ret false)) (some (.next ()))) (xs := x) (r := false) (fun n z => decide (y[n]? = some z)) (fun n z hx => by
          have hn : n < y.length := by have := (List.getElem?_eq_some_iff.1 hx).1; omega
          rw [getI_lt hn, Option.bind_some, List.getElem?_eq_getElem hn]
          by_cases e : z = y[n]
          · simp [e]
          · simp [e, Ne.symm e])
        rw [h1, Option.bind_some]
        rcases h2 with ⟨rfl, h⟩ | ⟨rfl, n, z, hx, hp⟩
        · simp only [onS, Option.some.injEq]
          symm; simp only [decide_eq_true_eq]
          apply List.ext_getElem?
          intro n
          cases hx : x[n]? with
          | none => rw [List.getElem?_eq_none_iff] at hx; rw [List.getElem?_eq_none (by omega)]
          | some z => have := h n z hx; simp at this; exact this.symm
        · simp only [onS, Option.some.injEq]
          symm; simp only [decide_eq_false_iff_not]
          rintro rfl
          simp [hx] at hp
      · rw [cond_T' (by simp; omega)]
        have : x ≠ y := fun e => hl (by rw [e])
        simp [this]
    rw [he, Option.bind_some]
    simp only [keyF, keyLen_eq h1 h2, keyLen_eq g1 h2, hr, Prod.mk.injEq, true_and]
  · rw [cond_T' (by simp [hr])]
    have : keyF l a ≠ keyF l b := fun e => hr (congrArg Prod.fst e)
    simp [this]
end Go.Proofs.Ytjdpolnakhmkmaa
/- Keys of facts on the spec's side, and facts that stand in order. -/
set_option linter.unusedVariables false
set_option linter.unusedSimpArgs false
namespace Go.Proofs.Ytjdpolnakhmkmaa
open Go Go.Proofs Go.Sep
theorem cmpL_zero : ∀ (a b : List Int), cmpL a b = 0 ↔ a = b
  | [], [] => by simp [cmpL]
  | [], y :: b => by simp [cmpL]
  | x :: a, [] => by simp [cmpL]
  | x :: a, y :: b => by
    simp only [cmpL, List.cons.injEq]
    by_cases h1 : x < y
    · rw [if_pos h1]; constructor
      · intro h; omega
      · intro h; omega
    · by_cases h2 : y < x
      · rw [if_neg h1, if_pos h2]; constructor
        · intro h; omega
        · intro h; omega
      · rw [if_neg h1, if_neg h2, cmpL_zero a b]
        constructor
        · intro h; exact ⟨by omega, h⟩
        · intro h; exact h.2
/-- What stands between two lists with the same beginning begins so, too. -/
theorem cmpL_between : ∀ (m : Nat) (a b c : List Int), cmpL a b ≤ 0 → cmpL b c ≤ 0 → a.take m = c.take m → b.take m = a.take m
  | 0, a, b, c, _, _, _ => by simp
  | m + 1, [], [], c, _, _, _ => rfl
  | m + 1, [], y :: b, c, h1, h2, h => by
    cases c with
    | nil => simp [cmpL] at h2
    | cons z c => simp at h
  | m + 1, x :: a, [], c, h1, h2, h => by simp [cmpL] at h1
  | m + 1, x :: a, y :: b, [], h1, h2, h => by simp at h
  | m + 1, x :: a, y :: b, z :: c, h1, h2, h => by
    simp only [List.take_succ_cons, List.cons.injEq] at h ⊢
    obtain ⟨rfl, h⟩ := h
    simp only [cmpL] at h1 h2
    by_cases c1 : y < x
    · rw [if_neg (by omega), if_pos c1] at h1; omega
    · by_cases c2 : x < y
      · rw [if_neg (by omega), if_pos c2] at h2; omega
      · have : y = x := by omega
        subst this
        rw [if_neg (by omega), if_neg (by omega)] at h1 h2
        exact ⟨rfl, cmpL_between m a b c h1 h2 h⟩
theorem cmpL_trans : ∀ (a b c : List Int), cmpL a b ≤ 0 → cmpL b c ≤ 0 → cmpL a c ≤ 0
  | [], b, c, h1, h2 => by rw [cmpL_nil_l]; split <;> omega
  | x :: a, [], c, h1, h2 => by simp [cmpL] at h1
  | x :: a, y :: b, [], h1, h2 => by simp [cmpL] at h2
  | x :: a, y :: b, z :: c, h1, h2 => by
    simp only [cmpL] at h1 h2 ⊢
    by_cases c1 : x < z
    · rw [if_pos c1]; omega
    · rw [if_neg c1]
      by_cases c2 : x < y
      · have : z < y := by omega
        rw [if_neg (by omega), if_pos this] at h2; omega
      · rw [if_neg c2] at h1
        by_cases c3 : y < x
        · rw [if_pos c3] at h1; omega
        · rw [if_neg c3] at h1
          have : y = x := by omega
          subst this
          rw [if_neg c1] at h2
          by_cases c4 : z < y
          · rw [if_pos c4] at h2; omega
          · rw [if_neg c4] at h2 ⊢
            exact cmpL_trans a b c h1 h2
theorem cmpF_trans {a b c : Fact} (h1 : cmpF a b ≤ 0) (h2 : cmpF b c ≤ 0) : cmpF a c ≤ 0 := by
  unfold cmpF at *
  by_cases c1 : a.relation < c.relation
  · rw [if_pos c1]; omega
  · rw [if_neg c1]
    by_cases c2 : a.relation < b.relation
    · rw [if_neg (by omega), if_pos (by omega)] at h2; omega
    · rw [if_neg c2] at h1
      by_cases c3 : b.relation < a.relation
      · rw [if_pos c3] at h1; omega
      · rw [if_neg c3] at h1
        rw [if_neg (by omega)] at h2
        by_cases c4 : c.relation < b.relation
        · rw [if_pos c4] at h2; omega
        · rw [if_neg c4] at h2
          rw [if_neg (by omega)]
          exact cmpL_trans _ _ _ h1 h2
theorem keyF_between {l : List Relation} {a b c : Fact} (h1 : cmpF a b ≤ 0) (h2 : cmpF b c ≤ 0) (h : keyF l a = keyF l c) : keyF l b = keyF l a := by
  have hr : a.relation = c.relation := congrArg Prod.fst h
  have hv : a.values.take (keyLen l a) = c.values.take (keyLen l c) := congrArg Prod.snd h
  unfold cmpF at h1 h2
  by_cases c2 : a.relation < b.relation
  · rw [if_neg (by omega), if_pos (by omega)] at h2; omega
  · rw [if_neg c2] at h1
    by_cases c3 : b.relation < a.relation
    · rw [if_pos c3] at h1; omega
    · rw [if_neg c3] at h1
      rw [if_neg (by omega), if_neg (by omega)] at h2
      have hb : b.relation = a.relation := by omega
      have e1 : keyLen l b = keyLen l a := by simp only [keyLen, hb]
      have e2 : keyLen l c = keyLen l a := by simp only [keyLen, hr]
      rw [e2] at hv
      simp only [keyF, hb, e1, Prod.mk.injEq, true_and]
      exact cmpL_between _ _ _ _ h1 h2 hv
/-- Facts of a valid database stand in order. -/
theorem sorted_le {d : Database} (hd : DbOK d) : ∀ (k i : Nat) f g, d.facts[i]? = some f → d.facts[i + k]? = some g → cmpF f g ≤ 0
  | 0, i, f, g, h1, h2 => by
    rw [Nat.add_zero, h1] at h2; cases h2
    have : cmpL f.values f.values = 0 := (cmpL_zero _ _).2 rfl
    simp [cmpF, this]
  | k + 1, i, f, g, h1, h2 => by
    have hl : i + k < d.facts.length := by have := (List.getElem?_eq_some_iff.1 h2).1; omega
    have h3 : d.facts[i + k]? = some d.facts[i + k] := List.getElem?_eq_getElem hl
    have := sorted_le hd k i f _ h1 h3
    exact cmpF_trans this (Int.le_of_lt (hd.sorted (i + k) _ _ h3 h2))
theorem spec_KeyOf_eq {u : Nat} {l : List Relation} (hl : m_impl_AreValidRelations l = some true) {f : Fact} (hf : FactOK l f) (hu : f.values.length < u) (hs : f.values.length ≤ 1048576) : m_spec_KeyOf u l f = some (f.values.take (keyLen l f)) := by
  unfold m_spec_KeyOf
  obtain ⟨b, h1, h2⟩ := spec_isFact_eq u l f hu hs
  have hb : b = true := h2.2 ⟨hl, hf⟩
  subst hb
  obtain ⟨n, r, g1, g2, g3, g4⟩ := hf
  have hok := validRelations_ok hl r (List.mem_of_getElem? g2)
  rw [h1, Option.bind_some, cond_nt, g1, getI_nat, g2, Option.bind_some, cut_key hok.1 (by have := hok.2.1; omega), Option.bind_some, app_ok (by simp; omega), keyLen_eq g1 g2]
  simp
theorem spec_HaveSameKey_eq {u : Nat} {l : List Relation} (hl : m_impl_AreValidRelations l = some true) {a b : Fact} (ha : FactOK l a) (hb : FactOK l b) (hu : a.values.length < u ∧ b.values.length < u) (hs : a.values.length ≤ 1048576 ∧ b.values.length ≤ 1048576) : m_spec_HaveSameKey u l a b = some (decide (keyF l a = keyF l b)) := by
  unfold m_spec_HaveSameKey
  obtain ⟨b1, h1, h2⟩ := spec_isFact_eq u l a hu.1 hs.1
  obtain ⟨b2, h3, h4⟩ := spec_isFact_eq u l b hu.2 hs.2
  have e1 : b1 = true := h2.2 ⟨hl, ha⟩
  have e2 : b2 = true := h4.2 ⟨hl, hb⟩
  subst e1 e2
  rw [h1, Option.bind_some, cond_T' rfl, h3, Option.bind_some, cond_T' rfl]
  by_cases hr : a.relation = b.relation
  · rw [cond_T' (by simp [hr]), spec_KeyOf_eq hl ha hu.1 hs.1, Option.bind_some, spec_KeyOf_eq hl hb hu.2 hs.2, Option.bind_some, l3Ints_cmp _ _ u (by simp; omega) (by simp; omega) (by simp; omega), Option.bind_some, Option.bind_some]
    simp only [cmpL_zero, keyF, hr, Prod.mk.injEq, true_and]
  · rw [cond_F' (by simp [hr]), Option.bind_some]
    have : keyF l a ≠ keyF l b := fun e => hr (congrArg Prod.fst e)
    simp [this]
end Go.Proofs.Ytjdpolnakhmkmaa
/- Views compared: both sides agree, and the law. -/
set_option linter.unusedVariables false
set_option linter.unusedSimpArgs false
namespace Go.Proofs.Ytjdpolnakhmkmaa
open Go Go.Proofs Go.Sep
/-! ### lists compared, element by element -/
theorem eqf_loop {α : Type} [DecidableEq α] {f : α → α → Option Bool} (a b : List α) (hf : ∀ x ∈ a, ∀ y ∈ b, f x y = some (decide (x = y))) :
    (cond (decide ((a.length : Int) ≠ (b.length : Int))) (some false) ((forL (R := Bool) (fun (t_2 : Int) (x_t_2 : α) (_ : Unit) => (getI b (t_2 : Int)).bind fun v_4 => (f x_t_2 v_4).bind fun r_9 => cond (!r_9) (some (.ret false)) (some (.next ()))) a 0 ()).bind fun O3_ => onS O3_ (fun (_ : Unit) => some true) (fun r => some r))) = some (decide (a = b)) := by
  refine Ok.to (.cond (fun h => .ret ?_) fun h => ?_)
  · have : a ≠ b := fun e => by subst e; simp at h
    simp [this]
  · have hl : a.length = b.length := by have := of_decide_eq_false h; omega
    refine .forL (fun n _ => ∀ j, j < n → a[j]? = b[j]?) (fun _ => False) (fun r => r = false ∧ a ≠ b) (fun j hj => by omega) (fun n x s hx hI => ?_) (fun s hs => .ret ?_) (fun r hr => .ret (by rw [hr.1]; simp [hr.2]))
    · have hn : n < a.length := (List.getElem?_eq_some_iff.1 hx).1
      have hb : n < b.length := by omega
      rw [List.getElem?_eq_getElem hn] at hx; cases hx
      refine .get rfl hb (.eq (hf _ (List.getElem_mem hn) _ (List.getElem_mem hb)) (.cond (fun hc => .out ⟨rfl, fun e => ?_⟩) fun hc => .next fun j hj => ?_))
      · subst e; simp at hc
      · have hc' : a[n] = b[n] := by simpa using hc
        by_cases e : j = n
        · subst e; rw [List.getElem?_eq_getElem hn, List.getElem?_eq_getElem hb, hc']
        · exact hI j (by omega)
    · have h := hs.resolve_right id
      have : a = b := List.ext_getElem? fun j => by
        rcases Nat.lt_or_ge j a.length with g | g
        · exact h j g
        · rw [List.getElem?_eq_none g, List.getElem?_eq_none (by omega)]
      simp [this]
theorem Equal_ints (a b : List Int) : m_slices_Equal_Sint_int a b = some (decide (a = b)) := by
  have := eqf_loop (f := fun x y => some (decide (x = y))) a b (fun _ _ _ _ => rfl)
  unfold m_slices_Equal_Sint_int
  rw [← this]
  congr 2
  congr 1
  funext t x s
  cases getI b t with
  | none => rfl
  | some y => by_cases h : x = y <;> simp [h]
theorem cmpSc_rel (a b : Relation) : cmpSc [.s a.name b.name, .i a.arity b.arity, .i a.keyLength b.keyLength] = decide (a = b) := by
  cases a; cases b
  simp [cmpSc, Sc2.eq, Bool.eq_iff_iff]
theorem cmpF_zero (a b : Fact) : cmpF a b = 0 ↔ a = b := by
  unfold cmpF
  cases a; cases b
  simp only [Fact.mk.injEq]
  constructor
  · intro h
    split at h
    · cases h
    · split at h
      · cases h
      · exact ⟨by omega, (cmpL_zero _ _).1 h⟩
  · rintro ⟨rfl, rfl⟩
    rw [if_neg (by omega), if_neg (by omega)]
    exact (cmpL_zero _ _).2 rfl
theorem impl_EqualDatabases_eq (a b : Database) : m_impl_EqualDatabases a b = some (decide (a = b)) := by
  have h1 : m_slices_Equal_Simpl_Relation_impl_Relation a.relations b.relations = some (decide (a.relations = b.relations)) := by
    have := eqf_loop (f := fun x y => some (cmpSc [.s x.name y.name, .i x.arity y.arity, .i x.keyLength y.keyLength])) a.relations b.relations (fun x _ y _ => by rw [cmpSc_rel])
    exact this
  have h2 : m_slices_EqualFunc_Simpl_Fact_Simpl_Fact_impl_Fact_impl_Fact a.facts b.facts (fun x0 x1 => m_impl_EqualDatabases_1 x0 x1) = some (decide (a.facts = b.facts)) := by
    refine eqf_loop a.facts b.facts fun x _ y _ => ?_
    unfold m_impl_EqualDatabases_1
    rw [impl_CompareFacts_eq, Option.bind_some]
    congr 1
    simp only [cmpF_zero]
  unfold m_impl_EqualDatabases
  rw [h1, Option.bind_some]
  cases a; cases b
  simp only [Database.mk.injEq] at h2 ⊢
  rename_i r f r' f'
  by_cases e : r = r'
  · simp [e, h2]
  · simp [e]
theorem spec_EqualDatabases_eq {u : Nat} {a b : Database} (ha : DbS a) (hb : DbS b) (hu : 1048577 < u) : m_spec_EqualDatabases u a b = some (decide (a = b)) := by
  unfold m_spec_EqualDatabases
  refine Ok.to (.cond (fun h => .ret ?_) fun h => ?_)
  · have : a ≠ b := fun e => by subst e; simp at h
    simp [this]
  · simp only [Bool.or_eq_false_iff, decide_eq_false_iff_not, ne_eq, Decidable.not_not] at h
    have hr : a.relations.length = b.relations.length := by omega
    have hf : a.facts.length = b.facts.length := by omega
    have h1 := ha.1
    have h2 := ha.2.1
    refine .while (fun (i : Int) => ∃ n : Nat, i = (n : Int) ∧ n ≤ a.relations.length ∧ ∀ j, j < n → a.relations[j]? = b.relations[j]?) (fun i => a.relations.length - i.toNat) (fun _ => a.relations = b.relations) (fun r => r = false ∧ a ≠ b) (by omega) ⟨0, rfl, by omega, by omega⟩ (fun i ⟨n, e1, e2, e3⟩ => ?_) (fun i hrel => ?_) (fun r hr => .ret (by rw [hr.1]; simp [hr.2]))
    · subst e1
      refine .cond (fun hc => ?_) fun hc => .brk ?_
      · have hn : n < a.relations.length := by simpa using hc
        refine .get rfl hn (.get rfl (by omega) ?_)
        rw [cmpSc_rel]
        refine .cond (fun hd => .out ⟨rfl, fun e => by subst e; simp at hd⟩) fun hd => .next ⟨⟨n + 1, by rw [w64_id (by omega)]; simp, hn, fun j hj => ?_⟩, by rw [w64_id (by omega)]; omega⟩
        have hd' : a.relations[n] = b.relations[n]'(by omega) := by simpa using hd
        by_cases e : j = n
        · subst e; rw [List.getElem?_eq_getElem hn, List.getElem?_eq_getElem (by omega), hd']
        · exact e3 j (by omega)
      · have : n = a.relations.length := by have := of_decide_eq_false hc; omega
        refine List.ext_getElem? fun j => ?_
        rcases Nat.lt_or_ge j a.relations.length with g | g
        · exact e3 j (by omega)
        · rw [List.getElem?_eq_none g, List.getElem?_eq_none (by omega)]
    · refine .while (fun (i : Int) => ∃ n : Nat, i = (n : Int) ∧ n ≤ a.facts.length ∧ ∀ j, j < n → a.facts[j]? = b.facts[j]?) (fun i => a.facts.length - i.toNat) (fun _ => a.facts = b.facts) (fun r => r = false ∧ a ≠ b) (by omega) ⟨0, rfl, by omega, by omega⟩ (fun i ⟨n, e1, e2, e3⟩ => ?_) (fun i hfa => .ret ?_) (fun r hr => .ret (by rw [hr.1]; simp [hr.2]))
      · subst e1
        refine .cond (fun hc => ?_) fun hc => .brk ?_
        · have hn : n < a.facts.length := by simpa using hc
          have hva := ha.2.2.2 _ (List.getElem_mem hn)
          have hnb : n < b.facts.length := by omega
          have hvb := hb.2.2.2 _ (List.getElem_mem hnb)
          refine .get rfl hn (.get rfl hnb (.eq (spec_CompareFacts_eq u _ _ (by omega) hva hvb) (.cond (fun hd => .out ⟨rfl, fun e => ?_⟩) fun hd => .next ⟨⟨n + 1, by rw [w64_id (by omega)]; simp, hn, fun j hj => ?_⟩, by rw [w64_id (by omega)]; omega⟩)))
          · subst e; exact (of_decide_eq_true hd) ((cmpF_zero _ _).2 rfl)
          · have hd' : a.facts[n] = b.facts[n] := (cmpF_zero _ _).1 (by simpa using hd)
            by_cases e : j = n
            · subst e; rw [List.getElem?_eq_getElem hn, List.getElem?_eq_getElem hnb, hd']
            · exact e3 j (by omega)
        · have : n = a.facts.length := by have := of_decide_eq_false hc; omega
          refine List.ext_getElem? fun j => ?_
          rcases Nat.lt_or_ge j a.facts.length with g | g
          · exact e3 j (by omega)
          · rw [List.getElem?_eq_none g, List.getElem?_eq_none (by omega)]
      · cases a; cases b; simp only at hrel hfa; subst hrel hfa; simp
end Go.Proofs.Ytjdpolnakhmkmaa
/- Queries and lists of rows: sizes, copies, comparisons. -/
set_option linter.unusedVariables false
set_option linter.unusedSimpArgs false
namespace Go.Proofs.Ytjdpolnakhmkmaa
open Go Go.Proofs Go.Sep
def QM (q : Query) : Prop := q.atoms.length ≤ 9223372036854775807 ∧ q.free.length ≤ 9223372036854775807 ∧ ∀ a ∈ q.atoms, a.terms.length ≤ 9223372036854775807
def QS (q : Query) : Prop := q.atoms.length ≤ 1048576 ∧ q.free.length ≤ 1048576 ∧ ∀ a ∈ q.atoms, a.terms.length ≤ 1048576
theorem szAtom_b (a : Atom) (hl : a.terms.length ≤ 9223372036854775807) (left : Int) (h0 : 0 ≤ left) (h1 : left ≤ 1048576) : ∃ r, m_laws_szAtom a left = some r ∧ (r = -1 ∨ (0 ≤ r ∧ r ≤ left ∧ a.terms.length ≤ 1048576)) := by
  unfold m_laws_szAtom
  obtain ⟨r, h2, h3⟩ := szIntS_b a.terms hl left h0 h1
  rw [h2, Option.bind_some]
  rcases h3 with rfl | h3
  · exact ⟨_, rfl, .inl rfl⟩
  · rw [cond_F' (by simp; omega)]; exact ⟨_, rfl, .inr h3⟩
theorem szQuery_b (q : Query) (hq : QM q) (left : Int) (h0 : 0 ≤ left) (h1 : left ≤ 1048576) : ∃ r, m_laws_szQuery q left = some r ∧ (r = -1 ∨ (0 ≤ r ∧ r ≤ left ∧ QS q)) := by
  obtain ⟨r1, h2, h3⟩ := sz_loop (fun a : Atom => a.terms.length ≤ 1048576) (a := q.atoms) (fun x hx l => szAtom_b x (hq.2.2 x hx) l) h0 h1 hq.1
  have h2' : m_laws_szAtomS q.atoms left = some r1 := h2
  unfold m_laws_szQuery
  rw [h2', Option.bind_some]
  rcases h3 with rfl | ⟨h3, h4, h5⟩
  · exact ⟨_, rfl, .inl rfl⟩
  · rw [cond_F' (by simp; omega)]
    obtain ⟨r2, h6, h7⟩ := szIntS_b q.free hq.2.1 r1 h3 (by omega)
    rw [h6, Option.bind_some]
    rcases h7 with rfl | ⟨h7, h8, h9⟩
    · exact ⟨_, rfl, .inl rfl⟩
    · rw [cond_F' (by simp; omega)]; exact ⟨_, rfl, .inr ⟨h7, by omega, by omega, h9, h5⟩⟩
theorem toQuery_id (q : Query) (hq : QS q) : m_laws_toQuery q = some q := by
  have h1 : m_laws_toAtomS q.atoms = some q.atoms := by
    have := to_loop (b := 32) (z := (default : Atom)) (g := m_laws_toAtom) (fun x => x) (a := q.atoms) (fun x hx => by unfold m_laws_toAtom; rw [toIntS_id _ (hq.2.2 x hx)]; rfl) hq.1 (by omega)
    rw [List.map_id'] at this; exact this
  unfold m_laws_toQuery
  rw [h1, Option.bind_some, toIntS_id _ hq.2.1, Option.bind_some]
theorem eqAtom_self (a : Atom) : m_laws_eqAtom a a = some true := by
  unfold m_laws_eqAtom
  rw [cond_F' (by simp), eqIntS_self]; rfl
theorem eqQuery_self (q : Query) : m_laws_eqQuery q q = some true := by
  have h1 : m_laws_eqAtomS q.atoms q.atoms = some true := eq_loop (fun x _ => eqAtom_self x)
  unfold m_laws_eqQuery
  rw [cond_F' (by simp), h1, Option.bind_some, cond_nt, eqIntS_self]; rfl
/-! ### lists of rows -/
def RowsM (l : List (List Int)) : Prop := l.length ≤ 9223372036854775807 ∧ ∀ r ∈ l, r.length ≤ 9223372036854775807
def RowsS (l : List (List Int)) : Prop := l.length ≤ 1048576 ∧ ∀ r ∈ l, r.length ≤ 1048576
theorem szIntSS_b (a : List (List Int)) (ha : RowsM a) (left : Int) (h0 : 0 ≤ left) (h1 : left ≤ 1048576) : ∃ r, m_laws_szIntSS a left = some r ∧ (r = -1 ∨ (0 ≤ r ∧ r ≤ left ∧ RowsS a)) := by
  obtain ⟨r1, h2, h3⟩ := sz_loop (fun l : List Int => l.length ≤ 1048576) (a := a) (fun x hx l => szIntS_b x (ha.2 x hx) l) h0 h1 ha.1
  refine ⟨r1, h2, ?_⟩
  rcases h3 with h3 | ⟨h3, h4, h5⟩
  · exact .inl h3
  · exact .inr ⟨h3, by omega, by omega, h5⟩
theorem toIntSS_id (a : List (List Int)) (ha : RowsS a) : m_laws_toIntSS a = some a := by
  have := to_loop (b := 24) (z := ([] : List Int)) (g := m_laws_toIntS) (fun x => x) (a := a) (fun x hx => toIntS_id x (ha.2 x hx)) ha.1 (by omega)
  rw [List.map_id'] at this; exact this
theorem eqIntSS_self (a : List (List Int)) : m_laws_eqIntSS a a = some true := eq_loop (fun x _ => eqIntS_self x)
end Go.Proofs.Ytjdpolnakhmkmaa
/- Views compared: the law. -/
set_option linter.unusedVariables false
set_option linter.unusedSimpArgs false
namespace Go.Proofs.Ytjdpolnakhmkmaa
open Go Go.Proofs Go.Sep
theorem l3Ints_zero {u : Nat} {a b : List Int} (ha : a.length ≤ 1048576) (hb : b.length ≤ 1048576) (hu : 1048577 < u) : ∃ z, m_spec_l3Ints u a b = some z ∧ (z = 0 ↔ a = b) := ⟨_, l3Ints_cmp a b u (by omega) ha (by omega), cmpL_zero a b⟩
theorem l31Same_eq {u : Nat} {a b : List (List Int)} (ha : RowsS a) (hb : RowsS b) (hu : 1048577 < u) : m_spec_l31Same u a b = some (decide (a = b)) := by
  have := eqf_loop (f := fun x y => (m_spec_l3Ints u x y).bind fun r => some (decide (r = 0))) a b fun x hx y hy => by
    obtain ⟨z, h1, h2⟩ := l3Ints_zero (ha.2 x hx) (hb.2 y hy) hu
    rw [h1, Option.bind_some]
    congr 1
    simp only [h2]
  unfold m_spec_l31Same
  rw [← this]
  congr 2
  congr 1
  funext t x s
  cases getI b t with
  | none => rfl
  | some y =>
    simp only [Option.bind_some]
    cases m_spec_l3Ints u x y with
    | none => rfl
    | some r => by_cases h : r = 0 <;> simp [h]
theorem equalRows_eq (a b : List (List Int)) : m_impl_equalRows a b = some (decide (a = b)) := by
  have h : m_slices_EqualFunc_SSint_SSint_Sint_Sint a b (fun x0 x1 => m_slices_Equal_Sint_int x0 x1) = some (decide (a = b)) := eqf_loop a b fun x _ y _ => Equal_ints x y
  unfold m_impl_equalRows
  rw [h]; rfl
theorem impl_EqualQueries_eq (a b : Query) : m_impl_EqualQueries a b = some (decide (a = b)) := by
  have h1 : m_slices_EqualFunc_Simpl_Atom_Simpl_Atom_impl_Atom_impl_Atom a.atoms b.atoms (fun x0 x1 => m_impl_equalAtoms x0 x1) = some (decide (a.atoms = b.atoms)) := by
    refine eqf_loop a.atoms b.atoms fun x _ y _ => ?_
    unfold m_impl_equalAtoms
    rw [Equal_ints]
    obtain ⟨r, t⟩ := x
    obtain ⟨r', t'⟩ := y
    simp only [Atom.mk.injEq]
    by_cases e : r = r' <;> simp [e]
  unfold m_impl_EqualQueries
  rw [h1, Equal_ints]
  cases a; cases b
  rename_i v at_ f v' at' f'
  simp only [Query.mk.injEq]
  by_cases e : v = v'
  · by_cases e2 : at_ = at' <;> simp [e, e2]
  · simp [e]
theorem spec_EqualQueries_eq {u : Nat} {a b : Query} (ha : QS a) (hb : QS b) (hu : 1048577 < u) : m_spec_EqualQueries u a b = some (decide (a = b)) := by
  unfold m_spec_EqualQueries
  obtain ⟨z, hz1, hz2⟩ := l3Ints_zero ha.2.1 hb.2.1 hu
  refine Ok.to (.bind (P := fun t => (t = true → a ≠ b) ∧ (t = false → a.variableCount = b.variableCount ∧ a.free = b.free ∧ a.atoms.length = b.atoms.length)) (.cond (fun h => .ret ⟨fun _ e => by subst e; simp at h, fun h => Bool.noConfusion h⟩) fun h => .eq hz1 (.cond (fun h2 => .ret ⟨fun _ e => by subst e; exact (of_decide_eq_true h2) (hz2.2 rfl), fun h => Bool.noConfusion h⟩) fun h2 => .ret ⟨fun h3 e => by subst e; simp at h3, fun h3 => ⟨by simpa using h, hz2.1 (by simpa using h2), by have := of_decide_eq_false h3; omega⟩⟩)) fun t ht => .cond (fun h => .ret (by simp [ht.1 h])) fun h => ?_)
  obtain ⟨e1, e2, e3⟩ := ht.2 h
  have h1 := ha.1
  refine .while (fun (i : Int) => ∃ n : Nat, i = (n : Int) ∧ n ≤ a.atoms.length ∧ ∀ j, j < n → a.atoms[j]? = b.atoms[j]?) (fun i => a.atoms.length - i.toNat) (fun _ => a.atoms = b.atoms) (fun r => r = false ∧ a ≠ b) (by omega) ⟨0, rfl, by omega, by omega⟩ (fun i ⟨n, g1, g2, g3⟩ => ?_) (fun i hat => .ret ?_) (fun r hr => .ret (by rw [hr.1]; simp [hr.2]))
  · subst g1
    refine .cond (fun hc => ?_) fun hc => .brk ?_
    · have hn : n < a.atoms.length := by simpa using hc
      have hnb : n < b.atoms.length := by omega
      have hva := ha.2.2 _ (List.getElem_mem hn)
      have hvb := hb.2.2 _ (List.getElem_mem hnb)
      obtain ⟨y, hy1, hy2⟩ := l3Ints_zero hva hvb hu
      refine .bind (P := fun t => t = true ↔ a.atoms[n] ≠ b.atoms[n]) (.get rfl hn (.get rfl hnb (.cond (fun hd => .ret ⟨fun _ e => by rw [e] at hd; simp at hd, fun _ => rfl⟩) fun hd => .eq hy1 (.ret ⟨fun h5 e => of_decide_eq_true h5 (hy2.2 (by rw [e])), fun h5 => decide_eq_true fun h6 => h5 ?_⟩)))) fun t ht => .cond (fun hd => .out ⟨rfl, fun e => ?_⟩) fun hd => .next ⟨⟨n + 1, by rw [w64_id (by omega)]; simp, hn, fun j hj => ?_⟩, by rw [w64_id (by omega)]; omega⟩
      · have h7 := hy2.1 h6
        have h8 : a.atoms[n].relation = b.atoms[n].relation := by simpa using hd
        generalize a.atoms[n] = p at *
        generalize b.atoms[n] = q at *
        cases p; cases q; simp only at h7 h8; rw [h7, h8]
      · subst e; exact ht.1 hd rfl
      · have hd' : a.atoms[n] = b.atoms[n] := Classical.byContradiction fun h => by rw [ht.2 h] at hd; cases hd
        by_cases e : j = n
        · subst e; rw [List.getElem?_eq_getElem hn, List.getElem?_eq_getElem hnb, hd']
        · exact g3 j (by omega)
    · have : n = a.atoms.length := by have := of_decide_eq_false hc; omega
      refine List.ext_getElem? fun j => ?_
      rcases Nat.lt_or_ge j a.atoms.length with g | g
      · exact g3 j (by omega)
      · rw [List.getElem?_eq_none g, List.getElem?_eq_none (by omega)]
  · cases a; cases b; simp only at e1 e2 hat; subst e1 e2 hat; simp
def VM (v : View) : Prop := DbM v.database ∧ QM v.query ∧ RowsM v.certainRows ∧ RowsM v.uncertainRows
def VS (v : View) : Prop := DbS v.database ∧ QS v.query ∧ RowsS v.certainRows ∧ RowsS v.uncertainRows
theorem szView_b (v : View) (hv : VM v) (left : Int) (h0 : 0 ≤ left) (h1 : left ≤ 1048576) : ∃ r, m_laws_szView v left = some r ∧ (r = -1 ∨ (0 ≤ r ∧ r ≤ left ∧ VS v)) := by
  unfold m_laws_szView
  obtain ⟨r1, a1, a2⟩ := szDatabase_b v.database hv.1 left h0 h1
  rw [a1, Option.bind_some]
  rcases a2 with rfl | ⟨a2, a3, a4⟩
  · exact ⟨_, rfl, .inl rfl⟩
  rw [cond_F' (by simp; omega)]
  obtain ⟨r2, b1, b2⟩ := szQuery_b v.query hv.2.1 r1 a2 (by omega)
  rw [b1, Option.bind_some]
  rcases b2 with rfl | ⟨b2, b3, b4⟩
  · exact ⟨_, rfl, .inl rfl⟩
  rw [cond_F' (by simp; omega)]
  obtain ⟨r3, c1, c2⟩ := szIntSS_b v.certainRows hv.2.2.1 r2 b2 (by omega)
  rw [c1, Option.bind_some]
  rcases c2 with rfl | ⟨c2, c3, c4⟩
  · exact ⟨_, rfl, .inl rfl⟩
  rw [cond_F' (by simp; omega)]
  obtain ⟨r4, d1, d2⟩ := szIntSS_b v.uncertainRows hv.2.2.2 r3 c2 (by omega)
  rw [d1, Option.bind_some]
  rcases d2 with rfl | ⟨d2, d3, d4⟩
  · exact ⟨_, rfl, .inl rfl⟩
  rw [cond_F' (by simp; omega)]
  exact ⟨_, rfl, .inr ⟨d2, by omega, a4, b4, c4, d4⟩⟩
theorem toView_id (v : View) (hv : VS v) : m_laws_toView v = some v := by
  unfold m_laws_toView
  rw [toDatabase_id _ hv.1, Option.bind_some, toQuery_id _ hv.2.1, Option.bind_some, toIntSS_id _ hv.2.2.1, Option.bind_some, toIntSS_id _ hv.2.2.2, Option.bind_some]
theorem eqView_self (v : View) : m_laws_eqView v v = some true := by
  unfold m_laws_eqView
  rw [eqDatabase_self, Option.bind_some, cond_nt, eqQuery_self, Option.bind_some, cond_nt, eqIntSS_self, Option.bind_some, cond_nt, eqIntSS_self]; rfl
theorem law_EqualViews (a b : View) (ha : VM a) (hb : VM b) : m_laws_FnExactEqualViews 1048578 a b = some true := by
  unfold m_laws_FnExactEqualViews
  obtain ⟨r1, a1, a2⟩ := szView_b a ha 1048576 (by omega) (by omega)
  rw [a1, Option.bind_some]
  rcases a2 with rfl | ⟨a2, a3, hs⟩
  · rw [cond_T' (by decide)]
  rw [cond_F' (by simp; omega)]
  obtain ⟨r2, b1, b2⟩ := szView_b b hb r1 a2 (by omega)
  rw [b1, Option.bind_some]
  rcases b2 with rfl | ⟨b2, b3, hs'⟩
  · rw [cond_T' (by decide)]
  rw [cond_F' (by simp; omega)]
  have key : ∃ w, m_spec_EqualViews 1048578 a b = some w ∧ m_impl_EqualViews a b = some w := by
    unfold m_spec_EqualViews m_impl_EqualViews
    rw [spec_EqualDatabases_eq hs.1 hs'.1 (by omega), impl_EqualDatabases_eq, spec_EqualQueries_eq hs.2.1 hs'.2.1 (by omega), impl_EqualQueries_eq, l31Same_eq hs.2.2.1 hs'.2.2.1 (by omega), equalRows_eq, l31Same_eq hs.2.2.2 hs'.2.2.2 (by omega), equalRows_eq]
    simp only [Option.bind_some]
    cases decide (a.database = b.database) <;> cases decide (a.query = b.query) <;> cases decide (a.certainRows = b.certainRows) <;> exact ⟨_, rfl, rfl⟩
  obtain ⟨w, k1, k2⟩ := key
  rw [toView_id a hs, Option.bind_some, toView_id b hs', Option.bind_some, k1, Option.bind_some, Option.bind_some, Option.bind_some, k2, Option.bind_some, cond_F' (by simp), Option.bind_some, eqView_self, Option.bind_some, cond_nt, Option.bind_some, eqView_self, Option.bind_some, cond_nt]
end Go.Proofs.Ytjdpolnakhmkmaa

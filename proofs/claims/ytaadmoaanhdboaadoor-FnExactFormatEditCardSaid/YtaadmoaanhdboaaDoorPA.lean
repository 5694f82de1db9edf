import Derived.Test.YtaadmoaanhdboaaDoorCRC
import Derived.Test.YtaadmoaanhdboaaDoorM0
import Derived.Lib.ItoaLen
set_option linter.unusedVariables false
set_option linter.unusedSimpArgs false
namespace Go.Proofs.YtaadmoaanhdboaaDoor
open Go Go.Proofs Go.Sep
theorem cond_nt {α : Type} {x y : α} : cond (!true) x y = y := rfl
theorem szIntS_b (a : List Int) (hl : a.length ≤ 9223372036854775807) (left : Int) (h0 : 0 ≤ left) (h1 : left ≤ 1048576) : ∃ r, m_laws_szIntS a left = some r ∧ (r = -1 ∨ (0 ≤ r ∧ r ≤ left ∧ a.length ≤ 1048576)) := by
 unfold m_laws_szIntS
 rw [w64_id (by omega)]
 by_cases h : left < a.length
 ·rw [cond_T' (by simp; omega)]; exact ⟨_, rfl, .inl rfl⟩
 ·rw [cond_F' (by simp; omega)]; exact ⟨_, rfl, .inr ⟨by omega, by omega, by omega⟩⟩
theorem szRelation_b (a : Relation) (hl : a.name.size ≤ 9223372036854775807) (left : Int) (h0 : 0 ≤ left) (h1 : left ≤ 1048576) : ∃ r, m_laws_szRelation a left = some r ∧ (r = -1 ∨ (0 ≤ r ∧ r ≤ left ∧ a.name.size ≤ 1048576)) := by
 unfold m_laws_szRelation
 rw [w64_id (by omega)]
 by_cases h : left < a.name.size
 ·rw [cond_T' (by simp; omega)]; exact ⟨_, rfl, .inl rfl⟩
 ·rw [cond_F' (by simp; omega)]; exact ⟨_, rfl, .inr ⟨by omega, by omega, by omega⟩⟩
theorem szFact_b (a : Fact) (hl : a.values.length ≤ 9223372036854775807) (left : Int) (h0 : 0 ≤ left) (h1 : left ≤ 1048576) : ∃ r, m_laws_szFact a left = some r ∧ (r = -1 ∨ (0 ≤ r ∧ r ≤ left ∧ a.values.length ≤ 1048576)) := by
 unfold m_laws_szFact
 obtain ⟨r, h2, h3⟩ := szIntS_b a.values hl left h0 h1
 rw [h2, Option.bind_some]
 rcases h3 with rfl | h3
 ·exact ⟨_, rfl, .inl rfl⟩
 ·rw [cond_F' (by simp; omega)]; exact ⟨_, rfl, .inr h3⟩
def DbM (d : Database) : Prop := d.relations.length ≤ 9223372036854775807 ∧ d.facts.length ≤ 9223372036854775807 ∧ (∀ r ∈ d.relations, r.name.size ≤ 9223372036854775807) ∧ ∀ f ∈ d.facts, f.values.length ≤ 9223372036854775807
def DbS (d : Database) : Prop := d.relations.length ≤ 1048576 ∧ d.facts.length ≤ 1048576 ∧ (∀ r ∈ d.relations, r.name.size ≤ 1048576) ∧ ∀ f ∈ d.facts, f.values.length ≤ 1048576
theorem szDatabase_b (d : Database) (hd : DbM d) (left : Int) (h0 : 0 ≤ left) (h1 : left ≤ 1048576) : ∃ r, m_laws_szDatabase d left = some r ∧ (r = -1 ∨ (0 ≤ r ∧ r ≤ left ∧ DbS d)) := by
 obtain ⟨r1, h2, h3⟩ := sz_loop (fun r : Relation => r.name.size ≤ 1048576) (a := d.relations) (fun x hx l => szRelation_b x (hd.2.2.1 x hx) l) h0 h1 hd.1
 have h2' : m_laws_szRelationS d.relations left = some r1 := h2
 unfold m_laws_szDatabase
 rw [h2', Option.bind_some]
 rcases h3 with rfl | ⟨h3, h4, h5⟩
 ·exact ⟨_, rfl, .inl rfl⟩
 ·rw [cond_F' (by simp; omega)]
  obtain ⟨r2, h6, h7⟩ := sz_loop (fun f : Fact => f.values.length ≤ 1048576) (a := d.facts) (fun x hx l => szFact_b x (hd.2.2.2 x hx) l) h3 (by omega) hd.2.1
  have h6' : m_laws_szFactS d.facts r1 = some r2 := h6
  rw [h6', Option.bind_some]
  rcases h7 with rfl | ⟨h7, h8, h9⟩
  ·exact ⟨_, rfl, .inl rfl⟩
  ·rw [cond_F' (by simp; omega)]; exact ⟨_, rfl, .inr ⟨h7, by omega, by omega, by omega, h5, h9⟩⟩
theorem toIntS_id (a : List Int) (hl : a.length ≤ 1048576) : m_laws_toIntS a = some a := by
 unfold m_laws_toIntS
 rw [mk_ok (by omega) (by omega), Option.bind_some, forS_fill (fun x => x) (by simp) fun n x zs hx hz => ?_]
 ·simp
 ·have hn : n < zs.length := by have := (List.getElem?_eq_some_iff.1 hx).1; omega
  rw [getI_lt hn]; simp
theorem toDatabase_id (d : Database) (hd : DbS d) : m_laws_toDatabase d = some d := by
 have h1 : m_laws_toRelationS d.relations = some d.relations := by
  have := to_loop (b := 32) (z := (default : Relation)) (g := m_laws_toRelation) (fun x => x) (a := d.relations) (fun x _ => rfl) hd.1 (by omega)
  rw [List.map_id'] at this; exact this
 have h2 : m_laws_toFactS d.facts = some d.facts := by
  have := to_loop (b := 32) (z := (default : Fact)) (g := m_laws_toFact) (fun x => x) (a := d.facts) (fun x hx => by unfold m_laws_toFact; rw [toIntS_id _ (hd.2.2.2 x hx)]; rfl) hd.2.1 (by omega)
  rw [List.map_id'] at this; exact this
 unfold m_laws_toDatabase
 rw [h1, Option.bind_some, h2, Option.bind_some]
theorem eqIntS_self (a : List Int) : m_laws_eqIntS a a = some true := by
 unfold m_laws_eqIntS
 rw [cond_F' (by simp)]
 obtain ⟨o, h1, h2⟩ := forL_ok (xs := a) (s := ()) (f := fun (i_2 : Int) (x_i_2 : Int) (_ : Unit) => (getI a (i_2 : Int)).bind fun v_4 => cond (decide (x_i_2 ≠ v_4)) (some (.ret false)) (some (.next ())))
  (fun _ _ => True) (fun _ => False) (fun (_ : Bool) => False) trivial fun n x s hx _ => by
   rw [getI_nat, hx, Option.bind_some, cond_F' (by simp)]
   exact ⟨_, rfl, trivial⟩
 rw [h1, Option.bind_some]
 cases o with
 | inl s => rfl
 | inr r => exact h2.elim
theorem eqRelation_self (a : Relation) : m_laws_eqRelation a a = some true := by simp [m_laws_eqRelation]
theorem eqFact_self (a : Fact) : m_laws_eqFact a a = some true := by
 unfold m_laws_eqFact
 rw [cond_F' (by simp), eqIntS_self]; rfl
theorem eqDatabase_self (d : Database) : m_laws_eqDatabase d d = some true := by
 have h1 : m_laws_eqRelationS d.relations d.relations = some true := eq_loop (fun x _ => eqRelation_self x)
 have h2 : m_laws_eqFactS d.facts d.facts = some true := eq_loop (fun x _ => eqFact_self x)
 unfold m_laws_eqDatabase
 rw [h1, Option.bind_some, h2]; rfl
theorem validRelation_tot (r : Relation) : ∃ b, m_impl_IsValidRelation r = some b := by
 unfold m_impl_IsValidRelation m_impl_within
 by_cases h : r.name.size = 1
 ·have hb : ∃ z, getB r.name 0 = some z := by
   have h0 : 0 < r.name.size := by omega
   exact ⟨((r.name[0]'h0).toNat : Int), by unfold getB; rw [if_pos (by omega)]; simp [h0]⟩
  obtain ⟨z, hz⟩ := hb
  rw [cond_T' (by simp [h])]
  simp only [hz, Option.bind_some]
  cases decide (97 ≤ z) <;> cases decide (z ≤ 122) <;> simp only [cond_true, cond_false, Option.bind_some] <;> first | exact ⟨_, rfl⟩ | skip
  cases (decide (1 ≤ r.arity) && decide (r.arity ≤ 3)) <;> exact ⟨_, rfl⟩
 ·rw [cond_F' (by simp; omega)]; exact ⟨_, rfl⟩
theorem validRelations_tot (l : List Relation) : ∃ b, m_impl_AreValidRelations l = some b := by
 unfold m_impl_AreValidRelations
 obtain ⟨o, h1, h2⟩ := forL_ok (xs := l) (s := ()) (f := fun (t_1 : Int) (x_t_1 : Relation) (_ : Unit) => ((m_impl_IsValidRelation x_t_1).bind fun r_5 => cond (!r_5) (some true) (cond (decide (0 < (t_1 : Int))) ((getI l ((t_1 : Int) - 1)).bind fun v_9 => some (!ltS v_9.name x_t_1.name)) (some false))).bind fun (t29 : Bool) => cond t29 (some (.ret false)) (some (.next ())))
  (fun _ _ => True) (fun _ => False) (fun (_ : Bool) => True) trivial fun n x s hx _ => by
   obtain ⟨b, hb⟩ := validRelation_tot x
   have hn : n < l.length := (List.getElem?_eq_some_iff.1 hx).1
   rw [hb, Option.bind_some]
   have key : ∃ t, cond (!b) (some true) (cond (decide (0 < (n : Int))) ((getI l ((n : Int) - 1)).bind fun v_9 => some (!ltS v_9.name x.name)) (some false)) = some t := by
    cases b with
    | false => exact ⟨_, rfl⟩
    | true =>
     by_cases h0 : 0 < n
     ·have e : (n : Int) - 1 = ((n - 1 : Nat) : Int) := by omega
      rw [cond_nt, cond_T' (by simpa using h0), e, getI_lt (show n - 1 < l.length by omega)]; exact ⟨_, rfl⟩
     ·rw [cond_nt, cond_F' (by simpa using h0)]; exact ⟨_, rfl⟩
   obtain ⟨t, ht⟩ := key
   rw [ht, Option.bind_some]
   cases t <;> exact ⟨_, rfl, trivial⟩
 rw [h1, Option.bind_some]
 cases o <;> exact ⟨_, rfl⟩
theorem spec_validRelations (l : List Relation) : m_spec_AreValidRelations l = m_impl_AreValidRelations l := rfl
def FactOK (l : List Relation) (f : Fact) : Prop := ∃ (n : Nat) (r : Relation), f.relation = n ∧ l[n]? = some r ∧ (f.values.length : Int) = r.arity ∧ ∀ v ∈ f.values, 0 ≤ v ∧ v ≤ 9
theorem areValues_eq (l : List Int) : ∃ b, m_impl_areValues l = some b ∧ (b = true ↔ ∀ v ∈ l, 0 ≤ v ∧ v ≤ 9) := by
 unfold m_impl_areValues m_slices_ContainsFunc_Sint_int m_slices_IndexFunc_Sint_int
 obtain ⟨o, h1, h2⟩ := forL_ok (xs := l) (s := ()) (f := fun (t_1 : Int) (x_t_1 : Int) (_ : Unit) => (m_impl_areValues_1 x_t_1).bind fun r_3 => cond r_3 (some (.ret (t_1 : Int))) (some (.next ())))
  (fun n _ => ∀ (j : Nat) x, j < n → l[j]? = some x → 0 ≤ x ∧ x ≤ 9) (fun _ => False) (fun r => 0 ≤ r ∧ ∃ x ∈ l, ¬ (0 ≤ x ∧ x ≤ 9)) (fun j x hj => by omega) fun n x s hx hI => by
   simp only [m_impl_areValues_1, m_impl_within, Option.bind_some]
   by_cases hp : 0 ≤ x ∧ x ≤ 9
   ·rw [cond_F' (by simp [hp])]
    refine ⟨_, rfl, fun j y hj hy => ?_⟩
    by_cases e : j = n
    ·subst e; rw [hx] at hy; cases hy; exact hp
    ·exact hI j y (by omega) hy
   ·rw [cond_T' (by simp; omega)]
    exact ⟨_, rfl, by omega, x, List.mem_of_getElem? hx, hp⟩
 rw [h1]
 cases o with
 | inl s =>
  refine ⟨_, rfl, ?_⟩
  have := h2.resolve_right id
  refine ⟨fun _ v hv => ?_, fun _ => by simp⟩
  obtain ⟨j, hj⟩ := List.getElem?_of_mem hv
  exact this j v (List.getElem?_eq_some_iff.1 hj).1 hj
 | inr r =>
  refine ⟨_, rfl, ?_⟩
  obtain ⟨h3, x, hx, hp⟩ := h2
  refine ⟨fun h => by simp at h; omega, fun h => (hp (h x hx)).elim⟩
theorem isFact_eq (l : List Relation) (f : Fact) : ∃ b, m_impl_isFact l f = some b ∧ (b = true ↔ FactOK l f) := by
 unfold m_impl_isFact m_impl_within
 simp only [Option.bind_some]
 by_cases h : 0 ≤ f.relation ∧ f.relation ≤ (l.length : Int) - 1
 ·rw [cond_T' (by simp [h])]
  obtain ⟨n, hn⟩ : ∃ n : Nat, f.relation = n := ⟨f.relation.toNat, by omega⟩
  have hnl : n < l.length := by omega
  rw [hn, getI_lt hnl, Option.bind_some]
  by_cases ha : (f.values.length : Int) = l[n].arity
  ·rw [cond_T' (by simpa using ha)]
   obtain ⟨b, h1, h2⟩ := areValues_eq f.values
   rw [h1]
   refine ⟨b, rfl, h2.trans ⟨fun hv => ⟨n, l[n], hn, List.getElem?_eq_getElem hnl, ha, hv⟩, fun ⟨_, _, _, _, _, hv⟩ => hv⟩⟩
  ·rw [cond_F' (by simpa using ha)]
   refine ⟨false, rfl, by simp, fun ⟨n', r, h3, h4, h5, _⟩ => ?_⟩
   have : n' = n := by omega
   subst this
   rw [List.getElem?_eq_getElem hnl] at h4; cases h4
   exact (ha h5).elim
 ·rw [cond_F' (by simp; omega)]
  refine ⟨false, rfl, by simp, fun ⟨n', r, h3, h4, _⟩ => ?_⟩
  have := (List.getElem?_eq_some_iff.1 h4).1
  omega
theorem spec_isFact_eq (u : Nat) (l : List Relation) (f : Fact) (hu : f.values.length < u) (hf : f.values.length ≤ 1048576) : ∃ b, m_spec_IsValidFact u l f = some b ∧ (b = true ↔ m_impl_AreValidRelations l = some true ∧ FactOK l f) := by
 unfold m_spec_IsValidFact m_spec_l1In
 rw [spec_validRelations]
 obtain ⟨bl, hbl⟩ := validRelations_tot l
 rw [hbl, Option.bind_some]
 cases bl with
 | false => exact ⟨false, rfl, by simp⟩
 | true =>
  rw [cond_nt]
  simp only [Option.bind_some]
  by_cases h : 0 ≤ f.relation ∧ f.relation ≤ (l.length : Int) - 1
  ·rw [cond_F' (by simp [h])]
   obtain ⟨n, hn⟩ : ∃ n : Nat, f.relation = n := ⟨f.relation.toNat, by omega⟩
   have hnl : n < l.length := by omega
   rw [hn, getI_lt hnl, Option.bind_some, Option.bind_some]
   by_cases ha : (f.values.length : Int) = l[n].arity
   ·rw [cond_F' (by simpa using ha)]
    obtain ⟨o, h1, h2⟩ := while_ok (f := fun (i5 : Int) => cond (decide (i5 < (f.values.length : Int))) ((getI f.values i5).bind fun v_18 => (some ((decide (0 ≤ v_18)) && (decide (v_18 ≤ 9)))).bind fun r_23 => cond (!r_23) (some (.ret false)) (some (.next (w64 (i5 + 1))))) (some (.brk i5)))
     (fun i => ∃ n : Nat, i = n ∧ n ≤ f.values.length ∧ ∀ (j : Nat) x, j < n → f.values[j]? = some x → 0 ≤ x ∧ x ≤ 9) (fun i => f.values.length - i.toNat) (fun i => ∀ v ∈ f.values, 0 ≤ v ∧ v ≤ 9) (fun (r : Bool) => r = false ∧ ¬ ∀ v ∈ f.values, 0 ≤ v ∧ v ≤ 9)
     (fun i ⟨n, hi, hn1, hI⟩ => by
      subst hi
      by_cases h : n < f.values.length
      ·rw [cond_T' (by simpa using h), getI_lt h, Option.bind_some, Option.bind_some]
       by_cases hp : 0 ≤ f.values[n] ∧ f.values[n] ≤ 9
       ·rw [cond_F' (by simp [hp]), w64_id (by omega)]
        refine ⟨_, rfl, ⟨n + 1, by omega, h, fun j x hj hx => ?_⟩, by omega⟩
        by_cases e : j = n
        ·subst e; rw [List.getElem?_eq_getElem h] at hx; cases hx; exact hp
        ·exact hI j x (by omega) hx
       ·rw [cond_T' (by simp; omega)]
        exact ⟨_, rfl, rfl, fun hv => hp (hv _ (List.getElem_mem h))⟩
      ·rw [cond_F' (by simpa using h)]
       refine ⟨_, rfl, fun v hv => ?_⟩
       obtain ⟨j, hj⟩ := List.getElem?_of_mem hv
       have := (List.getElem?_eq_some_iff.1 hj).1
       exact hI j v (by omega) hj)
     u 0 (by simpa using hu) ⟨0, rfl, by omega, fun j x hj => by omega⟩
    simp only [Option.bind_some] at h1
    rw [h1, Option.bind_some]
    cases o with
    | inl i => exact ⟨true, rfl, by simp; exact ⟨n, l[n], hn, List.getElem?_eq_getElem hnl, ha, h2⟩⟩
    | inr r =>
     obtain ⟨rfl, h3⟩ := h2
     exact ⟨false, rfl, by simp; rintro ⟨_, _, _, _, _, hv⟩; exact h3 hv⟩
   ·rw [cond_T' (by simpa using ha)]
    refine ⟨false, rfl, by simp, fun ⟨_, n', r, h3, h4, h5, _⟩ => ?_⟩
    have : n' = n := by omega
    subst this
    rw [List.getElem?_eq_getElem hnl] at h4; cases h4
    exact (ha h5).elim
  ·rw [cond_T' (by simp; omega)]
   refine ⟨false, rfl, by simp, fun ⟨_, n', r, h3, h4, _⟩ => ?_⟩
   have := (List.getElem?_eq_some_iff.1 h4).1
   omega
end Go.Proofs.YtaadmoaanhdboaaDoor
set_option linter.unusedVariables false
set_option linter.unusedSimpArgs false
namespace Go.Proofs.YtaadmoaanhdboaaDoor
open Go Go.Proofs Go.Sep
def RelOK (r : Relation) : Prop := 0 ≤ r.keyLength ∧ r.keyLength ≤ r.arity ∧ 1 ≤ r.arity ∧ r.arity ≤ 3
theorem validRelation_ok {r : Relation} (h : m_impl_IsValidRelation r = some true) : RelOK r := by
 unfold m_impl_IsValidRelation m_impl_within at h
 obtain ⟨t, h1, h2⟩ := bind_inv h
 have h2 : t = true := by simpa using h2
 subst h2
 by_cases hs : (r.name.size : Int) = 1
 ·rw [cond_T' (by simpa using hs)] at h1
  obtain ⟨b1, _, h3⟩ := bind_inv h1
  cases hd : decide (97 ≤ b1) with
  | false => rw [hd] at h3; simp at h3
  | true =>
   rw [hd, cond_T' rfl] at h3
   obtain ⟨b2, _, h4⟩ := bind_inv h3
   cases hd2 : decide (b2 ≤ 122) with
   | false => rw [hd2] at h4; simp at h4
   | true =>
    rw [hd2, cond_T' rfl] at h4
    simp only [Option.bind_some] at h4
    by_cases ha : 1 ≤ r.arity ∧ r.arity ≤ 3
    ·rw [cond_T' (by simp [ha])] at h4
     simp only [Option.some.injEq, Bool.and_eq_true, decide_eq_true_eq] at h4
     exact ⟨h4.1, h4.2, ha.1, ha.2⟩
    ·rw [cond_F' (by simp; omega)] at h4; simp at h4
 ·rw [cond_F' (by simpa using hs)] at h1; simp at h1
theorem validRelations_ok {l : List Relation} (h : m_impl_AreValidRelations l = some true) : ∀ r ∈ l, RelOK r := by
 unfold m_impl_AreValidRelations at h
 obtain ⟨o, h1, h2⟩ := forL_ok (xs := l) (s := ()) (f := fun (t_1 : Int) (x_t_1 : Relation) (_ : Unit) => ((m_impl_IsValidRelation x_t_1).bind fun r_5 => cond (!r_5) (some true) (cond (decide (0 < (t_1 : Int))) ((getI l ((t_1 : Int) - 1)).bind fun v_9 => some (!ltS v_9.name x_t_1.name)) (some false))).bind fun (t29 : Bool) => cond t29 (some (.ret false)) (some (.next ())))
  (fun n _ => ∀ (j : Nat) r, j < n → l[j]? = some r → RelOK r) (fun _ => False) (fun (r : Bool) => r = false) (fun j r hj => by omega) fun n x s hx hI => by
   obtain ⟨b, hb⟩ := validRelation_tot x
   have hn : n < l.length := (List.getElem?_eq_some_iff.1 hx).1
   rw [hb, Option.bind_some]
   cases b with
   | false => exact ⟨_, rfl, rfl⟩
   | true =>
    have key : ∃ t, (cond (decide (0 < (n : Int))) ((getI l ((n : Int) - 1)).bind fun v_9 => some (!ltS v_9.name x.name)) (some false)) = some t := by
     by_cases h0 : 0 < n
     ·have e : (n : Int) - 1 = ((n - 1 : Nat) : Int) := by omega
      rw [cond_T' (by simpa using h0), e, getI_lt (show n - 1 < l.length by omega)]; exact ⟨_, rfl⟩
     ·rw [cond_F' (by simpa using h0)]; exact ⟨_, rfl⟩
    obtain ⟨t, ht⟩ := key
    rw [cond_nt, ht, Option.bind_some]
    cases t with
    | true => exact ⟨_, rfl, rfl⟩
    | false =>
     refine ⟨_, rfl, fun j r hj hr => ?_⟩
     by_cases e : j = n
     ·subst e; rw [hx] at hr; cases hr; exact validRelation_ok hb
     ·exact hI j r (by omega) hr
 rw [h1, Option.bind_some] at h
 cases o with
 | inl s =>
  intro r hr
  obtain ⟨j, hj⟩ := List.getElem?_of_mem hr
  exact (h2.resolve_right id) j r (List.getElem?_eq_some_iff.1 hj).1 hj
 | inr r =>
  simp only [SumP] at h2
  subst h2; simp [onS] at h
end Go.Proofs.YtaadmoaanhdboaaDoor
set_option linter.unusedVariables false
set_option linter.unusedSimpArgs false
namespace Go.Proofs.YtaadmoaanhdboaaDoor
open Go Go.Proofs Go.Sep
theorem bytes_ext {x y : ByteArray} (h : x.data.toList = y.data.toList) : x = y := by
 cases x; cases y; simp at h; subst h; rfl
theorem bytes_app (x y : ByteArray) : (x ++ y).data.toList = x.data.toList ++ y.data.toList := by
 rw [ByteArray.data_append, Array.toList_append]
theorem str_one (z : Int) (h0 : 0 ≤ z) (h1 : z < 256) : strOf [IntKind.wrap .u8 z] = ⟨#[UInt8.ofNat z.toNat]⟩ := by
 have : IntKind.wrap .u8 z = z := by simp [IntKind.wrap, IntKind.bits, IntKind.signed]; omega
 rw [this]
 rfl
theorem tmod10 (n : Int) : n.tmod 10 = if 0 ≤ n then ((n.natAbs % 10 : Nat) : Int) else -((n.natAbs % 10 : Nat) : Int) := by
 obtain ⟨m, rfl | rfl⟩ := Int.eq_nat_or_neg n
 ·rw [if_pos (by omega), Int.natAbs_natCast]; exact (Int.ofNat_tmod m 10).symm
 ·rw [Int.natAbs_neg, Int.natAbs_natCast, Int.neg_tmod]
  have : (m : Int).tmod 10 = ((m % 10 : Nat) : Int) := (Int.ofNat_tmod m 10).symm
  rw [this]
  split
  ·omega
  ·rfl
theorem digit_neg (n : Int) (hn : n.tmod 10 < 0) : strOf ([(IntKind.wrap .u8 (w64 (48 + (w64 (-(n.tmod 10))))))] : (List Int)) = ⟨#[UInt8.ofNat (48 + n.natAbs % 10)]⟩ := by
 have h1 := tmod10 n
 have h3 : n.tmod 10 = -((n.natAbs % 10 : Nat) : Int) := by
  split at h1 <;> omega
 have h2 : n.natAbs % 10 < 10 := Nat.mod_lt _ (by decide)
 rw [h3, w64_eq (x := - -((n.natAbs % 10 : Nat) : Int)) (by omega) (by omega), w64_eq (by omega) (by omega), str_one _ (by omega) (by omega), show (48 + - -((n.natAbs % 10 : Nat) : Int)).toNat = 48 + n.natAbs % 10 by omega]
theorem digit_pos (n : Int) (hn : ¬ n.tmod 10 < 0) : strOf ([(IntKind.wrap .u8 (w64 (48 + (n.tmod 10))))] : (List Int)) = ⟨#[UInt8.ofNat (48 + n.natAbs % 10)]⟩ := by
 have h1 := tmod10 n
 have h3 : n.tmod 10 = ((n.natAbs % 10 : Nat) : Int) := by
  split at h1 <;> omega
 have h2 : n.natAbs % 10 < 10 := Nat.mod_lt _ (by decide)
 rw [h3, w64_eq (by omega) (by omega), str_one _ (by omega) (by omega), show (48 + ((n.natAbs % 10 : Nat) : Int)).toNat = 48 + n.natAbs % 10 by omega]
def digs (m : Nat) : List UInt8 := if m = 0 then [] else Go.Lib.decDigits m
theorem digs_step (m : Nat) (h : m ≠ 0) : digs m = digs (m / 10) ++ [UInt8.ofNat (48 + m % 10)] := by
 unfold digs
 rw [if_neg h, Go.Lib.decDigits]
 by_cases h1 : m < 10
 ·rw [dif_pos h1, if_pos (by omega), Nat.mod_eq_of_lt h1]; rfl
 ·rw [dif_neg h1, if_neg (by omega)]
theorem int_loop : ∀ (j f : Nat) (n : Int) (acc : ByteArray), j < f → n.natAbs < 10 ^ j → -9223372036854775808 ≤ n → n ≤ 9223372036854775807 → acc.size + j ≤ 1000 →
  whileF (R := ByteArray) (fun (⟨n0z, out3⟩ : Int × ByteArray) => cond (decide (n0z ≠ 0)) (cond (decide ((n0z.tmod 10) < 0)) ((catS (strOf ([(IntKind.wrap .u8 (w64 (48 + (w64 (-(n0z.tmod 10))))))] : (List Int))) out3).bind fun cat_5 => some (.next ((w64 (n0z.tdiv 10)), cat_5))) ((catS (strOf ([(IntKind.wrap .u8 (w64 (48 + (n0z.tmod 10))))] : (List Int))) out3).bind fun cat_7 => some (.next ((w64 (n0z.tdiv 10)), cat_7)))) (some (.brk (n0z, out3)))) f (n, acc) = some (.inl (0, ⟨(digs n.natAbs).toArray⟩ ++ acc))
 | j, f + 1, n, acc, hj, hm, h0, h1, ha => by
  unfold whileF
  by_cases hn : n = 0
  ·subst hn
   simp only [ne_eq, not_true_eq_false, decide_false, cond_false, Option.bind_some]
   have e : (⟨(digs (Int.natAbs 0)).toArray⟩ : ByteArray) ++ acc = acc := bytes_ext (by rw [bytes_app]; rfl)
   rw [e]
  ·have hj0 : 0 < j := by
    rcases j with _ | j
    ·simp at hm; omega
    ·omega
   obtain ⟨j, rfl⟩ : ∃ i, j = i + 1 := ⟨j - 1, by omega⟩
   have hq : (n.tdiv 10).natAbs = n.natAbs / 10 := by rw [Int.natAbs_tdiv]; rfl
   have hb0 : -9223372036854775808 ≤ n.tdiv 10 ∧ n.tdiv 10 ≤ 9223372036854775807 := by omega
   have key : ∀ s : ByteArray, s = ⟨#[UInt8.ofNat (48 + n.natAbs % 10)]⟩ → (catS s acc).bind (fun c => some (Ctl.next (R := ByteArray) ((w64 (n.tdiv 10)), c))) = some (.next (n.tdiv 10, s ++ acc)) := fun s hs => by
    have hz : s.size = 1 := by subst hs; rfl
    rw [catS_ok (by rw [hz]; omega), w64_eq hb0.1 hb0.2]; rfl
   have end_ : ∀ s : ByteArray, s = ⟨#[UInt8.ofNat (48 + n.natAbs % 10)]⟩ → (⟨(digs (n.tdiv 10).natAbs).toArray⟩ : ByteArray) ++ (s ++ acc) = ⟨(digs n.natAbs).toArray⟩ ++ acc := fun s hs => by
    refine bytes_ext ?_
    rw [bytes_app, bytes_app, bytes_app, digs_step n.natAbs (by omega), hq, hs]
    simp
   have ih := fun s (hs : s = (⟨#[UInt8.ofNat (48 + n.natAbs % 10)]⟩ : ByteArray)) => int_loop j f (n.tdiv 10) (s ++ acc) (by omega) (by rw [hq]; rw [Nat.pow_succ] at hm; omega) hb0.1 hb0.2 (by
    rw [ByteArray.size_append, hs]
    show 1 + acc.size + j ≤ 1000
    omega)
   simp only [ne_eq, hn, not_false_eq_true, decide_true, cond_true]
   by_cases hd : n.tmod 10 < 0
   ·have e := digit_neg n hd
    simp only [hd, decide_true, cond_true]
    rw [key _ e]
    simp only [Option.bind_some]
    rw [ih _ e, end_ _ e]
   ·have e := digit_pos n hd
    simp only [hd, decide_false, cond_false]
    rw [key _ e]
    simp only [Option.bind_some]
    rw [ih _ e, end_ _ e]
def itoaB (n : Int) : ByteArray := ⟨(Go.Lib.itoa n).toArray⟩
theorem impl_FormatInt_eq (n : Int) (h0 : -9223372036854775808 ≤ n) (h1 : n ≤ 9223372036854775807) : m_impl_FormatInt n = some (itoaB n) := by
 unfold m_impl_FormatInt m_strconv_Itoa
 rw [if_pos ⟨h0, h1⟩]; rfl
theorem spec_FormatInt_eq (n : Int) (h0 : -9223372036854775808 ≤ n) (h1 : n ≤ 9223372036854775807) : m_spec_FormatInt 1048578 n = some (itoaB n) := by
 unfold m_spec_FormatInt itoaB Go.Lib.itoa
 by_cases hn : n = 0
 ·subst hn
  simp only [decide_true, cond_true]
  rw [if_neg (by omega)]
  congr 2
  rw [show (0 : Int).toNat = 0 from rfl, Go.Lib.decDigits, dif_pos (by decide)]
  rfl
 ·simp only [hn, decide_false, cond_false]
  rw [int_loop 19 1048578 n _ (by omega) (by omega) h0 h1 (by decide)]
  simp only [Option.bind_some, onS]
  have hm : n.natAbs ≠ 0 := by omega
  by_cases hs : n < 0
  ·simp only [hs, decide_true, cond_true]
   have hd : (digs n.natAbs).length ≤ 21 := by
    have := Go.Lib.itoa_length_le n h0 h1
    unfold Go.Lib.itoa at this
    rw [if_pos hs] at this
    unfold digs; rw [if_neg hm]
    simp at this; omega
   rw [catS_ok (by
    rw [ByteArray.size_append]
    show 1 + ((digs n.natAbs).toArray.size + 0) ≤ _
    simp; omega)]
   simp only [Option.bind_some, if_true]
   congr 1
   refine bytes_ext ?_
   rw [bytes_app, bytes_app]
   unfold digs; rw [if_neg hm]
   simp
  ·simp only [hs, decide_false, cond_false, if_false]
   congr 1
   refine bytes_ext ?_
   rw [bytes_app]
   unfold digs; rw [if_neg hm, show n.natAbs = n.toNat by omega]
   simp
end Go.Proofs.YtaadmoaanhdboaaDoor
set_option linter.unusedVariables false
set_option linter.unusedSimpArgs false
namespace Go.Proofs.YtaadmoaanhdboaaDoor
open Go Go.Proofs Go.Sep
def I64 (n : Int) : Prop := -9223372036854775808 ≤ n ∧ n ≤ 9223372036854775807
def bs (l : List UInt8) : ByteArray := ⟨l.toArray⟩
theorem bs_size (l : List UInt8) : (bs l).size = l.length := by show l.toArray.size = _; simp
theorem bs_app (x y : List UInt8) : bs x ++ bs y = bs (x ++ y) := bytes_ext (by rw [bytes_app]; simp [bs])
theorem bs_eta (s : ByteArray) : bs s.data.toList = s := bytes_ext (by simp [bs])
theorem cat_bs (x y : List UInt8) (h : x.length + y.length ≤ 9223372036854775807) : catS (bs x) (bs y) = some (bs (x ++ y)) := by
 rw [catS_ok (by rw [bs_size, bs_size]; exact h), bs_app]
theorem cat_c (x : List UInt8) (c : UInt8) (h : x.length + 1 ≤ 9223372036854775807) : catS (bs x) (⟨#[c]⟩ : ByteArray) = some (bs (x ++ [c])) := cat_bs x [c] h
theorem itoa_len (n : Int) (h : I64 n) : (Go.Lib.itoa n).length ≤ 21 := Go.Lib.itoa_length_le n h.1 h.2
theorem app_map {α : Type} (f : α → Option ByteArray) (g : α → ByteArray) : ∀ (xs : List α) (i : Int) (acc : List ByteArray), (∀ x ∈ xs, f x = some (g x)) → (acc.length + xs.length) * 16 ≤ 140737488355328 →
  forS (fun (_ : Int) (x : α) (out : List ByteArray) => (f x).bind fun r => (app 16 out ([r] : List ByteArray)).bind fun us => some us) xs i acc = some (acc ++ xs.map g)
 | [], i, acc, _, _ => by simp [forS]
 | x :: xs, i, acc, h, hb => by
  unfold forS
  simp only [List.length_cons] at hb
  rw [h x (List.mem_cons_self ..), Option.bind_some, app_ok (by simp only [List.length_cons, List.length_nil]; omega), Option.bind_some, Option.bind_some, app_map f g xs (i + 1) _ (fun y hy => h y (List.mem_cons_of_mem _ hy)) (by simp only [List.length_append, List.length_cons, List.length_nil]; omega)]
  simp
theorem data_itoaB (r : List Int) : (r.map itoaB).map (·.data.toList) = r.map Go.Lib.itoa := by
 rw [List.map_map]
 refine List.map_congr_left fun n _ => ?_
 simp [itoaB]
theorem bind_to {α β : Type} {x : Option α} {a : α} {f : α → Option β} {r : Option β} (h : x = some a) (k : f a = r) : x.bind f = r := by rw [h]; exact k
end Go.Proofs.YtaadmoaanhdboaaDoor
set_option linter.unusedVariables false
set_option linter.unusedSimpArgs false
namespace Go.Proofs.YtaadmoaanhdboaaDoor
open Go Go.Proofs Go.Sep
def brs (k : Nat) : Nat → List Int → List UInt8
 | _, [] => []
 | i, x :: xs => (if i = k then [124] else []) ++ Go.Lib.itoa x ++ brs k (i + 1) xs
theorem brs_behind (k : Nat) : ∀ (xs : List Int) (i : Nat), k < i → brs k i xs = (xs.map Go.Lib.itoa).flatten
 | [], _, _ => rfl
 | x :: xs, i, h => by
  unfold brs
  rw [if_neg (by omega), brs_behind k xs (i + 1) (by omega)]
  simp
theorem brs_at (k : Nat) : ∀ (xs : List Int) (i : Nat), i ≤ k → brs k i xs = ((xs.take (k - i)).map Go.Lib.itoa).flatten ++ (if k - i < xs.length then [124] ++ ((xs.drop (k - i)).map Go.Lib.itoa).flatten else [])
 | [], i, h => by simp [brs]
 | x :: xs, i, h => by
  unfold brs
  by_cases e : i = k
  ·subst e
   rw [if_pos rfl, brs_behind i xs (i + 1) (by omega)]
   simp
  ·rw [if_neg e, brs_at k xs (i + 1) (by omega), show k - i = (k - (i + 1)) + 1 by omega]
   simp only [List.take_succ_cons, List.drop_succ_cons, List.map_cons, List.flatten_cons, List.length_cons, List.nil_append, List.append_assoc, Nat.add_lt_add_iff_right]
theorem join_flat (xs : List (List UInt8)) : Go.Lib.join xs [] = xs.flatten := by
 cases xs with
 | nil => rfl
 | cons x xs =>
  rw [Go.Lib.join_cons]
  simp [Go.Lib.joinTail]
theorem cut_gen {α : Type} {xs : List α} {a b : Int} (h0 : 0 ≤ a) (h1 : a ≤ b) (h2 : b ≤ (xs.length : Int)) : cutI xs a b = some ((xs.drop a.toNat).take (b - a).toNat) := by
 unfold cutI
 rw [if_pos (by omega)]
 congr 1
 rw [List.drop_take, show b.toNat - a.toNat = (b - a).toNat by omega]
theorem brs_len (k : Nat) : ∀ (xs : List Int) (i : Nat), (∀ n ∈ xs, I64 n) → (brs k i xs).length ≤ xs.length * 22
 | [], _, _ => by simp [brs]
 | x :: xs, i, h => by
  have ih := brs_len k xs (i + 1) fun y hy => h y (List.mem_cons_of_mem _ hy)
  have h1 := itoa_len x (h x (List.mem_cons_self ..))
  unfold brs
  simp only [List.length_append, List.length_cons]
  rw [Nat.add_mul]
  split <;> simp <;> omega
theorem flat_len (xs : List Int) (h : ∀ n ∈ xs, I64 n) : ((xs.map Go.Lib.itoa).flatten).length ≤ xs.length * 21 := by
 induction xs with
 | nil => simp
 | cons x xs ih =>
  have h1 := itoa_len x (h x (List.mem_cons_self ..))
  have := ih fun y hy => h y (List.mem_cons_of_mem _ hy)
  simp only [List.map_cons, List.flatten_cons, List.length_append, List.length_cons]
  omega
theorem join_itoa (s : List Int) (hs : s.length ≤ 3) (hi : ∀ n ∈ s, I64 n) : m_strings_Join (s.map itoaB) (⟨#[]⟩ : ByteArray) = some (bs ((s.map Go.Lib.itoa).flatten)) := by
 have hl := flat_len s hi
 have e : Go.Lib.join ((s.map itoaB).map (·.data.toList)) (⟨#[]⟩ : ByteArray).data.toList = (s.map Go.Lib.itoa).flatten := by rw [data_itoaB]; exact join_flat _
 unfold m_strings_Join
 rw [e, if_pos ⟨by rw [List.length_map]; omega, by omega⟩]
 rfl
theorem barred_eq (vs : List Int) (hs : vs.length ≤ 3) (hi : ∀ n ∈ vs, I64 n) (k : Nat) (hk : k ≤ vs.length) : m_impl_barred (vs.map itoaB) (k : Int) = some (bs (brs k 0 vs)) := by
 have h1 : ((vs.map itoaB).drop (0 : Int).toNat).take ((k : Int) - 0).toNat = (vs.take k).map itoaB := by
  rw [show (0 : Int).toNat = 0 from rfl, List.drop_zero, show ((k : Int) - 0).toNat = k by omega, List.map_take]
 have t1 : ∀ n ∈ vs.take k, I64 n := fun n h => hi n (List.mem_of_mem_take h)
 have t2 : ∀ n ∈ vs.drop k, I64 n := fun n h => hi n (List.mem_of_mem_drop h)
 have l1 := flat_len _ t1
 have l2 := flat_len _ t2
 have s1 : (vs.take k).length ≤ 3 := by rw [List.length_take]; omega
 have s2 : (vs.drop k).length ≤ 3 := by rw [List.length_drop]; omega
 unfold m_impl_barred
 rw [cut_gen (by omega) (by omega) (by rw [List.length_map]; omega), Option.bind_some, h1, join_itoa _ s1 t1, Option.bind_some, brs_at k vs 0 (by omega), Nat.sub_zero, List.length_map]
 by_cases h : k < vs.length
 ·have h2 : ((vs.map itoaB).drop (k : Int).toNat).take ((vs.length : Int) - (k : Int)).toNat = (vs.drop k).map itoaB := by
   rw [Int.toNat_natCast, ← List.map_drop, List.take_of_length_le (by rw [List.length_map, List.length_drop]; omega)]
  rw [cond_T' (by simpa using h), cut_gen (by omega) (by omega) (by rw [List.length_map]; omega), Option.bind_some, h2, join_itoa _ s2 t2, Option.bind_some, if_pos h, show (⟨#[124]⟩ : ByteArray) = bs [124] from rfl, cat_bs _ _ (by simp only [List.length_cons, List.length_nil]; omega), Option.bind_some, cat_bs _ _ (by simp only [List.length_append, List.length_cons, List.length_nil]; omega)]
  rfl
 ·rw [cond_F' (by simpa using h), if_neg h, List.append_nil]
theorem spec_bars (u : Nat) (hu : ∀ n : Int, -9223372036854775808 ≤ n → n ≤ 9223372036854775807 → m_spec_FormatInt u n = some (itoaB n)) (vs : List Int) (hs : vs.length ≤ 3) (hi : ∀ n ∈ vs, I64 n) (key : Nat) : ∀ (d f i : Nat) (s : List UInt8), d < f → i + d = vs.length → s.length + (brs key i (vs.drop i)).length ≤ 9223372036854775807 →
  whileF (R := ByteArray) (fun (⟨s5, i6⟩ : ByteArray × Int) => cond (decide (i6 < (vs.length : Int))) (cond (decide (i6 = (key : Int))) ((catS s5 (⟨#[124]⟩ : ByteArray)).bind fun cat_12 => (getI vs i6).bind fun v_14 => (m_spec_FormatInt u v_14).bind fun r_19 => (catS cat_12 r_19).bind fun cat_21 => some (.next (cat_21, (w64 (i6 + 1))))) ((getI vs i6).bind fun v_23 => (m_spec_FormatInt u v_23).bind fun r_28 => (catS s5 r_28).bind fun cat_30 => some (.next (cat_30, (w64 (i6 + 1)))))) (some (.brk (s5, i6)))) f (bs s, (i : Int)) = some (.inl (bs (s ++ brs key i (vs.drop i)), (vs.length : Int)))
 | 0, f + 1, i, s, _, hk, hb => by
  have hk : i = vs.length := by omega
  subst hk
  unfold whileF
  simp only [Int.lt_irrefl, decide_false, cond_false, Option.bind_some, List.drop_length, brs, List.append_nil]
 | d + 1, f + 1, i, s, hf, hk, hb => by
  have hkl : i < vs.length := by omega
  have hc : vs.drop i = vs[i] :: vs.drop (i + 1) := List.drop_eq_getElem_cons hkl
  rw [hc] at hb ⊢
  unfold brs at hb ⊢
  have hn := hi vs[i] (List.getElem_mem hkl)
  have hF := hu vs[i] hn.1 hn.2
  have hw : w64 ((i : Int) + 1) = ((i + 1 : Nat) : Int) := by rw [w64_eq (by omega) (by omega)]; omega
  simp only [List.length_append] at hb
  unfold whileF
  simp only [show ((i : Int) < (vs.length : Int)) = True from eq_true (by omega), decide_true, cond_true]
  by_cases h0 : i = key
  ·simp only [if_pos h0, List.length_cons, List.length_nil] at hb ⊢
   rw [show decide ((i : Int) = (key : Int)) = true from decide_eq_true (by omega), cond_true, cat_c _ _ (by omega), Option.bind_some, getI_lt hkl, Option.bind_some, hF, Option.bind_some, show itoaB vs[i] = bs (Go.Lib.itoa vs[i]) from rfl, cat_bs _ _ (by simp only [List.length_append, List.length_cons, List.length_nil]; omega), Option.bind_some, Option.bind_some, hw]
   simp only
   rw [spec_bars u hu vs hs hi key d f (i + 1) _ (by omega) (by omega) (by simp only [List.length_append, List.length_cons, List.length_nil]; omega)]
   simp only [List.append_assoc]
  ·simp only [if_neg h0, List.length_nil, List.nil_append] at hb ⊢
   rw [show decide ((i : Int) = (key : Int)) = false from decide_eq_false (by omega), cond_false, getI_lt hkl, Option.bind_some, hF, Option.bind_some, show itoaB vs[i] = bs (Go.Lib.itoa vs[i]) from rfl, cat_bs _ _ (by omega), Option.bind_some, Option.bind_some, hw]
   simp only
   rw [spec_bars u hu vs hs hi key d f (i + 1) _ (by omega) (by omega) (by simp only [List.length_append]; omega)]
   simp only [List.append_assoc]
theorem impl_isFact (l : List Relation) (f : Fact) (bl b : Bool) (h1 : m_impl_AreValidRelations l = some bl) (h2 : m_impl_isFact l f = some b) : m_impl_IsValidFact l f = some (bl && b) := by
 unfold m_impl_IsValidFact
 rw [h1, Option.bind_some, h2]
 cases bl <;> rfl
theorem factFmt (u : Nat) (hu : ∀ n : Int, -9223372036854775808 ≤ n → n ≤ 9223372036854775807 → m_spec_FormatInt u n = some (itoaB n)) (hu2 : 1048576 < u) (l : List Relation) (f : Fact) (hf : f.values.length ≤ 1048576) (hl : ∀ r ∈ l, r.name.size ≤ 1048576) :
  ∃ s, m_impl_FormatFact l f = some s ∧ m_spec_FormatFact u l f = some s ∧ s.size ≤ 2097152 := by
 obtain ⟨bl, hbl⟩ := validRelations_tot l
 obtain ⟨b, h1, h2⟩ := isFact_eq l f
 obtain ⟨b', h3, h4⟩ := spec_isFact_eq u l f (by omega) hf
 have hv : b' = (bl && b) := by
  rw [Bool.eq_iff_iff, h4, Bool.and_eq_true, h2]
  exact ⟨fun ⟨x, y⟩ => ⟨Option.some.inj (hbl.symm.trans x), y⟩, fun ⟨x, y⟩ => ⟨x ▸ hbl, y⟩⟩
 have hi := impl_isFact l f bl b hbl h1
 unfold m_impl_FormatFact m_spec_FormatFact
 rw [hi, h3, hv, Option.bind_some, Option.bind_some]
 cases hb : (bl && b) with
 | false => exact ⟨_, rfl, rfl, by decide⟩
 | true =>
  have hb1 : bl = true ∧ b = true := by simpa using hb
  obtain ⟨n, r, hr, hln, ha, hvs⟩ := h2.1 hb1.2
  have hR := validRelations_ok (hb1.1 ▸ hbl) r (List.mem_of_getElem? hln)
  obtain ⟨k0, k1, a0, a1⟩ := hR
  have hname := hl r (List.mem_of_getElem? hln)
  have hlen : f.values.length ≤ 3 := by omega
  have h64 : ∀ v ∈ f.values, I64 v := fun v hv => by have := hvs v hv; unfold I64; omega
  obtain ⟨k, hk⟩ : ∃ k : Nat, r.keyLength = k := ⟨r.keyLength.toNat, by omega⟩
  have hkl : k ≤ f.values.length := by omega
  have hbr := brs_len k f.values 0 h64
  have hns : r.name = bs r.name.data.toList := (bs_eta _).symm
  have hnl : r.name.data.toList.length ≤ 1048576 := by rw [← bs_size, bs_eta]; exact hname
  have hget : getI l f.relation = some r := by rw [hr, getI_nat]; exact hln
  refine ⟨bs (r.name.data.toList ++ brs k 0 f.values), ?_, ?_, ?_⟩
  ·rw [cond_nt, app_map m_impl_FormatInt itoaB f.values 0 [] (fun n hn => impl_FormatInt_eq n (h64 n hn).1 (h64 n hn).2) (by simp only [List.length_nil]; omega), Option.bind_some, List.nil_append, hget, Option.bind_some, hk, barred_eq _ hlen h64 k hkl, Option.bind_some]
   rw [hns, cat_bs _ _ (by omega), bs_eta]; rfl
  ·rw [cond_nt, hget, Option.bind_some, hk]
   have e := spec_bars u hu f.values hlen h64 k f.values.length u 0 r.name.data.toList (by omega) (by omega) (by rw [List.drop_zero]; omega)
   rw [List.drop_zero, bs_eta] at e
   exact bind_to e rfl
  ·rw [bs_size, List.length_append]; omega
end Go.Proofs.YtaadmoaanhdboaaDoor
set_option linter.unusedVariables false
set_option linter.unusedSimpArgs false
namespace Go.Proofs.YtaadmoaanhdboaaDoor
open Go Go.Proofs Go.Sep
theorem toFact_id {f : Fact} (hf : f.values.length ≤ 1048576) : m_laws_toFact f = some f := by unfold m_laws_toFact; rw [toIntS_id _ hf]; rfl
theorem eqEdit_self (e : Edit) : m_laws_eqEdit e e = some true := by
 unfold m_laws_eqEdit
 rw [cond_F' (decide_eq_false fun h => h rfl), eqFact_self, Option.bind_some]; rfl
theorem toEdit_id {e : Edit} (h : e.fact.values.length ≤ 1048576) : m_laws_toEdit e = some e := by
 unfold m_laws_toEdit
 rw [toFact_id h]; rfl
theorem szEdit_b (e : Edit) (hf : e.fact.values.length ≤ 9223372036854775807) (left : Int) (h0 : 0 ≤ left) (h1 : left ≤ 1048576) : ∃ r, m_laws_szEdit e left = some r ∧ (r = -1 ∨ (0 ≤ r ∧ r ≤ left ∧ e.fact.values.length ≤ 1048576)) := by
 obtain ⟨y, h3, h4⟩ := szFact_b e.fact hf left h0 h1
 unfold m_laws_szEdit
 rw [h3, Option.bind_some]
 rcases h4 with rfl | h4
 ·exact ⟨_, rfl, .inl rfl⟩
 ·exact ⟨y, by rw [decide_eq_false (by omega)]; rfl, .inr h4⟩
end Go.Proofs.YtaadmoaanhdboaaDoor
set_option linter.unusedVariables false
set_option linter.unusedSimpArgs false
namespace Go.Proofs.YtaadmoaanhdboaaDoor
open Go Go.Proofs Go.Sep
theorem impl_signs (k : Int) (hk : 1 ≤ k ∧ k ≤ 3) : ∃ c : UInt8, cutB (⟨#[32, 43, 45, 33]⟩ : ByteArray) k (w64 (k + 1)) = some (⟨#[c]⟩ : ByteArray) ∧ getI ([(⟨#[43]⟩ : ByteArray), (⟨#[45]⟩ : ByteArray), (⟨#[33]⟩ : ByteArray)] : (List ByteArray)) (w64 (k - 1)) = some (⟨#[c]⟩ : ByteArray) := by
 have : k = 1 ∨ k = 2 ∨ k = 3 := by omega
 rcases this with rfl | rfl | rfl
 ·exact ⟨43, by decide +kernel, by decide +kernel⟩
 ·exact ⟨45, by decide +kernel, by decide +kernel⟩
 ·exact ⟨33, by decide +kernel, by decide +kernel⟩
theorem editFmt (u : Nat) (hu : ∀ n : Int, -9223372036854775808 ≤ n → n ≤ 9223372036854775807 → m_spec_FormatInt u n = some (itoaB n)) (hu2 : 1048576 < u) (d : Database) (e : Edit) (hf : e.fact.values.length ≤ 1048576) (hl : ∀ r ∈ d.relations, r.name.size ≤ 1048576) :
  ∃ s, m_impl_FormatEdit d e = some s ∧ m_spec_FormatEdit u d e = some s := by
 obtain ⟨s, h1, h2, h3⟩ := factFmt u hu hu2 d.relations e.fact hf hl
 unfold m_impl_FormatEdit m_spec_FormatEdit m_impl_within m_spec_l1In
 rw [h1, h2]
 simp only [Option.bind_some]
 by_cases hs : s = (⟨#[]⟩ : ByteArray)
 ·rw [decide_eq_true hs]
  exact ⟨_, rfl, rfl⟩
 ·rw [decide_eq_false hs]
  simp only [cond_false, Option.bind_some]
  by_cases hk : 1 ≤ e.kind ∧ e.kind ≤ 3
  ·obtain ⟨c, h4, h5⟩ := impl_signs e.kind hk
   have hz : ((decide (1 ≤ e.kind)) && (decide (e.kind ≤ 3))) = true := by simp [hk]
   have hcat : catS (⟨#[c]⟩ : ByteArray) s = some (bs ([c] ++ s.data.toList)) := by
    have : s = bs s.data.toList := (bs_eta s).symm
    conv => lhs; rw [this]
    refine cat_bs [c] _ ?_
    rw [← bs_size s.data.toList, bs_eta]
    simp only [List.length_cons, List.length_nil]; omega
   rw [hz, h4, h5]
   simp only [Bool.not_true, cond_false, Option.bind_some]
   exact ⟨bs ([c] ++ s.data.toList), bind_to hcat rfl, bind_to hcat rfl⟩
  ·have hz : ((decide (1 ≤ e.kind)) && (decide (e.kind ≤ 3))) = false := by
    rw [Bool.and_eq_false_iff, decide_eq_false_iff_not, decide_eq_false_iff_not]; omega
   rw [hz]
   exact ⟨_, rfl, rfl⟩
theorem edit_gen (u : Nat) (hu : ∀ n : Int, -9223372036854775808 ≤ n → n ≤ 9223372036854775807 → m_spec_FormatInt u n = some (itoaB n)) (hu2 : 1048576 < u) (d : Database) (e : Edit) (hd : DbM d) (he : e.fact.values.length ≤ 9223372036854775807) : m_laws_FnExactFormatEdit u d e = some true := by
 obtain ⟨r, h1, h2⟩ := szDatabase_b d hd 1048576 (by omega) (by omega)
 unfold m_laws_FnExactFormatEdit
 rw [h1, Option.bind_some]
 rcases h2 with rfl | ⟨h2, h3, h4⟩
 ·rfl
 ·rw [cond_F' (decide_eq_false (by omega))]
  obtain ⟨r2, h5, h6⟩ := szEdit_b e he r h2 h3
  rw [h5, Option.bind_some]
  rcases h6 with rfl | ⟨h6, h7, h8⟩
  ·rfl
  ·obtain ⟨s, h9, h10⟩ := editFmt u hu hu2 d e h8 h4.2.2.1
   rw [cond_F' (decide_eq_false (by omega)), toDatabase_id _ h4, Option.bind_some, toEdit_id h8, Option.bind_some, h10, Option.bind_some, Option.bind_some, Option.bind_some, h9, Option.bind_some, cond_F' (decide_eq_false fun h => h rfl), Option.bind_some, eqDatabase_self, Option.bind_some, cond_nt, Option.bind_some, eqEdit_self, Option.bind_some]
   rfl
theorem law_FormatEdit (d : Database) (e : Edit) (hd : DbM d) (he : e.fact.values.length ≤ 9223372036854775807) : m_laws_FnExactFormatEdit 1048578 d e = some true := edit_gen _ spec_FormatInt_eq (by omega) d e hd he
end Go.Proofs.YtaadmoaanhdboaaDoor

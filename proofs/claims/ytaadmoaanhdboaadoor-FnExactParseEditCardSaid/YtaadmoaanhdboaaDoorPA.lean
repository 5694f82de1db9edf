import Derived.Test.YtaadmoaanhdboaaDoorCRC
import Derived.Test.YtaadmoaanhdboaaDoorM0
import Derived.Lib.ItoaLen
set_option linter.unusedVariables false
set_option linter.unusedSimpArgs false
namespace Go.Proofs.YtaadmoaanhdboaaDoor
open Go Go.Proofs Go.Sep
theorem cond_nt {α : Type} {x y : α} : cond (!true) x y = y := rfl
theorem szIntS_b (a : List Int) (hl : a.length ≤ 9223372036854775807) (left : Int) (h0 : 0 ≤ left) (h1 : left ≤ 1048576) : ∃ r, m_laws_szIntS a left = some r ∧ (r = -1 ∨ (0 ≤ r ∧ r ≤ left ∧ a.length ≤ 1048576)) := by
 unfold m_laws_szIntS
 rw [w64_id (by omega)]
 by_cases h : left < a.length
 ·rw [cond_T' (by simp; omega)]; exact ⟨_, rfl, .inl rfl⟩
 ·rw [cond_F' (by simp; omega)]; exact ⟨_, rfl, .inr ⟨by omega, by omega, by omega⟩⟩
theorem szRelation_b (a : Relation) (hl : a.name.size ≤ 9223372036854775807) (left : Int) (h0 : 0 ≤ left) (h1 : left ≤ 1048576) : ∃ r, m_laws_szRelation a left = some r ∧ (r = -1 ∨ (0 ≤ r ∧ r ≤ left ∧ a.name.size ≤ 1048576)) := by
 unfold m_laws_szRelation
 rw [w64_id (by omega)]
 by_cases h : left < a.name.size
 ·rw [cond_T' (by simp; omega)]; exact ⟨_, rfl, .inl rfl⟩
 ·rw [cond_F' (by simp; omega)]; exact ⟨_, rfl, .inr ⟨by omega, by omega, by omega⟩⟩
theorem szFact_b (a : Fact) (hl : a.values.length ≤ 9223372036854775807) (left : Int) (h0 : 0 ≤ left) (h1 : left ≤ 1048576) : ∃ r, m_laws_szFact a left = some r ∧ (r = -1 ∨ (0 ≤ r ∧ r ≤ left ∧ a.values.length ≤ 1048576)) := by
 unfold m_laws_szFact
 obtain ⟨r, h2, h3⟩ := szIntS_b a.values hl left h0 h1
 rw [h2, Option.bind_some]
 rcases h3 with rfl | h3
 ·exact ⟨_, rfl, .inl rfl⟩
 ·rw [cond_F' (by simp; omega)]; exact ⟨_, rfl, .inr h3⟩
def DbM (d : Database) : Prop := d.relations.length ≤ 9223372036854775807 ∧ d.facts.length ≤ 9223372036854775807 ∧ (∀ r ∈ d.relations, r.name.size ≤ 9223372036854775807) ∧ ∀ f ∈ d.facts, f.values.length ≤ 9223372036854775807
def DbS (d : Database) : Prop := d.relations.length ≤ 1048576 ∧ d.facts.length ≤ 1048576 ∧ (∀ r ∈ d.relations, r.name.size ≤ 1048576) ∧ ∀ f ∈ d.facts, f.values.length ≤ 1048576
theorem szDatabase_b (d : Database) (hd : DbM d) (left : Int) (h0 : 0 ≤ left) (h1 : left ≤ 1048576) : ∃ r, m_laws_szDatabase d left = some r ∧ (r = -1 ∨ (0 ≤ r ∧ r ≤ left ∧ DbS d)) := by
 obtain ⟨r1, h2, h3⟩ := sz_loop (fun r : Relation => r.name.size ≤ 1048576) (a := d.relations) (fun x hx l => szRelation_b x (hd.2.2.1 x hx) l) h0 h1 hd.1
 have h2' : m_laws_szRelationS d.relations left = some r1 := h2
 unfold m_laws_szDatabase
 rw [h2', Option.bind_some]
 rcases h3 with rfl | ⟨h3, h4, h5⟩
 ·exact ⟨_, rfl, .inl rfl⟩
 ·rw [cond_F' (by simp; omega)]
  obtain ⟨r2, h6, h7⟩ := sz_loop (fun f : Fact => f.values.length ≤ 1048576) (a := d.facts) (fun x hx l => szFact_b x (hd.2.2.2 x hx) l) h3 (by omega) hd.2.1
  have h6' : m_laws_szFactS d.facts r1 = some r2 := h6
  rw [h6', Option.bind_some]
  rcases h7 with rfl | ⟨h7, h8, h9⟩
  ·exact ⟨_, rfl, .inl rfl⟩
  ·rw [cond_F' (by simp; omega)]; exact ⟨_, rfl, .inr ⟨h7, by omega, by omega, by omega, h5, h9⟩⟩
theorem toIntS_id (a : List Int) (hl : a.length ≤ 1048576) : m_laws_toIntS a = some a := by
 unfold m_laws_toIntS
 rw [mk_ok (by omega) (by omega), Option.bind_some, forS_fill (fun x => x) (by simp) fun n x zs hx hz => ?_]
 ·simp
 ·have hn : n < zs.length := by have := (List.getElem?_eq_some_iff.1 hx).1; omega
  rw [getI_lt hn]; simp
theorem toDatabase_id (d : Database) (hd : DbS d) : m_laws_toDatabase d = some d := by
 have h1 : m_laws_toRelationS d.relations = some d.relations := by
  have := to_loop (b := 32) (z := (default : Relation)) (g := m_laws_toRelation) (fun x => x) (a := d.relations) (fun x _ => rfl) hd.1 (by omega)
  rw [List.map_id'] at this; exact this
 have h2 : m_laws_toFactS d.facts = some d.facts := by
  have := to_loop (b := 32) (z := (default : Fact)) (g := m_laws_toFact) (fun x => x) (a := d.facts) (fun x hx => by unfold m_laws_toFact; rw [toIntS_id _ (hd.2.2.2 x hx)]; rfl) hd.2.1 (by omega)
  rw [List.map_id'] at this; exact this
 unfold m_laws_toDatabase
 rw [h1, Option.bind_some, h2, Option.bind_some]
theorem eqIntS_self (a : List Int) : m_laws_eqIntS a a = some true := by
 unfold m_laws_eqIntS
 rw [cond_F' (by simp)]
 obtain ⟨o, h1, h2⟩ := forL_ok (xs := a) (s := ()) (f := fun (i_2 : Int) (x_i_2 : Int) (_ : Unit) => (getI a (i_2 : Int)).bind fun v_4 => cond (decide (x_i_2 ≠ v_4)) (some (.ret false)) (some (.next ())))
  (fun _ _ => True) (fun _ => False) (fun (_ : Bool) => False) trivial fun n x s hx _ => by
   rw [getI_nat, hx, Option.bind_some, cond_F' (by simp)]
   exact ⟨_, rfl, trivial⟩
 rw [h1, Option.bind_some]
 cases o with
 | inl s => rfl
 | inr r => exact h2.elim
theorem eqRelation_self (a : Relation) : m_laws_eqRelation a a = some true := by simp [m_laws_eqRelation]
theorem eqFact_self (a : Fact) : m_laws_eqFact a a = some true := by
 unfold m_laws_eqFact
 rw [cond_F' (by simp), eqIntS_self]; rfl
theorem eqDatabase_self (d : Database) : m_laws_eqDatabase d d = some true := by
 have h1 : m_laws_eqRelationS d.relations d.relations = some true := eq_loop (fun x _ => eqRelation_self x)
 have h2 : m_laws_eqFactS d.facts d.facts = some true := eq_loop (fun x _ => eqFact_self x)
 unfold m_laws_eqDatabase
 rw [h1, Option.bind_some, h2]; rfl
theorem validRelation_tot (r : Relation) : ∃ b, m_impl_IsValidRelation r = some b := by
 unfold m_impl_IsValidRelation m_impl_within
 by_cases h : r.name.size = 1
 ·have hb : ∃ z, getB r.name 0 = some z := by
   have h0 : 0 < r.name.size := by omega
   exact ⟨((r.name[0]'h0).toNat : Int), by unfold getB; rw [if_pos (by omega)]; simp [h0]⟩
  obtain ⟨z, hz⟩ := hb
  rw [cond_T' (by simp [h])]
  simp only [hz, Option.bind_some]
  cases decide (97 ≤ z) <;> cases decide (z ≤ 122) <;> simp only [cond_true, cond_false, Option.bind_some] <;> first | exact ⟨_, rfl⟩ | skip
  cases (decide (1 ≤ r.arity) && decide (r.arity ≤ 3)) <;> exact ⟨_, rfl⟩
 ·rw [cond_F' (by simp; omega)]; exact ⟨_, rfl⟩
theorem validRelations_tot (l : List Relation) : ∃ b, m_impl_AreValidRelations l = some b := by
 unfold m_impl_AreValidRelations
 obtain ⟨o, h1, h2⟩ := forL_ok (xs := l) (s := ()) (f := fun (t_1 : Int) (x_t_1 : Relation) (_ : Unit) => ((m_impl_IsValidRelation x_t_1).bind fun r_5 => cond (!r_5) (some true) (cond (decide (0 < (t_1 : Int))) ((getI l ((t_1 : Int) - 1)).bind fun v_9 => some (!ltS v_9.name x_t_1.name)) (some false))).bind fun (t29 : Bool) => cond t29 (some (.ret false)) (some (.next ())))
  (fun _ _ => True) (fun _ => False) (fun (_ : Bool) => True) trivial fun n x s hx _ => by
   obtain ⟨b, hb⟩ := validRelation_tot x
   have hn : n < l.length := (List.getElem?_eq_some_iff.1 hx).1
   rw [hb, Option.bind_some]
   have key : ∃ t, cond (!b) (some true) (cond (decide (0 < (n : Int))) ((getI l ((n : Int) - 1)).bind fun v_9 => some (!ltS v_9.name x.name)) (some false)) = some t := by
    cases b with
    | false => exact ⟨_, rfl⟩
    | true =>
     by_cases h0 : 0 < n
     ·have e : (n : Int) - 1 = ((n - 1 : Nat) : Int) := by omega
      rw [cond_nt, cond_T' (by simpa using h0), e, getI_lt (show n - 1 < l.length by omega)]; exact ⟨_, rfl⟩
     ·rw [cond_nt, cond_F' (by simpa using h0)]; exact ⟨_, rfl⟩
   obtain ⟨t, ht⟩ := key
   rw [ht, Option.bind_some]
   cases t <;> exact ⟨_, rfl, trivial⟩
 rw [h1, Option.bind_some]
 cases o <;> exact ⟨_, rfl⟩
theorem spec_validRelations (l : List Relation) : m_spec_AreValidRelations l = m_impl_AreValidRelations l := rfl
def FactOK (l : List Relation) (f : Fact) : Prop := ∃ (n : Nat) (r : Relation), f.relation = n ∧ l[n]? = some r ∧ (f.values.length : Int) = r.arity ∧ ∀ v ∈ f.values, 0 ≤ v ∧ v ≤ 9
theorem areValues_eq (l : List Int) : ∃ b, m_impl_areValues l = some b ∧ (b = true ↔ ∀ v ∈ l, 0 ≤ v ∧ v ≤ 9) := by
 unfold m_impl_areValues m_slices_ContainsFunc_Sint_int m_slices_IndexFunc_Sint_int
 obtain ⟨o, h1, h2⟩ := forL_ok (xs := l) (s := ()) (f := fun (t_1 : Int) (x_t_1 : Int) (_ : Unit) => (m_impl_areValues_1 x_t_1).bind fun r_3 => cond r_3 (some (.ret (t_1 : Int))) (some (.next ())))
  (fun n _ => ∀ (j : Nat) x, j < n → l[j]? = some x → 0 ≤ x ∧ x ≤ 9) (fun _ => False) (fun r => 0 ≤ r ∧ ∃ x ∈ l, ¬ (0 ≤ x ∧ x ≤ 9)) (fun j x hj => by omega) fun n x s hx hI => by
   simp only [m_impl_areValues_1, m_impl_within, Option.bind_some]
   by_cases hp : 0 ≤ x ∧ x ≤ 9
   ·rw [cond_F' (by simp [hp])]
    refine ⟨_, rfl, fun j y hj hy => ?_⟩
    by_cases e : j = n
    ·subst e; rw [hx] at hy; cases hy; exact hp
    ·exact hI j y (by omega) hy
   ·rw [cond_T' (by simp; omega)]
    exact ⟨_, rfl, by omega, x, List.mem_of_getElem? hx, hp⟩
 rw [h1]
 cases o with
 | inl s =>
  refine ⟨_, rfl, ?_⟩
  have := h2.resolve_right id
  refine ⟨fun _ v hv => ?_, fun _ => by simp⟩
  obtain ⟨j, hj⟩ := List.getElem?_of_mem hv
  exact this j v (List.getElem?_eq_some_iff.1 hj).1 hj
 | inr r =>
  refine ⟨_, rfl, ?_⟩
  obtain ⟨h3, x, hx, hp⟩ := h2
  refine ⟨fun h => by simp at h; omega, fun h => (hp (h x hx)).elim⟩
theorem isFact_eq (l : List Relation) (f : Fact) : ∃ b, m_impl_isFact l f = some b ∧ (b = true ↔ FactOK l f) := by
 unfold m_impl_isFact m_impl_within
 simp only [Option.bind_some]
 by_cases h : 0 ≤ f.relation ∧ f.relation ≤ (l.length : Int) - 1
 ·rw [cond_T' (by simp [h])]
  obtain ⟨n, hn⟩ : ∃ n : Nat, f.relation = n := ⟨f.relation.toNat, by omega⟩
  have hnl : n < l.length := by omega
  rw [hn, getI_lt hnl, Option.bind_some]
  by_cases ha : (f.values.length : Int) = l[n].arity
  ·rw [cond_T' (by simpa using ha)]
   obtain ⟨b, h1, h2⟩ := areValues_eq f.values
   rw [h1]
   refine ⟨b, rfl, h2.trans ⟨fun hv => ⟨n, l[n], hn, List.getElem?_eq_getElem hnl, ha, hv⟩, fun ⟨_, _, _, _, _, hv⟩ => hv⟩⟩
  ·rw [cond_F' (by simpa using ha)]
   refine ⟨false, rfl, by simp, fun ⟨n', r, h3, h4, h5, _⟩ => ?_⟩
   have : n' = n := by omega
   subst this
   rw [List.getElem?_eq_getElem hnl] at h4; cases h4
   exact (ha h5).elim
 ·rw [cond_F' (by simp; omega)]
  refine ⟨false, rfl, by simp, fun ⟨n', r, h3, h4, _⟩ => ?_⟩
  have := (List.getElem?_eq_some_iff.1 h4).1
  omega
theorem spec_isFact_eq (u : Nat) (l : List Relation) (f : Fact) (hu : f.values.length < u) (hf : f.values.length ≤ 1048576) : ∃ b, m_spec_IsValidFact u l f = some b ∧ (b = true ↔ m_impl_AreValidRelations l = some true ∧ FactOK l f) := by
 unfold m_spec_IsValidFact m_spec_l1In
 rw [spec_validRelations]
 obtain ⟨bl, hbl⟩ := validRelations_tot l
 rw [hbl, Option.bind_some]
 cases bl with
 | false => exact ⟨false, rfl, by simp⟩
 | true =>
  rw [cond_nt]
  simp only [Option.bind_some]
  by_cases h : 0 ≤ f.relation ∧ f.relation ≤ (l.length : Int) - 1
  ·rw [cond_F' (by simp [h])]
   obtain ⟨n, hn⟩ : ∃ n : Nat, f.relation = n := ⟨f.relation.toNat, by omega⟩
   have hnl : n < l.length := by omega
   rw [hn, getI_lt hnl, Option.bind_some, Option.bind_some]
   by_cases ha : (f.values.length : Int) = l[n].arity
   ·rw [cond_F' (by simpa using ha)]
    obtain ⟨o, h1, h2⟩ := while_ok (f := fun (i5 : Int) => cond (decide (i5 < (f.values.length : Int))) ((getI f.values i5).bind fun v_18 => (some ((decide (0 ≤ v_18)) && (decide (v_18 ≤ 9)))).bind fun r_23 => cond (!r_23) (some (.ret false)) (some (.next (w64 (i5 + 1))))) (some (.brk i5)))
     (fun i => ∃ n : Nat, i = n ∧ n ≤ f.values.length ∧ ∀ (j : Nat) x, j < n → f.values[j]? = some x → 0 ≤ x ∧ x ≤ 9) (fun i => f.values.length - i.toNat) (fun i => ∀ v ∈ f.values, 0 ≤ v ∧ v ≤ 9) (fun (r : Bool) => r = false ∧ ¬ ∀ v ∈ f.values, 0 ≤ v ∧ v ≤ 9)
     (fun i ⟨n, hi, hn1, hI⟩ => by
      subst hi
      by_cases h : n < f.values.length
      ·rw [cond_T' (by simpa using h), getI_lt h, Option.bind_some, Option.bind_some]
       by_cases hp : 0 ≤ f.values[n] ∧ f.values[n] ≤ 9
       ·rw [cond_F' (by simp [hp]), w64_id (by omega)]
        refine ⟨_, rfl, ⟨n + 1, by omega, h, fun j x hj hx => ?_⟩, by omega⟩
        by_cases e : j = n
        ·subst e; rw [List.getElem?_eq_getElem h] at hx; cases hx; exact hp
        ·exact hI j x (by omega) hx
       ·rw [cond_T' (by simp; omega)]
        exact ⟨_, rfl, rfl, fun hv => hp (hv _ (List.getElem_mem h))⟩
      ·rw [cond_F' (by simpa using h)]
       refine ⟨_, rfl, fun v hv => ?_⟩
       obtain ⟨j, hj⟩ := List.getElem?_of_mem hv
       have := (List.getElem?_eq_some_iff.1 hj).1
       exact hI j v (by omega) hj)
     u 0 (by simpa using hu) ⟨0, rfl, by omega, fun j x hj => by omega⟩
    simp only [Option.bind_some] at h1
    rw [h1, Option.bind_some]
    cases o with
    | inl i => exact ⟨true, rfl, by simp; exact ⟨n, l[n], hn, List.getElem?_eq_getElem hnl, ha, h2⟩⟩
    | inr r =>
     obtain ⟨rfl, h3⟩ := h2
     exact ⟨false, rfl, by simp; rintro ⟨_, _, _, _, _, hv⟩; exact h3 hv⟩
   ·rw [cond_T' (by simpa using ha)]
    refine ⟨false, rfl, by simp, fun ⟨_, n', r, h3, h4, h5, _⟩ => ?_⟩
    have : n' = n := by omega
    subst this
    rw [List.getElem?_eq_getElem hnl] at h4; cases h4
    exact (ha h5).elim
  ·rw [cond_T' (by simp; omega)]
   refine ⟨false, rfl, by simp, fun ⟨_, n', r, h3, h4, _⟩ => ?_⟩
   have := (List.getElem?_eq_some_iff.1 h4).1
   omega
end Go.Proofs.YtaadmoaanhdboaaDoor
set_option linter.unusedVariables false
set_option linter.unusedSimpArgs false
namespace Go.Proofs.YtaadmoaanhdboaaDoor
open Go Go.Proofs Go.Sep
def RelOK (r : Relation) : Prop := 0 ≤ r.keyLength ∧ r.keyLength ≤ r.arity ∧ 1 ≤ r.arity ∧ r.arity ≤ 3
theorem validRelation_ok {r : Relation} (h : m_impl_IsValidRelation r = some true) : RelOK r := by
 unfold m_impl_IsValidRelation m_impl_within at h
 obtain ⟨t, h1, h2⟩ := bind_inv h
 have h2 : t = true := by simpa using h2
 subst h2
 by_cases hs : (r.name.size : Int) = 1
 ·rw [cond_T' (by simpa using hs)] at h1
  obtain ⟨b1, _, h3⟩ := bind_inv h1
  cases hd : decide (97 ≤ b1) with
  | false => rw [hd] at h3; simp at h3
  | true =>
   rw [hd, cond_T' rfl] at h3
   obtain ⟨b2, _, h4⟩ := bind_inv h3
   cases hd2 : decide (b2 ≤ 122) with
   | false => rw [hd2] at h4; simp at h4
   | true =>
    rw [hd2, cond_T' rfl] at h4
    simp only [Option.bind_some] at h4
    by_cases ha : 1 ≤ r.arity ∧ r.arity ≤ 3
    ·rw [cond_T' (by simp [ha])] at h4
     simp only [Option.some.injEq, Bool.and_eq_true, decide_eq_true_eq] at h4
     exact ⟨h4.1, h4.2, ha.1, ha.2⟩
    ·rw [cond_F' (by simp; omega)] at h4; simp at h4
 ·rw [cond_F' (by simpa using hs)] at h1; simp at h1
theorem validRelations_ok {l : List Relation} (h : m_impl_AreValidRelations l = some true) : ∀ r ∈ l, RelOK r := by
 unfold m_impl_AreValidRelations at h
 obtain ⟨o, h1, h2⟩ := forL_ok (xs := l) (s := ()) (f := fun (t_1 : Int) (x_t_1 : Relation) (_ : Unit) => ((m_impl_IsValidRelation x_t_1).bind fun r_5 => cond (!r_5) (some true) (cond (decide (0 < (t_1 : Int))) ((getI l ((t_1 : Int) - 1)).bind fun v_9 => some (!ltS v_9.name x_t_1.name)) (some false))).bind fun (t29 : Bool) => cond t29 (some (.ret false)) (some (.next ())))
  (fun n _ => ∀ (j : Nat) r, j < n → l[j]? = some r → RelOK r) (fun _ => False) (fun (r : Bool) => r = false) (fun j r hj => by omega) fun n x s hx hI => by
   obtain ⟨b, hb⟩ := validRelation_tot x
   have hn : n < l.length := (List.getElem?_eq_some_iff.1 hx).1
   rw [hb, Option.bind_some]
   cases b with
   | false => exact ⟨_, rfl, rfl⟩
   | true =>
    have key : ∃ t, (cond (decide (0 < (n : Int))) ((getI l ((n : Int) - 1)).bind fun v_9 => some (!ltS v_9.name x.name)) (some false)) = some t := by
     by_cases h0 : 0 < n
     ·have e : (n : Int) - 1 = ((n - 1 : Nat) : Int) := by omega
      rw [cond_T' (by simpa using h0), e, getI_lt (show n - 1 < l.length by omega)]; exact ⟨_, rfl⟩
     ·rw [cond_F' (by simpa using h0)]; exact ⟨_, rfl⟩
    obtain ⟨t, ht⟩ := key
    rw [cond_nt, ht, Option.bind_some]
    cases t with
    | true => exact ⟨_, rfl, rfl⟩
    | false =>
     refine ⟨_, rfl, fun j r hj hr => ?_⟩
     by_cases e : j = n
     ·subst e; rw [hx] at hr; cases hr; exact validRelation_ok hb
     ·exact hI j r (by omega) hr
 rw [h1, Option.bind_some] at h
 cases o with
 | inl s =>
  intro r hr
  obtain ⟨j, hj⟩ := List.getElem?_of_mem hr
  exact (h2.resolve_right id) j r (List.getElem?_eq_some_iff.1 hj).1 hj
 | inr r =>
  simp only [SumP] at h2
  subst h2; simp [onS] at h
end Go.Proofs.YtaadmoaanhdboaaDoor
set_option linter.unusedVariables false
set_option linter.unusedSimpArgs false
namespace Go.Proofs.YtaadmoaanhdboaaDoor
open Go Go.Proofs Go.Sep
theorem bytes_ext {x y : ByteArray} (h : x.data.toList = y.data.toList) : x = y := by
 cases x; cases y; simp at h; subst h; rfl
theorem bytes_app (x y : ByteArray) : (x ++ y).data.toList = x.data.toList ++ y.data.toList := by
 rw [ByteArray.data_append, Array.toList_append]
theorem str_one (z : Int) (h0 : 0 ≤ z) (h1 : z < 256) : strOf [IntKind.wrap .u8 z] = ⟨#[UInt8.ofNat z.toNat]⟩ := by
 have : IntKind.wrap .u8 z = z := by simp [IntKind.wrap, IntKind.bits, IntKind.signed]; omega
 rw [this]
 rfl
theorem tmod10 (n : Int) : n.tmod 10 = if 0 ≤ n then ((n.natAbs % 10 : Nat) : Int) else -((n.natAbs % 10 : Nat) : Int) := by
 obtain ⟨m, rfl | rfl⟩ := Int.eq_nat_or_neg n
 ·rw [if_pos (by omega), Int.natAbs_natCast]; exact (Int.ofNat_tmod m 10).symm
 ·rw [Int.natAbs_neg, Int.natAbs_natCast, Int.neg_tmod]
  have : (m : Int).tmod 10 = ((m % 10 : Nat) : Int) := (Int.ofNat_tmod m 10).symm
  rw [this]
  split
  ·omega
  ·rfl
theorem digit_neg (n : Int) (hn : n.tmod 10 < 0) : strOf ([(IntKind.wrap .u8 (w64 (48 + (w64 (-(n.tmod 10))))))] : (List Int)) = ⟨#[UInt8.ofNat (48 + n.natAbs % 10)]⟩ := by
 have h1 := tmod10 n
 have h3 : n.tmod 10 = -((n.natAbs % 10 : Nat) : Int) := by
  split at h1 <;> omega
 have h2 : n.natAbs % 10 < 10 := Nat.mod_lt _ (by decide)
 rw [h3, w64_eq (x := - -((n.natAbs % 10 : Nat) : Int)) (by omega) (by omega), w64_eq (by omega) (by omega), str_one _ (by omega) (by omega), show (48 + - -((n.natAbs % 10 : Nat) : Int)).toNat = 48 + n.natAbs % 10 by omega]
theorem digit_pos (n : Int) (hn : ¬ n.tmod 10 < 0) : strOf ([(IntKind.wrap .u8 (w64 (48 + (n.tmod 10))))] : (List Int)) = ⟨#[UInt8.ofNat (48 + n.natAbs % 10)]⟩ := by
 have h1 := tmod10 n
 have h3 : n.tmod 10 = ((n.natAbs % 10 : Nat) : Int) := by
  split at h1 <;> omega
 have h2 : n.natAbs % 10 < 10 := Nat.mod_lt _ (by decide)
 rw [h3, w64_eq (by omega) (by omega), str_one _ (by omega) (by omega), show (48 + ((n.natAbs % 10 : Nat) : Int)).toNat = 48 + n.natAbs % 10 by omega]
def digs (m : Nat) : List UInt8 := if m = 0 then [] else Go.Lib.decDigits m
theorem digs_step (m : Nat) (h : m ≠ 0) : digs m = digs (m / 10) ++ [UInt8.ofNat (48 + m % 10)] := by
 unfold digs
 rw [if_neg h, Go.Lib.decDigits]
 by_cases h1 : m < 10
 ·rw [dif_pos h1, if_pos (by omega), Nat.mod_eq_of_lt h1]; rfl
 ·rw [dif_neg h1, if_neg (by omega)]
theorem int_loop : ∀ (j f : Nat) (n : Int) (acc : ByteArray), j < f → n.natAbs < 10 ^ j → -9223372036854775808 ≤ n → n ≤ 9223372036854775807 → acc.size + j ≤ 1000 →
  whileF (R := ByteArray) (fun (⟨n0z, out3⟩ : Int × ByteArray) => cond (decide (n0z ≠ 0)) (cond (decide ((n0z.tmod 10) < 0)) ((catS (strOf ([(IntKind.wrap .u8 (w64 (48 + (w64 (-(n0z.tmod 10))))))] : (List Int))) out3).bind fun cat_5 => some (.next ((w64 (n0z.tdiv 10)), cat_5))) ((catS (strOf ([(IntKind.wrap .u8 (w64 (48 + (n0z.tmod 10))))] : (List Int))) out3).bind fun cat_7 => some (.next ((w64 (n0z.tdiv 10)), cat_7)))) (some (.brk (n0z, out3)))) f (n, acc) = some (.inl (0, ⟨(digs n.natAbs).toArray⟩ ++ acc))
 | j, f + 1, n, acc, hj, hm, h0, h1, ha => by
  unfold whileF
  by_cases hn : n = 0
  ·subst hn
   simp only [ne_eq, not_true_eq_false, decide_false, cond_false, Option.bind_some]
   have e : (⟨(digs (Int.natAbs 0)).toArray⟩ : ByteArray) ++ acc = acc := bytes_ext (by rw [bytes_app]; rfl)
   rw [e]
  ·have hj0 : 0 < j := by
    rcases j with _ | j
    ·simp at hm; omega
    ·omega
   obtain ⟨j, rfl⟩ : ∃ i, j = i + 1 := ⟨j - 1, by omega⟩
   have hq : (n.tdiv 10).natAbs = n.natAbs / 10 := by rw [Int.natAbs_tdiv]; rfl
   have hb0 : -9223372036854775808 ≤ n.tdiv 10 ∧ n.tdiv 10 ≤ 9223372036854775807 := by omega
   have key : ∀ s : ByteArray, s = ⟨#[UInt8.ofNat (48 + n.natAbs % 10)]⟩ → (catS s acc).bind (fun c => some (Ctl.next (R := ByteArray) ((w64 (n.tdiv 10)), c))) = some (.next (n.tdiv 10, s ++ acc)) := fun s hs => by
    have hz : s.size = 1 := by subst hs; rfl
    rw [catS_ok (by rw [hz]; omega), w64_eq hb0.1 hb0.2]; rfl
   have end_ : ∀ s : ByteArray, s = ⟨#[UInt8.ofNat (48 + n.natAbs % 10)]⟩ → (⟨(digs (n.tdiv 10).natAbs).toArray⟩ : ByteArray) ++ (s ++ acc) = ⟨(digs n.natAbs).toArray⟩ ++ acc := fun s hs => by
    refine bytes_ext ?_
    rw [bytes_app, bytes_app, bytes_app, digs_step n.natAbs (by omega), hq, hs]
    simp
   have ih := fun s (hs : s = (⟨#[UInt8.ofNat (48 + n.natAbs % 10)]⟩ : ByteArray)) => int_loop j f (n.tdiv 10) (s ++ acc) (by omega) (by rw [hq]; rw [Nat.pow_succ] at hm; omega) hb0.1 hb0.2 (by
    rw [ByteArray.size_append, hs]
    show 1 + acc.size + j ≤ 1000
    omega)
   simp only [ne_eq, hn, not_false_eq_true, decide_true, cond_true]
   by_cases hd : n.tmod 10 < 0
   ·have e := digit_neg n hd
    simp only [hd, decide_true, cond_true]
    rw [key _ e]
    simp only [Option.bind_some]
    rw [ih _ e, end_ _ e]
   ·have e := digit_pos n hd
    simp only [hd, decide_false, cond_false]
    rw [key _ e]
    simp only [Option.bind_some]
    rw [ih _ e, end_ _ e]
def itoaB (n : Int) : ByteArray := ⟨(Go.Lib.itoa n).toArray⟩
theorem impl_FormatInt_eq (n : Int) (h0 : -9223372036854775808 ≤ n) (h1 : n ≤ 9223372036854775807) : m_impl_FormatInt n = some (itoaB n) := by
 unfold m_impl_FormatInt m_strconv_Itoa
 rw [if_pos ⟨h0, h1⟩]; rfl
theorem spec_FormatInt_eq (n : Int) (h0 : -9223372036854775808 ≤ n) (h1 : n ≤ 9223372036854775807) : m_spec_FormatInt 1048578 n = some (itoaB n) := by
 unfold m_spec_FormatInt itoaB Go.Lib.itoa
 by_cases hn : n = 0
 ·subst hn
  simp only [decide_true, cond_true]
  rw [if_neg (by omega)]
  congr 2
  rw [show (0 : Int).toNat = 0 from rfl, Go.Lib.decDigits, dif_pos (by decide)]
  rfl
 ·simp only [hn, decide_false, cond_false]
  rw [int_loop 19 1048578 n _ (by omega) (by omega) h0 h1 (by decide)]
  simp only [Option.bind_some, onS]
  have hm : n.natAbs ≠ 0 := by omega
  by_cases hs : n < 0
  ·simp only [hs, decide_true, cond_true]
   have hd : (digs n.natAbs).length ≤ 21 := by
    have := Go.Lib.itoa_length_le n h0 h1
    unfold Go.Lib.itoa at this
    rw [if_pos hs] at this
    unfold digs; rw [if_neg hm]
    simp at this; omega
   rw [catS_ok (by
    rw [ByteArray.size_append]
    show 1 + ((digs n.natAbs).toArray.size + 0) ≤ _
    simp; omega)]
   simp only [Option.bind_some, if_true]
   congr 1
   refine bytes_ext ?_
   rw [bytes_app, bytes_app]
   unfold digs; rw [if_neg hm]
   simp
  ·simp only [hs, decide_false, cond_false, if_false]
   congr 1
   refine bytes_ext ?_
   rw [bytes_app]
   unfold digs; rw [if_neg hm, show n.natAbs = n.toNat by omega]
   simp
end Go.Proofs.YtaadmoaanhdboaaDoor
set_option linter.unusedVariables false
set_option linter.unusedSimpArgs false
namespace Go.Proofs.YtaadmoaanhdboaaDoor
open Go Go.Proofs Go.Sep
def I64 (n : Int) : Prop := -9223372036854775808 ≤ n ∧ n ≤ 9223372036854775807
def bs (l : List UInt8) : ByteArray := ⟨l.toArray⟩
theorem bs_size (l : List UInt8) : (bs l).size = l.length := by show l.toArray.size = _; simp
theorem bs_app (x y : List UInt8) : bs x ++ bs y = bs (x ++ y) := bytes_ext (by rw [bytes_app]; simp [bs])
theorem bs_eta (s : ByteArray) : bs s.data.toList = s := bytes_ext (by simp [bs])
theorem cat_bs (x y : List UInt8) (h : x.length + y.length ≤ 9223372036854775807) : catS (bs x) (bs y) = some (bs (x ++ y)) := by
 rw [catS_ok (by rw [bs_size, bs_size]; exact h), bs_app]
theorem cat_c (x : List UInt8) (c : UInt8) (h : x.length + 1 ≤ 9223372036854775807) : catS (bs x) (⟨#[c]⟩ : ByteArray) = some (bs (x ++ [c])) := cat_bs x [c] h
theorem itoa_len (n : Int) (h : I64 n) : (Go.Lib.itoa n).length ≤ 21 := Go.Lib.itoa_length_le n h.1 h.2
theorem app_map {α : Type} (f : α → Option ByteArray) (g : α → ByteArray) : ∀ (xs : List α) (i : Int) (acc : List ByteArray), (∀ x ∈ xs, f x = some (g x)) → (acc.length + xs.length) * 16 ≤ 140737488355328 →
  forS (fun (_ : Int) (x : α) (out : List ByteArray) => (f x).bind fun r => (app 16 out ([r] : List ByteArray)).bind fun us => some us) xs i acc = some (acc ++ xs.map g)
 | [], i, acc, _, _ => by simp [forS]
 | x :: xs, i, acc, h, hb => by
  unfold forS
  simp only [List.length_cons] at hb
  rw [h x (List.mem_cons_self ..), Option.bind_some, app_ok (by simp only [List.length_cons, List.length_nil]; omega), Option.bind_some, Option.bind_some, app_map f g xs (i + 1) _ (fun y hy => h y (List.mem_cons_of_mem _ hy)) (by simp only [List.length_append, List.length_cons, List.length_nil]; omega)]
  simp
theorem data_itoaB (r : List Int) : (r.map itoaB).map (·.data.toList) = r.map Go.Lib.itoa := by
 rw [List.map_map]
 refine List.map_congr_left fun n _ => ?_
 simp [itoaB]
theorem bind_to {α β : Type} {x : Option α} {a : α} {f : α → Option β} {r : Option β} (h : x = some a) (k : f a = r) : x.bind f = r := by rw [h]; exact k
end Go.Proofs.YtaadmoaanhdboaaDoor
set_option linter.unusedVariables false
set_option linter.unusedSimpArgs false
namespace Go.Proofs.YtaadmoaanhdboaaDoor
open Go Go.Proofs Go.Sep
def brs (k : Nat) : Nat → List Int → List UInt8
 | _, [] => []
 | i, x :: xs => (if i = k then [124] else []) ++ Go.Lib.itoa x ++ brs k (i + 1) xs
theorem brs_behind (k : Nat) : ∀ (xs : List Int) (i : Nat), k < i → brs k i xs = (xs.map Go.Lib.itoa).flatten
 | [], _, _ => rfl
 | x :: xs, i, h => by
  unfold brs
  rw [if_neg (by omega), brs_behind k xs (i + 1) (by omega)]
  simp
theorem brs_at (k : Nat) : ∀ (xs : List Int) (i : Nat), i ≤ k → brs k i xs = ((xs.take (k - i)).map Go.Lib.itoa).flatten ++ (if k - i < xs.length then [124] ++ ((xs.drop (k - i)).map Go.Lib.itoa).flatten else [])
 | [], i, h => by simp [brs]
 | x :: xs, i, h => by
  unfold brs
  by_cases e : i = k
  ·subst e
   rw [if_pos rfl, brs_behind i xs (i + 1) (by omega)]
   simp
  ·rw [if_neg e, brs_at k xs (i + 1) (by omega), show k - i = (k - (i + 1)) + 1 by omega]
   simp only [List.take_succ_cons, List.drop_succ_cons, List.map_cons, List.flatten_cons, List.length_cons, List.nil_append, List.append_assoc, Nat.add_lt_add_iff_right]
theorem join_flat (xs : List (List UInt8)) : Go.Lib.join xs [] = xs.flatten := by
 cases xs with
 | nil => rfl
 | cons x xs =>
  rw [Go.Lib.join_cons]
  simp [Go.Lib.joinTail]
theorem cut_gen {α : Type} {xs : List α} {a b : Int} (h0 : 0 ≤ a) (h1 : a ≤ b) (h2 : b ≤ (xs.length : Int)) : cutI xs a b = some ((xs.drop a.toNat).take (b - a).toNat) := by
 unfold cutI
 rw [if_pos (by omega)]
 congr 1
 rw [List.drop_take, show b.toNat - a.toNat = (b - a).toNat by omega]
theorem brs_len (k : Nat) : ∀ (xs : List Int) (i : Nat), (∀ n ∈ xs, I64 n) → (brs k i xs).length ≤ xs.length * 22
 | [], _, _ => by simp [brs]
 | x :: xs, i, h => by
  have ih := brs_len k xs (i + 1) fun y hy => h y (List.mem_cons_of_mem _ hy)
  have h1 := itoa_len x (h x (List.mem_cons_self ..))
  unfold brs
  simp only [List.length_append, List.length_cons]
  rw [Nat.add_mul]
  split <;> simp <;> omega
theorem flat_len (xs : List Int) (h : ∀ n ∈ xs, I64 n) : ((xs.map Go.Lib.itoa).flatten).length ≤ xs.length * 21 := by
 induction xs with
 | nil => simp
 | cons x xs ih =>
  have h1 := itoa_len x (h x (List.mem_cons_self ..))
  have := ih fun y hy => h y (List.mem_cons_of_mem _ hy)
  simp only [List.map_cons, List.flatten_cons, List.length_append, List.length_cons]
  omega
theorem join_itoa (s : List Int) (hs : s.length ≤ 3) (hi : ∀ n ∈ s, I64 n) : m_strings_Join (s.map itoaB) (⟨#[]⟩ : ByteArray) = some (bs ((s.map Go.Lib.itoa).flatten)) := by
 have hl := flat_len s hi
 have e : Go.Lib.join ((s.map itoaB).map (·.data.toList)) (⟨#[]⟩ : ByteArray).data.toList = (s.map Go.Lib.itoa).flatten := by rw [data_itoaB]; exact join_flat _
 unfold m_strings_Join
 rw [e, if_pos ⟨by rw [List.length_map]; omega, by omega⟩]
 rfl
theorem barred_eq (vs : List Int) (hs : vs.length ≤ 3) (hi : ∀ n ∈ vs, I64 n) (k : Nat) (hk : k ≤ vs.length) : m_impl_barred (vs.map itoaB) (k : Int) = some (bs (brs k 0 vs)) := by
 have h1 : ((vs.map itoaB).drop (0 : Int).toNat).take ((k : Int) - 0).toNat = (vs.take k).map itoaB := by
  rw [show (0 : Int).toNat = 0 from rfl, List.drop_zero, show ((k : Int) - 0).toNat = k by omega, List.map_take]
 have t1 : ∀ n ∈ vs.take k, I64 n := fun n h => hi n (List.mem_of_mem_take h)
 have t2 : ∀ n ∈ vs.drop k, I64 n := fun n h => hi n (List.mem_of_mem_drop h)
 have l1 := flat_len _ t1
 have l2 := flat_len _ t2
 have s1 : (vs.take k).length ≤ 3 := by rw [List.length_take]; omega
 have s2 : (vs.drop k).length ≤ 3 := by rw [List.length_drop]; omega
 unfold m_impl_barred
 rw [cut_gen (by omega) (by omega) (by rw [List.length_map]; omega), Option.bind_some, h1, join_itoa _ s1 t1, Option.bind_some, brs_at k vs 0 (by omega), Nat.sub_zero, List.length_map]
 by_cases h : k < vs.length
 ·have h2 : ((vs.map itoaB).drop (k : Int).toNat).take ((vs.length : Int) - (k : Int)).toNat = (vs.drop k).map itoaB := by
   rw [Int.toNat_natCast, ← List.map_drop, List.take_of_length_le (by rw [List.length_map, List.length_drop]; omega)]
  rw [cond_T' (by simpa using h), cut_gen (by omega) (by omega) (by rw [List.length_map]; omega), Option.bind_some, h2, join_itoa _ s2 t2, Option.bind_some, if_pos h, show (⟨#[124]⟩ : ByteArray) = bs [124] from rfl, cat_bs _ _ (by simp only [List.length_cons, List.length_nil]; omega), Option.bind_some, cat_bs _ _ (by simp only [List.length_append, List.length_cons, List.length_nil]; omega)]
  rfl
 ·rw [cond_F' (by simpa using h), if_neg h, List.append_nil]
theorem spec_bars (u : Nat) (hu : ∀ n : Int, -9223372036854775808 ≤ n → n ≤ 9223372036854775807 → m_spec_FormatInt u n = some (itoaB n)) (vs : List Int) (hs : vs.length ≤ 3) (hi : ∀ n ∈ vs, I64 n) (key : Nat) : ∀ (d f i : Nat) (s : List UInt8), d < f → i + d = vs.length → s.length + (brs key i (vs.drop i)).length ≤ 9223372036854775807 →
  whileF (R := ByteArray) (fun (⟨s5, i6⟩ : ByteArray × Int) => cond (decide (i6 < (vs.length : Int))) (cond (decide (i6 = (key : Int))) ((catS s5 (⟨#[124]⟩ : ByteArray)).bind fun cat_12 => (getI vs i6).bind fun v_14 => (m_spec_FormatInt u v_14).bind fun r_19 => (catS cat_12 r_19).bind fun cat_21 => some (.next (cat_21, (w64 (i6 + 1))))) ((getI vs i6).bind fun v_23 => (m_spec_FormatInt u v_23).bind fun r_28 => (catS s5 r_28).bind fun cat_30 => some (.next (cat_30, (w64 (i6 + 1)))))) (some (.brk (s5, i6)))) f (bs s, (i : Int)) = some (.inl (bs (s ++ brs key i (vs.drop i)), (vs.length : Int)))
 | 0, f + 1, i, s, _, hk, hb => by
  have hk : i = vs.length := by omega
  subst hk
  unfold whileF
  simp only [Int.lt_irrefl, decide_false, cond_false, Option.bind_some, List.drop_length, brs, List.append_nil]
 | d + 1, f + 1, i, s, hf, hk, hb => by
  have hkl : i < vs.length := by omega
  have hc : vs.drop i = vs[i] :: vs.drop (i + 1) := List.drop_eq_getElem_cons hkl
  rw [hc] at hb ⊢
  unfold brs at hb ⊢
  have hn := hi vs[i] (List.getElem_mem hkl)
  have hF := hu vs[i] hn.1 hn.2
  have hw : w64 ((i : Int) + 1) = ((i + 1 : Nat) : Int) := by rw [w64_eq (by omega) (by omega)]; omega
  simp only [List.length_append] at hb
  unfold whileF
  simp only [show ((i : Int) < (vs.length : Int)) = True from eq_true (by omega), decide_true, cond_true]
  by_cases h0 : i = key
  ·simp only [if_pos h0, List.length_cons, List.length_nil] at hb ⊢
   rw [show decide ((i : Int) = (key : Int)) = true from decide_eq_true (by omega), cond_true, cat_c _ _ (by omega), Option.bind_some, getI_lt hkl, Option.bind_some, hF, Option.bind_some, show itoaB vs[i] = bs (Go.Lib.itoa vs[i]) from rfl, cat_bs _ _ (by simp only [List.length_append, List.length_cons, List.length_nil]; omega), Option.bind_some, Option.bind_some, hw]
   simp only
   rw [spec_bars u hu vs hs hi key d f (i + 1) _ (by omega) (by omega) (by simp only [List.length_append, List.length_cons, List.length_nil]; omega)]
   simp only [List.append_assoc]
  ·simp only [if_neg h0, List.length_nil, List.nil_append] at hb ⊢
   rw [show decide ((i : Int) = (key : Int)) = false from decide_eq_false (by omega), cond_false, getI_lt hkl, Option.bind_some, hF, Option.bind_some, show itoaB vs[i] = bs (Go.Lib.itoa vs[i]) from rfl, cat_bs _ _ (by omega), Option.bind_some, Option.bind_some, hw]
   simp only
   rw [spec_bars u hu vs hs hi key d f (i + 1) _ (by omega) (by omega) (by simp only [List.length_append]; omega)]
   simp only [List.append_assoc]
theorem impl_isFact (l : List Relation) (f : Fact) (bl b : Bool) (h1 : m_impl_AreValidRelations l = some bl) (h2 : m_impl_isFact l f = some b) : m_impl_IsValidFact l f = some (bl && b) := by
 unfold m_impl_IsValidFact
 rw [h1, Option.bind_some, h2]
 cases bl <;> rfl
theorem factFmt (u : Nat) (hu : ∀ n : Int, -9223372036854775808 ≤ n → n ≤ 9223372036854775807 → m_spec_FormatInt u n = some (itoaB n)) (hu2 : 1048576 < u) (l : List Relation) (f : Fact) (hf : f.values.length ≤ 1048576) (hl : ∀ r ∈ l, r.name.size ≤ 1048576) :
  ∃ s, m_impl_FormatFact l f = some s ∧ m_spec_FormatFact u l f = some s ∧ s.size ≤ 2097152 := by
 obtain ⟨bl, hbl⟩ := validRelations_tot l
 obtain ⟨b, h1, h2⟩ := isFact_eq l f
 obtain ⟨b', h3, h4⟩ := spec_isFact_eq u l f (by omega) hf
 have hv : b' = (bl && b) := by
  rw [Bool.eq_iff_iff, h4, Bool.and_eq_true, h2]
  exact ⟨fun ⟨x, y⟩ => ⟨Option.some.inj (hbl.symm.trans x), y⟩, fun ⟨x, y⟩ => ⟨x ▸ hbl, y⟩⟩
 have hi := impl_isFact l f bl b hbl h1
 unfold m_impl_FormatFact m_spec_FormatFact
 rw [hi, h3, hv, Option.bind_some, Option.bind_some]
 cases hb : (bl && b) with
 | false => exact ⟨_, rfl, rfl, by decide⟩
 | true =>
  have hb1 : bl = true ∧ b = true := by simpa using hb
  obtain ⟨n, r, hr, hln, ha, hvs⟩ := h2.1 hb1.2
  have hR := validRelations_ok (hb1.1 ▸ hbl) r (List.mem_of_getElem? hln)
  obtain ⟨k0, k1, a0, a1⟩ := hR
  have hname := hl r (List.mem_of_getElem? hln)
  have hlen : f.values.length ≤ 3 := by omega
  have h64 : ∀ v ∈ f.values, I64 v := fun v hv => by have := hvs v hv; unfold I64; omega
  obtain ⟨k, hk⟩ : ∃ k : Nat, r.keyLength = k := ⟨r.keyLength.toNat, by omega⟩
  have hkl : k ≤ f.values.length := by omega
  have hbr := brs_len k f.values 0 h64
  have hns : r.name = bs r.name.data.toList := (bs_eta _).symm
  have hnl : r.name.data.toList.length ≤ 1048576 := by rw [← bs_size, bs_eta]; exact hname
  have hget : getI l f.relation = some r := by rw [hr, getI_nat]; exact hln
  refine ⟨bs (r.name.data.toList ++ brs k 0 f.values), ?_, ?_, ?_⟩
  ·rw [cond_nt, app_map m_impl_FormatInt itoaB f.values 0 [] (fun n hn => impl_FormatInt_eq n (h64 n hn).1 (h64 n hn).2) (by simp only [List.length_nil]; omega), Option.bind_some, List.nil_append, hget, Option.bind_some, hk, barred_eq _ hlen h64 k hkl, Option.bind_some]
   rw [hns, cat_bs _ _ (by omega), bs_eta]; rfl
  ·rw [cond_nt, hget, Option.bind_some, hk]
   have e := spec_bars u hu f.values hlen h64 k f.values.length u 0 r.name.data.toList (by omega) (by omega) (by rw [List.drop_zero]; omega)
   rw [List.drop_zero, bs_eta] at e
   exact bind_to e rfl
  ·rw [bs_size, List.length_append]; omega
end Go.Proofs.YtaadmoaanhdboaaDoor
set_option linter.unusedVariables false
set_option linter.unusedSimpArgs false
namespace Go.Proofs.YtaadmoaanhdboaaDoor
open Go Go.Proofs Go.Sep
theorem eqEdit_self (e : Edit) : m_laws_eqEdit e e = some true := by
 unfold m_laws_eqEdit
 rw [cond_F' (decide_eq_false fun h => h rfl), eqFact_self, Option.bind_some]; rfl
end Go.Proofs.YtaadmoaanhdboaaDoor
set_option linter.unusedVariables false
set_option linter.unusedSimpArgs false
namespace Go.Proofs.YtaadmoaanhdboaaDoor
open Go Go.Proofs Go.Sep
end Go.Proofs.YtaadmoaanhdboaaDoor
set_option linter.unusedVariables false
set_option linter.unusedSimpArgs false
namespace Go.Proofs.YtaadmoaanhdboaaDoor
open Go Go.Proofs Go.Sep
def marks (k : Int) (n : Nat) : List Int := (List.range n).map fun (i : Nat) => k + (i : Int)
theorem marks_len (k : Int) (n : Nat) : (marks k n).length = n := by simp [marks]
theorem marks_get (k : Int) (n i : Nat) (h : i < n) : (marks k n)[i]? = some (k + i) := by simp [marks, h]
theorem markIntS_eq (a : List Int) (k : Int) (h0 : 0 ≤ k) (h1 : k + a.length ≤ 4611686018427387904) : m_laws_markIntS a k = some (k + a.length, marks k a.length) := by
 unfold m_laws_markIntS
 obtain ⟨s, h2, h3⟩ := forM_ok (m := a.length) (s := (a, k)) (f := fun (i_1 : Int) (⟨a0m, k1⟩ : (List Int) × Int) => (getI a0m (i_1 : Int)).bind fun v_3 => some ((a0m.set ((i_1 : Int)).toNat k1), (w64 (k1 + 1))))
  (fun n s => s.2 = k + n ∧ s.1.length = a.length ∧ ∀ j, j < n → s.1[j]? = some (k + (j : Int))) ⟨by simp, rfl, fun j hj => by omega⟩ fun n s hn ⟨hk, hl, hI⟩ => by
   obtain ⟨xs, c⟩ := s
   simp only at hk hl hI
   refine ⟨(xs.set n c, c + 1), ?_, by simp only; omega, by simpa using hl, fun j hj => ?_⟩
   ·show ((getI xs (n : Int)).bind fun v_3 => some ((xs.set (n : Int).toNat c), (w64 (c + 1)))) = _
    rw [getI_lt (by omega), Option.bind_some, w64_id (by omega)]; rfl
   ·simp only
    by_cases e : n = j
    ·subst e; rw [List.getElem?_set_self (by omega), hk]
    ·rw [List.getElem?_set_ne e]; exact hI j (by omega)
 rw [h2, Option.bind_some]
 obtain ⟨xs, c⟩ := s
 obtain ⟨hk, hl, hI⟩ := h3
 simp only at hk hl hI
 show some (c, xs) = _
 rw [hk]
 congr 2
 apply List.ext_getElem?
 intro j
 by_cases hj : j < a.length
 ·rw [hI j hj, marks_get _ _ _ hj]
 ·rw [List.getElem?_eq_none (by omega), List.getElem?_eq_none (by rw [marks_len]; omega)]
theorem heldIntS_eq (k : Int) (n : Nat) (h0 : 0 ≤ k) (h1 : k + n ≤ 4611686018427387904) : m_laws_heldIntS (marks k n) k = some (k + n) := by
 unfold m_laws_heldIntS
 obtain ⟨o, h2, h3⟩ := forL_ok (xs := marks k n) (s := k) (f := fun (i_1 : Int) (x_i_1 : Int) (k1 : Int) => cond (decide (x_i_1 ≠ k1)) (some (.ret (-1))) (some (.next (w64 (k1 + 1)))))
  (fun j s => s = k + j) (fun _ => False) (fun (_ : Int) => False) (by simp) fun j x s hx hI => by
   have hj : j < n := by have := (List.getElem?_eq_some_iff.1 hx).1; rwa [marks_len] at this
   rw [marks_get _ _ _ hj] at hx
   cases hx
   refine ⟨.next (s + 1), ?_, by simp only [CtlP]; omega⟩
   rw [cond_F' (by simp [hI]), w64_id (by omega)]
 rw [h2, Option.bind_some]
 cases o with
 | inl s => have := h3.resolve_right id; rw [marks_len] at this; simp only [onS, this]
 | inr r => exact h3.elim
end Go.Proofs.YtaadmoaanhdboaaDoor
set_option linter.unusedVariables false
set_option linter.unusedSimpArgs false
namespace Go.Proofs.YtaadmoaanhdboaaDoor
open Go Go.Proofs Go.Sep
theorem strOf_one (z : Int) : (strOf [z]).size = 1 := by simp [strOf, ByteArray.size_push]
theorem markText_ok {u : Nat} (hu : 1048577 < u) {k : Int} (h0 : 0 ≤ k) (h1 : k ≤ 4611686018427387904) : Ok (m_laws_markText u k) fun _ => True := by
 unfold m_laws_markText
 refine .cond (fun _ => .ret trivial) fun _ => ?_
 refine .while (fun (s : Int × ByteArray) => ∃ m n : Nat, s.1 = (m : Int) ∧ m < 10 ^ n ∧ s.2.size + n ≤ 25 ∧ m ≤ 4611686018427387904) (fun (s : Int × ByteArray) => 25 - s.2.size) (fun (s : Int × ByteArray) => s.2.size ≤ 25) (fun _ => False) (by omega) ⟨k.toNat, 25, by simp only; omega, by have : (10 : Nat) ^ 25 = 10000000000000000000000000 := rfl; omega, Nat.le_refl 25, by omega⟩ (fun ⟨k, out⟩ ⟨m, n, g1, g2, g3, g4⟩ => ?_) (fun ⟨k, out⟩ h => ?_) (fun _ h => h.elim)
 ·simp only at g1 g3
  subst g1
  refine .cond (fun h => ?_) fun h => .brk (by simp only; omega)
  have hm : 0 < m := by have := of_decide_eq_true h; omega
  have hn : 0 < n := by
   rcases Nat.eq_zero_or_pos n with e | e
   ·subst e; simp at g2; omega
   ·exact e
  have hsz : (strOf [IntKind.wrap .u8 (w64 (48 + (m : Int).tmod 10))] ++ out).size = out.size + 1 := by
   rw [ByteArray.size_append, strOf_one]; omega
  refine .eq (catS_ok (by rw [strOf_one]; omega)) (.next ⟨⟨m / 10, n - 1, ?_, ?_, by simp only; rw [hsz]; omega, by omega⟩, by simp only; rw [hsz]; omega⟩)
  ·have e : (m : Int).tdiv 10 = ((m / 10 : Nat) : Int) := by rw [Int.tdiv_eq_ediv_of_nonneg (by omega)]; rfl
   simp only
   rw [e, w64_id (by omega)]
  ·have e : 10 ^ n = 10 * 10 ^ (n - 1) := by rw [← Nat.pow_succ', show (n - 1).succ = n by omega]
   rw [e] at g2
   exact Nat.div_lt_of_lt_mul g2
 ·simp only at h
  exact .eq (catS_ok (by show 1 + out.size ≤ _; omega)) (.ret trivial)
theorem markRelationS_ok {u : Nat} (hu : 1048577 < u) {a : List Relation} (ha : a.length ≤ 1048576) {k : Int} (h0 : 0 ≤ k) (h1 : k ≤ 1125899906842624) : Ok (m_laws_markRelationS u a k) fun r => 0 ≤ r.1 ∧ r.1 ≤ k + 3145728 := by
 unfold m_laws_markRelationS
 refine .forM (m := a.length) (fun n s => s.1.length = a.length ∧ s.2 = k + 3 * (n : Int)) ⟨rfl, by simp⟩ (fun n s hn hI => ?_) (fun s hI => .ret ⟨by have := hI.2; simp only; omega, by have := hI.2; simp only; omega⟩)
 obtain ⟨xs, c⟩ := s
 obtain ⟨hl, hc⟩ := hI
 simp only at hl hc ⊢
 have hx : n < xs.length := by omega
 refine .bind (markText_ok hu (by omega) (by omega)) fun t _ => .get rfl hx ?_
 simp only [Int.toNat_natCast]
 refine .get rfl (by simpa using hx) (.get rfl (by simpa using hx) (.ret ⟨by simpa using hl, ?_⟩))
 simp only
 rw [w64_id (x := c + 1) (by omega), w64_id (x := c + 1 + 1) (by omega), w64_id (by omega)]
 omega
theorem markFactS_ok {a : List Fact} (ha : a.length ≤ 1048576) (hv : ∀ f ∈ a, f.values.length ≤ 1048576) {k : Int} (h0 : 0 ≤ k) (h1 : k ≤ 1125899906842624) : Ok (m_laws_markFactS a k) fun r => 0 ≤ r.1 ∧ r.1 ≤ k + 1099512676352 := by
 unfold m_laws_markFactS
 refine .forM (m := a.length) (fun n s => s.1.length = a.length ∧ k ≤ s.2 ∧ s.2 ≤ k + 1048577 * (n : Int) ∧ ∀ f ∈ s.1, f.values.length ≤ 1048576) ⟨rfl, by simp, by simp, hv⟩ (fun n s hn hI => ?_) (fun s hI => .ret ⟨by have := hI.2; simp only; omega, by have := hI.2; simp only; omega⟩)
 obtain ⟨xs, c⟩ := s
 obtain ⟨hl, hc, hc2, hV⟩ := hI
 simp only at hl hc hc2 hV ⊢
 have hx : n < xs.length := by omega
 have hxv := hV _ (List.getElem_mem hx)
 refine .get rfl hx ?_
 simp only [Int.toNat_natCast]
 refine .get rfl (by simpa using hx) ?_
 rw [List.getElem_set_self, w64_id (by omega)]
 simp only
 refine .eq (markIntS_eq _ _ (by omega) (by omega)) (.ret ⟨by simpa using hl, by simp only; omega, by simp only; omega, fun f hf => ?_⟩)
 simp only [List.set_set] at hf
 rcases List.mem_or_eq_of_mem_set hf with h | rfl
 ·exact hV f h
 ·simp only [marks_len]; exact hxv
theorem markDatabase_ok {u : Nat} (hu : 1048577 < u) {d : Database} (hd : DbS d) : Ok (m_laws_markDatabase u d 1) fun r => 0 ≤ r.1 := by
 unfold m_laws_markDatabase
 exact .bind (markRelationS_ok hu hd.1 (by omega) (by omega)) fun r hr => .bind (markFactS_ok hd.2.1 hd.2.2.2 hr.1 (by omega)) fun r' hr' => .ret hr'.1
end Go.Proofs.YtaadmoaanhdboaaDoor
set_option linter.unusedVariables false
set_option linter.unusedSimpArgs false
namespace Go.Proofs.YtaadmoaanhdboaaDoor
open Go Go.Proofs Go.Sep
theorem relIx_eq (l : List Relation) (n : ByteArray) : m_impl_RelationIndex l n = m_spec_RelationIndex l n := by
 unfold m_impl_RelationIndex m_spec_RelationIndex m_slices_IndexFunc_Simpl_Relation_impl_Relation m_impl_RelationIndex_1
 have h : ∀ x : Option Int, x.bind (fun r => some r) = x := fun x => by cases x <;> rfl
 rw [h]
 rfl
theorem relIx_tot (l : List Relation) (n : ByteArray) : ∃ i, m_spec_RelationIndex l n = some i := by
 unfold m_spec_RelationIndex
 obtain ⟨o, h1, h2⟩ := forL_ok (xs := l) (s := ()) (f := fun (i_1 : Int) (x_i_1 : Relation) (_ : Unit) => cond (decide (x_i_1.name = n)) (some (.ret (i_1 : Int))) (some (.next ())))
  (fun _ _ => True) (fun _ => False) (fun (_ : Int) => True) trivial fun k x s hx _ => by
   cases decide (x.name = n)
   ·exact ⟨_, rfl, trivial⟩
   ·exact ⟨_, rfl, trivial⟩
 rw [h1, Option.bind_some]
 rcases o with s | r
 ·exact ⟨_, rfl⟩
 ·exact ⟨_, rfl⟩
theorem getB_bs (L : List UInt8) (i : Nat) (h : i < L.length) : getB (bs L) (i : Int) = some ((L[i].toNat : Int)) := by
 unfold getB
 rw [if_pos (by omega), Int.toNat_natCast]
 have : (bs L)[i]? = some L[i] := by
  have hs : i < (bs L).size := by rw [bs_size]; exact h
  rw [getElem?_pos (bs L) i hs]
  congr 1
 rw [this]; rfl
theorem cutB_bs (L : List UInt8) (a b : Nat) (h : a ≤ b) (hb : b ≤ L.length) : cutB (bs L) (a : Int) (b : Int) = some (bs ((L.drop a).take (b - a))) := by
 unfold cutB
 rw [if_pos (by rw [bs_size]; omega)]
 congr 1
 refine bytes_ext ?_
 rw [ByteArray.data_extract, Array.toList_extract]
 simp [bs, List.extract_eq_take_drop]
theorem parse_vals (L : List UInt8) (hL : L.length ≤ 1048576) : ∀ (k i : Nat) (vs : List Int), i + k ≤ L.length → vs.length + k ≤ 1048576 →
  ∃ vs', forM (fun (i_6 : Int) (box1_values : (List Int)) => (getB (bs L) (i_6 : Int)).bind fun b_9 => cond (decide (b_9 ≠ 124)) ((getB (bs L) (i_6 : Int)).bind fun b_12 => (app 8 box1_values ([(w64 ((w64 b_12) - 48))] : (List Int))).bind fun us_14 => some us_14) (some box1_values)) k (i : Int) vs = some vs' ∧ vs'.length ≤ 1048576
 | 0, i, vs, _, h => ⟨vs, rfl, by omega⟩
 | k + 1, i, vs, hk, h => by
  unfold Go.Sep.forM
  rw [getB_bs L i (by omega), Option.bind_some]
  have e : ((i : Int) + 1) = ((i + 1 : Nat) : Int) := by omega
  cases decide (((L[i]'(by omega)).toNat : Int) ≠ 124) with
  | true =>
   rw [cond_true, Option.bind_some, app_ok (by simp only [List.length_cons, List.length_nil]; omega), Option.bind_some, Option.bind_some, e]
   exact parse_vals L hL k (i + 1) _ (by omega) (by simp only [List.length_append, List.length_cons, List.length_nil]; omega)
  | false =>
   rw [cond_false, Option.bind_some, e]
   exact parse_vals L hL k (i + 1) _ (by omega) (by omega)
def zeroF : Fact := { relation := 0, values := ([] : (List Int)) }
theorem parseFact_both (u : Nat) (hu : ∀ n : Int, -9223372036854775808 ≤ n → n ≤ 9223372036854775807 → m_spec_FormatInt u n = some (itoaB n)) (hu2 : 1048576 < u) (l : List Relation) (hl : ∀ r ∈ l, r.name.size ≤ 1048576) (L : List UInt8) (hL : L.length ≤ 1048576) :
  ∃ P : Fact × Bool, m_impl_ParseFact l (bs L) = some P ∧ m_spec_ParseFact u l (bs L) = some P ∧ P.1.values.length ≤ 1048576 ∧ (P.2 = false → P.1 = zeroF) ∧ (P.2 = true → L ≠ [] ∧ m_spec_FormatFact u l P.1 = some (bs L)) := by
 unfold m_impl_ParseFact m_spec_ParseFact
 by_cases h0 : bs L = (⟨#[]⟩ : ByteArray)
 ·rw [decide_eq_true h0]
  exact ⟨_, rfl, rfl, by simp, fun _ => rfl, fun h => by cases h⟩
 ·rw [decide_eq_false h0, cond_false, cond_false]
  have hne : L ≠ [] := fun e => h0 (by subst e; rfl)
  have hpos : 0 < L.length := List.length_pos_iff.2 hne
  have hc := cutB_bs L 0 1 (by omega) hpos
  obtain ⟨ri, hri⟩ := relIx_tot l (bs ((L.drop 0).take (1 - 0)))
  obtain ⟨vs, hvs, hvl⟩ := parse_vals L hL (L.length - 1) 1 [] (by omega) (by simp only [List.length_nil]; omega)
  have hk : (((bs L).size : Int) - 1).toNat = L.length - 1 := by rw [bs_size]; omega
  obtain ⟨s, f1, f2, _⟩ := factFmt u hu hu2 l { relation := ri, values := vs } hvl hl
  have hc' : cutB (bs L) 0 1 = some (bs ((L.drop 0).take (1 - 0))) := hc
  have hvs' : forM (fun (i_6 : Int) (box1_values : (List Int)) => (getB (bs L) (i_6 : Int)).bind fun b_9 => cond (decide (b_9 ≠ 124)) ((getB (bs L) (i_6 : Int)).bind fun b_12 => (app 8 box1_values ([(w64 ((w64 b_12) - 48))] : (List Int))).bind fun us_14 => some us_14) (some box1_values)) (((bs L).size : Int) - 1).toNat 1 [] = some vs := by rw [hk]; exact hvs
  rw [hc', Option.bind_some, Option.bind_some, relIx_eq, hri, Option.bind_some, Option.bind_some, gN_ok (by rw [bs_size]; omega), Option.bind_some, Option.bind_some, hvs', Option.bind_some, Option.bind_some, f1, f2, Option.bind_some]
  by_cases hs : s = bs L
  ·rw [decide_eq_false (fun h => h hs)]
   exact ⟨_, rfl, rfl, hvl, fun h => (by cases h), fun _ => ⟨hne, by rw [← hs]; exact f2⟩⟩
  ·rw [decide_eq_true hs]
   exact ⟨_, rfl, rfl, by simp, fun _ => rfl, fun h => by cases h⟩
def zeroE : Edit := { kind := 0, fact := zeroF }
def resE (b : UInt8) (P : Fact × Bool) : Edit × Bool :=
 if P.2 = true then if b = 43 then ({ kind := 1, fact := P.1 }, true) else if b = 45 then ({ kind := 2, fact := P.1 }, true) else if b = 33 then ({ kind := 3, fact := P.1 }, true) else (zeroE, false) else (zeroE, false)
theorem whileF_one {S R : Type} (body : S → Option (Ctl S R)) (k : Nat) (s : S) : whileF body (k + 1) s = (body s).bind fun c => match c with
  | .next s' => whileF body k s'
  | .brk s' => some (.inl s')
  | .ret r => some (.inr r) := rfl
theorem while_next {S R : Type} {body : S → Option (Ctl S R)} {k : Nat} {s s' : S} (h : body s = some (.next s')) : whileF body (k + 1) s = whileF body k s' := by rw [whileF_one, h]; rfl
theorem while_brk {S R : Type} {body : S → Option (Ctl S R)} {k : Nat} {s s' : S} (h : body s = some (.brk s')) : whileF body (k + 1) s = some (.inl s') := by rw [whileF_one, h]; rfl
theorem while_ret {S R : Type} {body : S → Option (Ctl S R)} {k : Nat} {s : S} {r : R} (h : body s = some (.ret r)) : whileF body (k + 1) s = some (.inr r) := by rw [whileF_one, h]; rfl
def ctl3 {R : Type} (c : Option R) (k : Int) : Ctl Int R := match c with
 | some r => .ret r
 | none => .next k
def pick3 {R : Type} : Option R → Option R → Option R → Int ⊕ R
 | some r, _, _ => .inr r
 | none, some r, _ => .inr r
 | none, none, some r => .inr r
 | none, none, none => .inl 4
theorem three {R : Type} (body : Int → Option (Ctl Int R)) (u : Nat) (hu : 4 ≤ u) (c1 c2 c3 : Option R) (h1 : body 1 = some (ctl3 c1 2)) (h2 : body 2 = some (ctl3 c2 3)) (h3 : body 3 = some (ctl3 c3 4)) (h4 : body 4 = some (.brk 4)) : whileF body u 1 = some (pick3 c1 c2 c3) := by
 obtain ⟨k, rfl⟩ : ∃ k, u = k + 1 + 1 + 1 + 1 := ⟨u - 4, by omega⟩
 cases c1 with
 | some r => exact while_ret h1
 | none =>
  rw [while_next h1]
  cases c2 with
  | some r => exact while_ret h2
  | none =>
   rw [while_next h2]
   cases c3 with
   | some r => exact while_ret h3
   | none =>
    rw [while_next h3]
    exact while_brk h4
theorem sign_i (k : Nat) (c : UInt8) (hk : (k = 1 ∧ c = 43) ∨ (k = 2 ∧ c = 45) ∨ (k = 3 ∧ c = 33)) : getB (⟨#[32, 43, 45, 33]⟩ : ByteArray) (k : Int) = some (c.toNat : Int) := by
 rcases hk with ⟨rfl, rfl⟩ | ⟨rfl, rfl⟩ | ⟨rfl, rfl⟩ <;> decide +kernel
theorem sign_s (k : Nat) (c : UInt8) (hk : (k = 1 ∧ c = 43) ∨ (k = 2 ∧ c = 45) ∨ (k = 3 ∧ c = 33)) : getI ([(⟨#[43]⟩ : ByteArray), (⟨#[45]⟩ : ByteArray), (⟨#[33]⟩ : ByteArray)] : (List ByteArray)) (w64 ((k : Int) - 1)) = some (⟨#[c]⟩ : ByteArray) := by
 rcases hk with ⟨rfl, rfl⟩ | ⟨rfl, rfl⟩ | ⟨rfl, rfl⟩ <;> decide +kernel
theorem byte_ne (a b : UInt8) : decide ((a.toNat : Int) ≠ (b.toNat : Int)) = decide (a ≠ b) := by
 by_cases h : a = b
 ·subst h; simp
 ·rw [decide_eq_true h, decide_eq_true]
  intro e
  exact h (UInt8.toNat.inj (by omega))
theorem spec_FormatEdit_sign (u : Nat) (d : Database) (f : Fact) (T : List UInt8) (hT : T ≠ []) (hTl : T.length ≤ 1048576) (hF : m_spec_FormatFact u d.relations f = some (bs T)) (k : Nat) (c : UInt8) (hk : (k = 1 ∧ c = 43) ∨ (k = 2 ∧ c = 45) ∨ (k = 3 ∧ c = 33)) : m_spec_FormatEdit u d { kind := (k : Int), fact := f } = some (bs (c :: T)) := by
 unfold m_spec_FormatEdit m_spec_l1In
 have h0 : ¬ bs T = (⟨#[]⟩ : ByteArray) := fun e => by
  have := congrArg (fun x : ByteArray => x.data.toList) e
  exact hT (by simpa [bs] using this)
 have hz : ((decide (1 ≤ (k : Int))) && (decide ((k : Int) ≤ 3))) = true := by
  rw [Bool.and_eq_true, decide_eq_true_eq, decide_eq_true_eq]; omega
 have hc : catS (⟨#[c]⟩ : ByteArray) (bs T) = some (bs (c :: T)) := cat_bs [c] T (by simp only [List.length_cons, List.length_nil]; omega)
 simp only [hF, Option.bind_some, decide_eq_false h0, cond_false, hz, Bool.not_true, sign_s k c hk]
 exact bind_to hc rfl
theorem bs_inj {x y : List UInt8} (h : bs x = bs y) : x = y := by
 have := congrArg (fun x : ByteArray => x.data.toList) h
 simpa [bs] using this
def specBody (u : Nat) (d : Database) (s : ByteArray) : Int → Option (Ctl Int (Edit × Bool)) := fun (k6 : Int) => cond ((decide (k6 ≤ 3)) && (decide (s ≠ (⟨#[]⟩ : ByteArray)))) ((cutB s 1 (s.size : Int)).bind fun ss_6 => (m_spec_ParseFact u d.relations ss_6).bind fun r_8 => (cond r_8.2 ((m_spec_FormatEdit u d ({ kind := k6, fact := r_8.1 } : Edit)).bind fun r_13 => some (decide (r_13 = s))) (some false)).bind fun (t36_10 : Bool) => cond t36_10 (some (Ctl.ret (S := Int) (R := Edit × Bool) (({ kind := k6, fact := r_8.1 } : Edit), true))) (some (.next (w64 (k6 + 1))))) (some (.brk k6))
theorem spec_ParseEdit_eq (u : Nat) (hu3 : 4 ≤ u) (d : Database) (b : UInt8) (T : List UInt8) (hTl : T.length ≤ 1048576) (P : Fact × Bool) (hP : m_spec_ParseFact u d.relations (bs T) = some P) (hok : P.2 = true → T ≠ [] ∧ m_spec_FormatFact u d.relations P.1 = some (bs T)) : m_spec_ParseEdit u d (bs (b :: T)) = some (resE b P) := by
 have hne : ¬ bs (b :: T) = (⟨#[]⟩ : ByteArray) := fun e => by cases bs_inj (y := []) e
 have hcut : cutB (bs (b :: T)) 1 ((bs (b :: T)).size : Int) = some (bs T) := by
  have := cutB_bs (b :: T) 1 (b :: T).length (by simp) (Nat.le_refl _)
  rw [bs_size]
  refine this.trans ?_
  simp
 have step : ∀ (k : Nat) (c : UInt8), ((k = 1 ∧ c = 43) ∨ (k = 2 ∧ c = 45) ∨ (k = 3 ∧ c = 33)) →
   specBody u d (bs (b :: T)) (k : Int) = some (ctl3 (if P.2 = true ∧ b = c then some ((({ kind := (k : Int), fact := P.1 } : Edit), true) : Edit × Bool) else none) ((k : Int) + 1)) := fun k c hk => by
  have hz : ((decide ((k : Int) ≤ 3)) && (decide (bs (b :: T) ≠ (⟨#[]⟩ : ByteArray)))) = true := by
   rw [Bool.and_eq_true, decide_eq_true_eq, decide_eq_true_eq]; exact ⟨by omega, hne⟩
  have hw : w64 ((k : Int) + 1) = (k : Int) + 1 := w64_eq (by omega) (by omega)
  unfold specBody
  simp only [hz, cond_true, hcut, Option.bind_some, hP, hw]
  cases hp : P.2 with
  | false => simp [ctl3]
  | true =>
   obtain ⟨hT, hF⟩ := hok hp
   rw [spec_FormatEdit_sign u d P.1 T hT hTl hF k c hk]
   simp only [cond_true, Option.bind_some, true_and]
   by_cases hbc : b = c
   ·subst hbc
    simp [ctl3]
   ·have : ¬ bs (c :: T) = bs (b :: T) := fun e => hbc (by have := bs_inj e; simp at this; exact this.symm)
    simp [this, hbc, ctl3]
 have last : specBody u d (bs (b :: T)) 4 = some (.brk 4) := by
  simp [specBody]
 have h := three (specBody u d (bs (b :: T))) u hu3 (if P.2 = true ∧ b = 43 then some ((({ kind := 1, fact := P.1 } : Edit), true) : Edit × Bool) else none) (if P.2 = true ∧ b = 45 then some ((({ kind := 2, fact := P.1 } : Edit), true) : Edit × Bool) else none) (if P.2 = true ∧ b = 33 then some ((({ kind := 3, fact := P.1 } : Edit), true) : Edit × Bool) else none) (step 1 43 (by simp)) (step 2 45 (by simp)) (step 3 33 (by simp)) last
 unfold m_spec_ParseEdit
 refine bind_to h ?_
 unfold resE
 cases hp : P.2 with
 | false => simp [zeroE, zeroF, onS, pick3]
 | true =>
  simp only [true_and, if_true]
  by_cases h1 : b = 43
  ·subst h1; simp [onS, pick3]
  ·by_cases h2 : b = 45
   ·subst h2; simp [onS, pick3]
   ·by_cases h3 : b = 33
    ·subst h3; simp [onS, pick3]
    ·simp [h1, h2, h3, zeroE, zeroF, onS, pick3]
def implBody (d : Database) (s : ByteArray) : Int → Option (Ctl Int (Edit × Bool)) := fun (kind6 : Int) => cond ((decide (kind6 ≤ 3)) && (decide (s ≠ (⟨#[]⟩ : ByteArray)))) ((getB s 0).bind fun b_6 => (getB (⟨#[32, 43, 45, 33]⟩ : ByteArray) kind6).bind fun b_8 => cond (decide (b_6 ≠ b_8)) (some (Ctl.next (S := Int) (R := Edit × Bool) (w64 (kind6 + 1)))) ((cutB s 1 (s.size : Int)).bind fun ss_11 => (m_impl_ParseFact d.relations ss_11).bind fun r_13 => cond (!r_13.2) (some (.ret (({ kind := 0, fact := ({ relation := 0, values := ([] : (List Int)) } : Fact) } : Edit), false))) (some (.ret (({ kind := kind6, fact := r_13.1 } : Edit), true))))) (some (.brk kind6))
theorem impl_ParseEdit_eq (u : Nat) (hu3 : 4 ≤ u) (d : Database) (b : UInt8) (T : List UInt8) (hTl : T.length ≤ 1048576) (P : Fact × Bool) (hP : m_impl_ParseFact d.relations (bs T) = some P) : m_impl_ParseEdit u d (bs (b :: T)) = some (resE b P) := by
 have hne : ¬ bs (b :: T) = (⟨#[]⟩ : ByteArray) := fun e => by cases bs_inj (y := []) e
 have hcut : cutB (bs (b :: T)) 1 ((bs (b :: T)).size : Int) = some (bs T) := by
  have := cutB_bs (b :: T) 1 (b :: T).length (by simp) (Nat.le_refl _)
  rw [bs_size]
  refine this.trans ?_
  simp
 have hb0 : getB (bs (b :: T)) 0 = some (b.toNat : Int) := getB_bs (b :: T) 0 (by simp)
 have step : ∀ (k : Nat) (c : UInt8), ((k = 1 ∧ c = 43) ∨ (k = 2 ∧ c = 45) ∨ (k = 3 ∧ c = 33)) →
   implBody d (bs (b :: T)) (k : Int) = some (ctl3 (if b = c then some (if P.2 = true then ((({ kind := (k : Int), fact := P.1 } : Edit), true) : Edit × Bool) else (zeroE, false)) else none) ((k : Int) + 1)) := fun k c hk => by
  have hz : ((decide ((k : Int) ≤ 3)) && (decide (bs (b :: T) ≠ (⟨#[]⟩ : ByteArray)))) = true := by
   rw [Bool.and_eq_true, decide_eq_true_eq, decide_eq_true_eq]; exact ⟨by omega, hne⟩
  have hw : w64 ((k : Int) + 1) = (k : Int) + 1 := w64_eq (by omega) (by omega)
  unfold implBody
  simp only [hz, cond_true, hb0, Option.bind_some, sign_i k c hk, byte_ne, hcut, hP, hw]
  by_cases hbc : b = c
  ·subst hbc
   cases hp : P.2 <;> simp [zeroE, zeroF, ctl3]
  ·simp [hbc, ctl3]
 have last : implBody d (bs (b :: T)) 4 = some (.brk 4) := by
  simp [implBody]
 have h := three (implBody d (bs (b :: T))) u hu3 (if b = 43 then some (if P.2 = true then ((({ kind := 1, fact := P.1 } : Edit), true) : Edit × Bool) else (zeroE, false)) else none) (if b = 45 then some (if P.2 = true then ((({ kind := 2, fact := P.1 } : Edit), true) : Edit × Bool) else (zeroE, false)) else none) (if b = 33 then some (if P.2 = true then ((({ kind := 3, fact := P.1 } : Edit), true) : Edit × Bool) else (zeroE, false)) else none) (step 1 43 (by simp)) (step 2 45 (by simp)) (step 3 33 (by simp)) last
 unfold m_impl_ParseEdit
 refine bind_to h ?_
 unfold resE
 by_cases h1 : b = 43
 ·subst h1; cases P.2 <;> simp [onS, pick3]
 ·by_cases h2 : b = 45
  ·subst h2; cases P.2 <;> simp [onS, pick3]
  ·by_cases h3 : b = 33
   ·subst h3; cases P.2 <;> simp [onS, pick3]
   ·cases P.2 <;> simp [h1, h2, h3, zeroE, zeroF, onS, pick3]
theorem impl_ParseEdit_nil (u : Nat) (hu : 1 ≤ u) (d : Database) : m_impl_ParseEdit u d (⟨#[]⟩ : ByteArray) = some (zeroE, false) := by
 obtain ⟨k, rfl⟩ : ∃ k, u = k + 1 := ⟨u - 1, by omega⟩
 unfold m_impl_ParseEdit
 exact bind_to (while_brk (s' := 1) (by simp)) rfl
theorem spec_ParseEdit_nil (u : Nat) (hu : 1 ≤ u) (d : Database) : m_spec_ParseEdit u d (⟨#[]⟩ : ByteArray) = some (zeroE, false) := by
 obtain ⟨k, rfl⟩ : ∃ k, u = k + 1 := ⟨u - 1, by omega⟩
 unfold m_spec_ParseEdit
 exact bind_to (while_brk (s' := 1) (by simp)) rfl
theorem parse_both (u : Nat) (hu : ∀ n : Int, -9223372036854775808 ≤ n → n ≤ 9223372036854775807 → m_spec_FormatInt u n = some (itoaB n)) (hu2 : 1048577 < u) (d : Database) (hd : DbS d) (s : ByteArray) (hs : s.size ≤ 1048576) : ∃ r, m_impl_ParseEdit u d s = some r ∧ m_spec_ParseEdit u d s = some r ∧ r.1.fact.values.length ≤ 1048576 := by
 have e : s = bs s.data.toList := (bs_eta s).symm
 have hl : s.data.toList.length ≤ 1048576 := by rw [← bs_size, bs_eta]; exact hs
 rw [e]
 cases hL : s.data.toList with
 | nil => exact ⟨_, impl_ParseEdit_nil u (by omega) d, spec_ParseEdit_nil u (by omega) d, by simp [zeroE, zeroF]⟩
 | cons b T =>
  rw [hL] at hl
  simp only [List.length_cons] at hl
  obtain ⟨P, h1, h2, h3, h4, h5⟩ := parseFact_both u hu (by omega) d.relations hd.2.2.1 T (by omega)
  refine ⟨resE b P, impl_ParseEdit_eq u (by omega) d b T (by omega) P h1, spec_ParseEdit_eq u (by omega) d b T (by omega) P h2 h5, ?_⟩
  unfold resE
  repeat' split
  all_goals first | exact h3 | simp [zeroE, zeroF]
theorem markEdit_eq (e : Edit) (he : e.fact.values.length ≤ 1048576) : m_laws_markEdit e 1 = some (1 + (e.fact.values.length : Int), { kind := e.kind, fact := { relation := e.fact.relation, values := marks 1 e.fact.values.length } }) := by
 unfold m_laws_markEdit m_laws_markFact
 rw [markIntS_eq _ _ (by omega) (by omega)]
 rfl
theorem heldEdit_eq (k r : Int) (n : Nat) (hn : n ≤ 1048576) : m_laws_heldEdit { kind := k, fact := { relation := r, values := marks 1 n } } 1 = some (1 + (n : Int)) := by
 unfold m_laws_heldEdit m_laws_heldFact
 simp only
 rw [heldIntS_eq _ _ (by omega) (by omega), Option.bind_some, cond_F' (decide_eq_false (by omega)), Option.bind_some, cond_F' (decide_eq_false (by omega))]
theorem same_res (r : Edit × Bool) : ((m_laws_eqEdit r.1 r.1).bind fun r_15 => cond (!r_15) (some true) (some (r.2 != r.2))) = some false := by
 rw [eqEdit_self, Option.bind_some, cond_nt, bne_self_eq_false]
theorem parse_gen (u : Nat) (hu : ∀ n : Int, -9223372036854775808 ≤ n → n ≤ 9223372036854775807 → m_spec_FormatInt u n = some (itoaB n)) (hu2 : 1048577 < u) (d : Database) (s : ByteArray) (hd : DbM d) : m_laws_FnExactParseEdit u d s = some true := by
 unfold m_laws_FnExactParseEdit
 by_cases hs : (1048576 : Int) < (s.size : Int)
 ·rw [cond_T' (decide_eq_true hs)]
 ·rw [cond_F' (decide_eq_false hs)]
  obtain ⟨r, h1, h2⟩ := szDatabase_b d hd 1048576 (by omega) (by omega)
  rw [h1, Option.bind_some]
  rcases h2 with rfl | ⟨h2, h3, h4⟩
  ·rfl
  ·obtain ⟨P, p1, p2, p3⟩ := parse_both u hu hu2 d h4 s (by omega)
   obtain ⟨m, m1, m2⟩ := markDatabase_ok hu2 h4
   rw [cond_F' (decide_eq_false (by omega)), toDatabase_id _ h4, Option.bind_some, p2, Option.bind_some, Option.bind_some, p1, Option.bind_some, same_res, Option.bind_some, cond_false, Option.bind_some, eqDatabase_self, Option.bind_some, cond_nt, m1, Option.bind_some, cond_F' (decide_eq_false (by omega)), Option.bind_some, cond_false, markEdit_eq _ p3, Option.bind_some]
   simp only
   rw [heldEdit_eq _ _ _ p3, Option.bind_some, cond_F' (decide_eq_false (by omega)), cond_F' (decide_eq_false fun h => h rfl), Option.bind_some, p1, Option.bind_some, same_res, Option.bind_some, cond_false, Option.bind_some, cond_F' (decide_eq_false (by omega)), cond_F' (decide_eq_false fun h => h rfl)]
theorem law_ParseEdit (d : Database) (s : ByteArray) (hd : DbM d) : m_laws_FnExactParseEdit 1048578 d s = some true := parse_gen _ spec_FormatInt_eq (by omega) d s hd
end Go.Proofs.YtaadmoaanhdboaaDoor

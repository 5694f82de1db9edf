import Derived.Test.YtjdpolnakhmkmaaCRD
set_option linter.unusedVariables false
set_option maxRecDepth 4000
namespace Go.Proofs.Ytjdpolnakhmkmaa
open Go Go.Proofs Go.Sep
structure Fact where
  relation : Int
  values : (List Int)
instance : Inhabited Fact := ⟨⟨default, default⟩⟩
instance : DecidableEq Fact := fun a b => decidable_of_iff (a.relation = b.relation ∧ a.values = b.values) (by cases a; cases b; simp)
def RdFact (x : Fact) : Prop := (-9223372036854775808 ≤ x.relation ∧ x.relation ≤ 9223372036854775807) ∧ (x.values.length ≤ 9223372036854775807 ∧ ∀ yues ∈ x.values, (-9223372036854775808 ≤ yues ∧ yues ≤ 9223372036854775807))
def tFact : Ty Fact := tAs (fun x => (x.relation, x.values)) (tP tInt (tSl tInt))
structure Relation where
  name : ByteArray
  arity : Int
  keyLength : Int
instance : Inhabited Relation := ⟨⟨default, default, default⟩⟩
instance : DecidableEq Relation := fun a b => decidable_of_iff (a.name = b.name ∧ a.arity = b.arity ∧ a.keyLength = b.keyLength) (by cases a; cases b; simp)
def RdRelation (x : Relation) : Prop := x.name.size ≤ 9223372036854775807 ∧ ((-9223372036854775808 ≤ x.arity ∧ x.arity ≤ 9223372036854775807) ∧ (-9223372036854775808 ≤ x.keyLength ∧ x.keyLength ≤ 9223372036854775807))
def tRelation : Ty Relation := tAs (fun x => (x.name, (x.arity, x.keyLength))) (tP tStr (tP tInt tInt))
structure Database where
  relations : (List Relation)
  facts : (List Fact)
instance : Inhabited Database := ⟨⟨default, default⟩⟩
instance : DecidableEq Database := fun a b => decidable_of_iff (a.relations = b.relations ∧ a.facts = b.facts) (by cases a; cases b; simp)
def RdDatabase (x : Database) : Prop := (x.relations.length ≤ 9223372036854775807 ∧ ∀ yons ∈ x.relations, RdRelation yons) ∧ (x.facts.length ≤ 9223372036854775807 ∧ ∀ ycts ∈ x.facts, RdFact ycts)
def tDatabase : Ty Database := tAs (fun x => (x.relations, x.facts)) (tP (tSl tRelation) (tSl tFact))
structure Edit where
  kind : Int
  fact : Fact
instance : Inhabited Edit := ⟨⟨default, default⟩⟩
instance : DecidableEq Edit := fun a b => decidable_of_iff (a.kind = b.kind ∧ a.fact = b.fact) (by cases a; cases b; simp)
def RdEdit (x : Edit) : Prop := (-9223372036854775808 ≤ x.kind ∧ x.kind ≤ 9223372036854775807) ∧ RdFact x.fact
def tEdit : Ty Edit := tAs (fun x => (x.kind, x.fact)) (tP tInt tFact)
structure l1Cur where
  b : (List Int)
  i : Int
  h : Int
instance : Inhabited l1Cur := ⟨⟨default, default, default⟩⟩
instance : DecidableEq l1Cur := fun a b => decidable_of_iff (a.b = b.b ∧ a.i = b.i ∧ a.h = b.h) (by cases a; cases b; simp)
def m_laws_szIntS (a0 : (List Int)) (left1 : Int) : Option Int :=
  cond (decide ((w64 (left1 - (a0.length : Int))) < 0)) (some (-1)) (some (w64 (left1 - (a0.length : Int))))
def m_laws_szFact (a0 : Fact) (left1 : Int) : Option Int :=
  (m_laws_szIntS a0.values left1).bind fun r_1 => cond (decide (r_1 < 0)) (some (-1)) (some r_1)
def m_laws_szFactS (a0 : (List Fact)) (left1 : Int) : Option Int :=
  cond (decide ((w64 (left1 - (a0.length : Int))) < 0)) (some (-1)) ((forL (R := Int) (fun (i_2 : Int) (x_i_2 : Fact) (left1 : Int) => (m_laws_szFact x_i_2 left1).bind fun r_4 => cond (decide (r_4 < 0)) (some (.ret (-1))) (some (.next r_4))) a0 0 (w64 (left1 - (a0.length : Int)))).bind fun O3_ => onS O3_ (fun (left1 : Int) => some left1) (fun r => some r))
def m_laws_szRelation (a0 : Relation) (left1 : Int) : Option Int :=
  cond (decide ((w64 (left1 - (a0.name.size : Int))) < 0)) (some (-1)) (some (w64 (left1 - (a0.name.size : Int))))
def m_laws_szRelationS (a0 : (List Relation)) (left1 : Int) : Option Int :=
  cond (decide ((w64 (left1 - (a0.length : Int))) < 0)) (some (-1)) ((forL (R := Int) (fun (i_2 : Int) (x_i_2 : Relation) (left1 : Int) => (m_laws_szRelation x_i_2 left1).bind fun r_4 => cond (decide (r_4 < 0)) (some (.ret (-1))) (some (.next r_4))) a0 0 (w64 (left1 - (a0.length : Int)))).bind fun O3_ => onS O3_ (fun (left1 : Int) => some left1) (fun r => some r))
def m_laws_szDatabase (a0 : Database) (left1 : Int) : Option Int :=
  (m_laws_szRelationS a0.relations left1).bind fun r_1 => cond (decide (r_1 < 0)) (some (-1)) ((m_laws_szFactS a0.facts r_1).bind fun r_4 => cond (decide (r_4 < 0)) (some (-1)) (some r_4))
def m_laws_toIntS (a0 : (List Int)) : Option (List Int) :=
  (mk 8 (a0.length : Int) (0 : Int)).bind fun us_1 => (forS (fun (i_3 : Int) (x_i_3 : Int) (out3 : (List Int)) => (getI out3 (i_3 : Int)).bind fun v_5 => some (out3.set ((i_3 : Int)).toNat x_i_3)) a0 0 us_1).bind fun (out3 : (List Int)) => some out3
def m_laws_toFact (a0 : Fact) : Option Fact :=
  (m_laws_toIntS a0.values).bind fun r_1 => some ({ relation := a0.relation, values := r_1 } : Fact)
def m_laws_toFactS (a0 : (List Fact)) : Option (List Fact) :=
  (mk 32 (a0.length : Int) (default : Fact)).bind fun us_1 => (forS (fun (i_3 : Int) (x_i_3 : Fact) (out3 : (List Fact)) => (m_laws_toFact x_i_3).bind fun r_5 => (getI out3 (i_3 : Int)).bind fun v_7 => some (out3.set ((i_3 : Int)).toNat r_5)) a0 0 us_1).bind fun (out3 : (List Fact)) => some out3
def m_laws_toRelation (a0 : Relation) : Option Relation :=
  some a0
def m_laws_toRelationS (a0 : (List Relation)) : Option (List Relation) :=
  (mk 32 (a0.length : Int) (default : Relation)).bind fun us_1 => (forS (fun (i_3 : Int) (x_i_3 : Relation) (out3 : (List Relation)) => (m_laws_toRelation x_i_3).bind fun r_5 => (getI out3 (i_3 : Int)).bind fun v_7 => some (out3.set ((i_3 : Int)).toNat r_5)) a0 0 us_1).bind fun (out3 : (List Relation)) => some out3
def m_laws_toDatabase (a0 : Database) : Option Database :=
  (m_laws_toRelationS a0.relations).bind fun r_1 => (m_laws_toFactS a0.facts).bind fun r_3 => some ({ relations := r_1, facts := r_3 } : Database)
def m_laws_eqIntS (a0 : (List Int)) (b1 : (List Int)) : Option Bool :=
  cond (decide ((a0.length : Int) ≠ (b1.length : Int))) (some false) ((forL (R := Bool) (fun (i_2 : Int) (x_i_2 : Int) (_ : Unit) => (getI b1 (i_2 : Int)).bind fun v_4 => cond (decide (x_i_2 ≠ v_4)) (some (.ret false)) (some (.next ()))) a0 0 ()).bind fun O3_ => onS O3_ (fun (_ : Unit) => some true) (fun r => some r))
def m_laws_eqFact (a0 : Fact) (b1 : Fact) : Option Bool :=
  cond (decide (a0.relation ≠ b1.relation)) (some false) ((m_laws_eqIntS a0.values b1.values).bind fun r_2 => cond (!r_2) (some false) (some true))
def m_laws_eqFactS (a0 : (List Fact)) (b1 : (List Fact)) : Option Bool :=
  cond (decide ((a0.length : Int) ≠ (b1.length : Int))) (some false) ((forL (R := Bool) (fun (i_2 : Int) (x_i_2 : Fact) (_ : Unit) => (getI b1 (i_2 : Int)).bind fun v_4 => (m_laws_eqFact x_i_2 v_4).bind fun r_9 => cond (!r_9) (some (.ret false)) (some (.next ()))) a0 0 ()).bind fun O3_ => onS O3_ (fun (_ : Unit) => some true) (fun r => some r))
def m_laws_eqRelation (a0 : Relation) (b1 : Relation) : Option Bool :=
  cond (decide (a0.name ≠ b1.name)) (some false) (cond (decide (a0.arity ≠ b1.arity)) (some false) (cond (decide (a0.keyLength ≠ b1.keyLength)) (some false) (some true)))
def m_laws_eqRelationS (a0 : (List Relation)) (b1 : (List Relation)) : Option Bool :=
  cond (decide ((a0.length : Int) ≠ (b1.length : Int))) (some false) ((forL (R := Bool) (fun (i_2 : Int) (x_i_2 : Relation) (_ : Unit) => (getI b1 (i_2 : Int)).bind fun v_4 => (m_laws_eqRelation x_i_2 v_4).bind fun r_9 => cond (!r_9) (some (.ret false)) (some (.next ()))) a0 0 ()).bind fun O3_ => onS O3_ (fun (_ : Unit) => some true) (fun r => some r))
def m_laws_eqDatabase (a0 : Database) (b1 : Database) : Option Bool :=
  (m_laws_eqRelationS a0.relations b1.relations).bind fun r_1 => cond (!r_1) (some false) ((m_laws_eqFactS a0.facts b1.facts).bind fun r_4 => cond (!r_4) (some false) (some true))
def m_laws_markIntS (a0 : (List Int)) (k1 : Int) : Option (Int × (List Int)) :=
  (forM (fun (i_1 : Int) (⟨a0m, k1⟩ : (List Int) × Int) => (getI a0m (i_1 : Int)).bind fun v_3 => some ((a0m.set ((i_1 : Int)).toNat k1), (w64 (k1 + 1)))) ((a0.length : Int) - 0).toNat 0 (a0, k1)).bind fun (⟨a0m, k1⟩ : (List Int) × Int) => some (k1, a0m)
def m_laws_markFactS (a0 : (List Fact)) (k1 : Int) : Option (Int × (List Fact)) :=
  (forM (fun (i_1 : Int) (⟨a0m, k1⟩ : (List Fact) × Int) => (getI a0m (i_1 : Int)).bind fun v_3 => (getI (a0m.set ((i_1 : Int)).toNat ({ relation := k1, values := v_3.values } : Fact)) (i_1 : Int)).bind fun v_8 => (m_laws_markIntS v_8.values (w64 (k1 + 1))).bind fun r_13 => some (((a0m.set ((i_1 : Int)).toNat ({ relation := k1, values := v_3.values } : Fact)).set ((i_1 : Int)).toNat ({ relation := v_8.relation, values := r_13.2 } : Fact)), r_13.1)) ((a0.length : Int) - 0).toNat 0 (a0, k1)).bind fun (⟨a0m, k1⟩ : (List Fact) × Int) => some (k1, a0m)
def m_laws_markText (u : Nat) (k0 : Int) : Option ByteArray :=
  cond (decide (k0 ≤ 0)) (some (⟨#[109, 48]⟩ : ByteArray)) ((whileF (R := ByteArray) (fun (⟨k0, out3⟩ : Int × ByteArray) => cond (decide (0 < k0)) ((catS (strOf ([(IntKind.wrap .u8 (w64 (48 + (k0.tmod 10))))] : (List Int))) out3).bind fun cat_4 => some (.next ((w64 (k0.tdiv 10)), cat_4))) (some (.brk (k0, out3)))) u (k0, (⟨#[]⟩ : ByteArray))).bind fun O2_ => onS O2_ (fun (⟨k0, out3⟩ : Int × ByteArray) => (catS (⟨#[109]⟩ : ByteArray) out3).bind fun cat_6 => some cat_6) (fun r => none))
def m_laws_markRelationS (u : Nat) (a0 : (List Relation)) (k1 : Int) : Option (Int × (List Relation)) :=
  (forM (fun (i_1 : Int) (⟨a0m, k1⟩ : (List Relation) × Int) => (m_laws_markText u k1).bind fun r_3 => (getI a0m (i_1 : Int)).bind fun v_5 => (getI (a0m.set ((i_1 : Int)).toNat ({ name := r_3, arity := v_5.arity, keyLength := v_5.keyLength } : Relation)) (i_1 : Int)).bind fun v_10 => (getI ((a0m.set ((i_1 : Int)).toNat ({ name := r_3, arity := v_5.arity, keyLength := v_5.keyLength } : Relation)).set ((i_1 : Int)).toNat ({ name := v_10.name, arity := (w64 (k1 + 1)), keyLength := v_10.keyLength } : Relation)) (i_1 : Int)).bind fun v_15 => some ((((a0m.set ((i_1 : Int)).toNat ({ name := r_3, arity := v_5.arity, keyLength := v_5.keyLength } : Relation)).set ((i_1 : Int)).toNat ({ name := v_10.name, arity := (w64 (k1 + 1)), keyLength := v_10.keyLength } : Relation)).set ((i_1 : Int)).toNat ({ name := v_15.name, arity := v_15.arity, keyLength := (w64 ((w64 (k1 + 1)) + 1)) } : Relation)), (w64 ((w64 ((w64 (k1 + 1)) + 1)) + 1)))) ((a0.length : Int) - 0).toNat 0 (a0, k1)).bind fun (⟨a0m, k1⟩ : (List Relation) × Int) => some (k1, a0m)
def m_laws_markDatabase (u : Nat) (a0 : Database) (k1 : Int) : Option (Int × Database) :=
  (m_laws_markRelationS u a0.relations k1).bind fun r_1 => (m_laws_markFactS a0.facts r_1.1).bind fun r_5 => some (r_5.1, ({ relations := r_1.2, facts := r_5.2 } : Database))
def m_laws_szEdit (a0 : Edit) (left1 : Int) : Option Int :=
  (m_laws_szFact a0.fact left1).bind fun r_1 => cond (decide (r_1 < 0)) (some (-1)) (some r_1)
def m_laws_toEdit (a0 : Edit) : Option Edit :=
  (m_laws_toFact a0.fact).bind fun r_1 => some ({ kind := a0.kind, fact := r_1 } : Edit)
def m_laws_eqEdit (a0 : Edit) (b1 : Edit) : Option Bool :=
  cond (decide (a0.kind ≠ b1.kind)) (some false) ((m_laws_eqFact a0.fact b1.fact).bind fun r_2 => cond (!r_2) (some false) (some true))
def m_laws_markFact (a0 : Fact) (k1 : Int) : Option (Int × Fact) :=
  (m_laws_markIntS a0.values k1).bind fun r_1 => some (r_1.1, ({ relation := a0.relation, values := r_1.2 } : Fact))
def m_laws_markEdit (a0 : Edit) (k1 : Int) : Option (Int × Edit) :=
  (m_laws_markFact a0.fact k1).bind fun r_1 => some (r_1.1, ({ kind := a0.kind, fact := ({ relation := a0.fact.relation, values := r_1.2.values } : Fact) } : Edit))
def m_spec_l3Ints (u : Nat) (a0 : (List Int)) (b1 : (List Int)) : Option Int :=
  (whileF (R := Int) (fun (i5 : Int) => cond ((decide (i5 < (a0.length : Int))) && (decide (i5 < (b1.length : Int)))) ((getI a0 i5).bind fun v_6 => (getI b1 i5).bind fun v_11 => cond (decide (v_6 < v_11)) (some (.ret (-1))) (cond (decide (v_11 < v_6)) (some (.ret 1)) (some (.next (w64 (i5 + 1)))))) (some (.brk i5))) u 0).bind fun O1_ => onS O1_ (fun (i5 : Int) => cond (decide ((a0.length : Int) < (b1.length : Int))) (some (-1)) (cond (decide ((b1.length : Int) < (a0.length : Int))) (some 1) (some 0))) (fun r => some r)
def m_spec_CompareFacts (u : Nat) (a0 : Fact) (b1 : Fact) : Option Int :=
  cond (decide (a0.relation < b1.relation)) (some (-1)) (cond (decide (b1.relation < a0.relation)) (some 1) ((m_spec_l3Ints u a0.values b1.values).bind fun r_3 => some r_3))
def m_spec_l1In (x0 : Int) (low1 : Int) (high2 : Int) : Option Bool :=
  some ((decide (low1 ≤ x0)) && (decide (x0 ≤ high2)))
def m_spec_IsValidRelation (s0 : Relation) : Option Bool :=
  (cond (decide ((s0.name.size : Int) = 1)) ((getB s0.name 0).bind fun b_4 => cond (decide (97 ≤ b_4)) ((getB s0.name 0).bind fun b_7 => cond (decide (b_7 ≤ 122)) ((m_spec_l1In s0.arity 1 3).bind fun r_10 => cond r_10 ((m_spec_l1In s0.keyLength 0 s0.arity).bind fun r_13 => some r_13) (some false)) (some false)) (some false)) (some false)).bind fun (t2_1 : Bool) => some t2_1
def m_spec_AreValidRelations (l0 : (List Relation)) : Option Bool :=
  (forL (R := Bool) (fun (i_1 : Int) (x_i_1 : Relation) (_ : Unit) => ((m_spec_IsValidRelation x_i_1).bind fun r_5 => cond (!r_5) (some true) (cond (decide (0 < (i_1 : Int))) ((getI l0 ((i_1 : Int) - 1)).bind fun v_9 => some (!ltS v_9.name x_i_1.name)) (some false))).bind fun (t33_3 : Bool) => cond t33_3 (some (.ret false)) (some (.next ()))) l0 0 ()).bind fun O2_ => onS O2_ (fun (_ : Unit) => some (decide ((l0.length : Int) ≤ 4))) (fun r => some r)
def m_spec_IsValidFact (u : Nat) (l0 : (List Relation)) (f1 : Fact) : Option Bool :=
  ((m_spec_AreValidRelations l0).bind fun r_3 => cond (!r_3) (some true) ((m_spec_l1In f1.relation 0 ((l0.length : Int) - 1)).bind fun r_7 => cond (!r_7) (some true) ((getI l0 f1.relation).bind fun v_10 => some (decide ((f1.values.length : Int) ≠ v_10.arity))))).bind fun (t29_1 : Bool) => cond t29_1 (some false) ((whileF (R := Bool) (fun (i5 : Int) => cond (decide (i5 < (f1.values.length : Int))) ((getI f1.values i5).bind fun v_18 => (m_spec_l1In v_18 0 9).bind fun r_23 => cond (!r_23) (some (.ret false)) (some (.next (w64 (i5 + 1))))) (some (.brk i5))) u 0).bind fun O16_ => onS O16_ (fun (i5 : Int) => some true) (fun r => some r))
def m_spec_IsValidDatabase (u : Nat) (d0 : Database) : Option Bool :=
  (whileF (R := Bool) (fun (i3 : Int) => cond (decide (i3 < (d0.facts.length : Int))) (((getI d0.facts i3).bind fun v_5 => (m_spec_IsValidFact u d0.relations v_5).bind fun r_10 => cond (!r_10) (some true) (cond (decide (0 < i3)) ((getI d0.facts (w64 (i3 - 1))).bind fun v_14 => (m_spec_CompareFacts u v_14 v_5).bind fun r_19 => some (decide (0 ≤ r_19))) (some false))).bind fun (t38_3 : Bool) => cond t38_3 (some (.ret false)) (some (.next (w64 (i3 + 1))))) (some (.brk i3))) u 0).bind fun O1_ => onS O1_ (fun (i3 : Int) => ((m_spec_AreValidRelations d0.relations).bind fun r_24 => cond r_24 (some (decide ((d0.facts.length : Int) ≤ 14))) (some false)).bind fun (t2_22 : Bool) => some t2_22) (fun r => some r)
def m_spec_FactIndex (u : Nat) (d0 : Database) (f1 : Fact) : Option Int :=
  (whileF (R := Int) (fun (i5 : Int) => cond (decide (i5 < (d0.facts.length : Int))) ((getI d0.facts i5).bind fun v_3 => (m_spec_CompareFacts u v_3 f1).bind fun r_8 => cond (decide (r_8 = 0)) (some (.ret i5)) (some (.next (w64 (i5 + 1))))) (some (.brk i5))) u 0).bind fun O1_ => onS O1_ (fun (i5 : Int) => some (-1)) (fun r => some r)
def m_spec_ContainsFact (u : Nat) (d0 : Database) (f1 : Fact) : Option Bool :=
  ((m_spec_IsValidDatabase u d0).bind fun r_3 => cond r_3 ((m_spec_FactIndex u d0 f1).bind fun r_6 => some (decide (0 ≤ r_6))) (some false)).bind fun (t4_1 : Bool) => some t4_1
def m_spec_KeyOf (u : Nat) (l0 : (List Relation)) (f1 : Fact) : Option (List Int) :=
  (m_spec_IsValidFact u l0 f1).bind fun r_1 => cond (!r_1) (some ([] : (List Int))) ((getI l0 f1.relation).bind fun v_4 => (cutI f1.values 0 v_4.keyLength).bind fun ys_9 => (app 8 ([] : (List Int)) ys_9).bind fun us_11 => some us_11)
def m_spec_HaveSameKey (u : Nat) (l0 : (List Relation)) (a1 : Fact) (b2 : Fact) : Option Bool :=
  ((m_spec_IsValidFact u l0 a1).bind fun r_3 => cond r_3 ((m_spec_IsValidFact u l0 b2).bind fun r_6 => cond r_6 (cond (decide (a1.relation = b2.relation)) ((m_spec_KeyOf u l0 a1).bind fun r_10 => (m_spec_KeyOf u l0 b2).bind fun r_12 => (m_spec_l3Ints u r_10 r_12).bind fun r_14 => some (decide (r_14 = 0))) (some false)) (some false)) (some false)).bind fun (t6_1 : Bool) => some t6_1
def m_spec_BlockOf (u : Nat) (d0 : Database) (i1 : Int) : Option (List Int) :=
  (whileF (R := (List Int)) (fun (⟨out5, k6⟩ : (List Int) × Int) => (cond (decide (k6 < (d0.facts.length : Int))) ((m_spec_IsValidDatabase u d0).bind fun r_5 => cond r_5 ((m_spec_l1In i1 0 ((d0.facts.length : Int) - 1)).bind fun r_9 => some r_9) (some false)) (some false)).bind fun (t24_2 : Bool) => cond t24_2 ((getI d0.facts i1).bind fun v_12 => (getI d0.facts k6).bind fun v_17 => (m_spec_HaveSameKey u d0.relations v_12 v_17).bind fun r_22 => cond r_22 ((app 8 out5 ([k6] : (List Int))).bind fun us_25 => some (.next (us_25, (w64 (k6 + 1))))) (some (.next (out5, (w64 (k6 + 1)))))) (some (.brk (out5, k6)))) u (([] : (List Int)), 0)).bind fun O1_ => onS O1_ (fun (⟨out5, k6⟩ : (List Int) × Int) => some out5) (fun r => none)
def m_spec_l4Copy (u : Nat) (d0 : Database) : Option Database :=
  (app 32 ([] : (List Relation)) d0.relations).bind fun us_1 => (whileF (R := Database) (fun (⟨i4, box4_facts⟩ : Int × (List Fact)) => cond (decide (i4 < (d0.facts.length : Int))) ((getI d0.facts i4).bind fun v_5 => (app 8 ([] : (List Int)) v_5.values).bind fun us_10 => (app 32 box4_facts ([({ relation := v_5.relation, values := us_10 } : Fact)] : (List Fact))).bind fun us_12 => some (.next ((w64 (i4 + 1)), us_12))) (some (.brk (i4, box4_facts)))) u (0, ([] : (List Fact)))).bind fun O3_ => onS O3_ (fun (⟨i4, box4_facts⟩ : Int × (List Fact)) => some ({ relations := us_1, facts := box4_facts } : Database)) (fun r => none)
def m_spec_l7Has (l0 : (List Int)) (x1 : Int) : Option Bool :=
  (forL (R := Bool) (fun (i_1 : Int) (x_i_1 : Int) (_ : Unit) => cond (decide (x_i_1 = x1)) (some (.ret true)) (some (.next ()))) l0 0 ()).bind fun O2_ => onS O2_ (fun (_ : Unit) => some false) (fun r => some r)
def m_spec_l4Set (d0 : Database) (l1 : (List Int)) : Option Bool :=
  (forL (R := Bool) (fun (i_1 : Int) (x_i_1 : Int) (_ : Unit) => ((m_spec_l1In x_i_1 0 ((d0.facts.length : Int) - 1)).bind fun r_6 => cond (!r_6) (some true) (cond (decide (0 < (i_1 : Int))) ((getI l1 ((i_1 : Int) - 1)).bind fun v_10 => some (decide (x_i_1 ≤ v_10))) (some false))).bind fun (t37_3 : Bool) => cond t37_3 (some (.ret false)) (some (.next ()))) l1 0 ()).bind fun O2_ => onS O2_ (fun (_ : Unit) => some true) (fun r => some r)
def m_spec_SelectFacts (u : Nat) (d0 : Database) (l1 : (List Int)) : Option (Database × Bool) :=
  ((m_spec_IsValidDatabase u d0).bind fun r_3 => cond (!r_3) (some true) ((m_spec_l4Set d0 l1).bind fun r_6 => some (!r_6))).bind fun (t17_1 : Bool) => cond t17_1 (some (({ relations := [], facts := [] } : Database), false)) ((app 32 ([] : (List Relation)) d0.relations).bind fun us_9 => (forS (fun (i_11 : Int) (x_i_11 : Int) (box4_facts : (List Fact)) => (getI d0.facts x_i_11).bind fun v_13 => (app 8 ([] : (List Int)) v_13.values).bind fun us_18 => (app 32 box4_facts ([({ relation := v_13.relation, values := us_18 } : Fact)] : (List Fact))).bind fun us_20 => some us_20) l1 0 ([] : (List Fact))).bind fun (box4_facts : (List Fact)) => some (({ relations := us_9, facts := box4_facts } : Database), true))
def m_spec_ResolveConflict (u : Nat) (d0 : Database) (f1 : Fact) : Option (Database × Bool) :=
  (m_spec_ContainsFact u d0 f1).bind fun r_1 => cond (!r_1) ((m_spec_l4Copy u d0).bind fun r_4 => some (r_4, false)) ((m_spec_FactIndex u d0 f1).bind fun r_6 => (m_spec_BlockOf u d0 r_6).bind fun r_8 => (whileF (R := (Database × Bool)) (fun (⟨keep8, i9⟩ : (List Int) × Int) => cond (decide (i9 < (d0.facts.length : Int))) ((cond (decide (i9 = r_6)) (some true) ((m_spec_l7Has r_8 i9).bind fun r_15 => some (!r_15))).bind fun (t40_12 : Bool) => cond t40_12 ((app 8 keep8 ([i9] : (List Int))).bind fun us_18 => some (.next (us_18, (w64 (i9 + 1))))) (some (.next (keep8, (w64 (i9 + 1)))))) (some (.brk (keep8, i9)))) u (([] : (List Int)), 0)).bind fun O10_ => onS O10_ (fun (⟨keep8, i9⟩ : (List Int) × Int) => (m_spec_SelectFacts u d0 keep8).bind fun r_20 => some (r_20.1, true)) (fun r => none))
def m_spec_DeleteFact (u : Nat) (d0 : Database) (f1 : Fact) : Option (Database × Bool) :=
  (m_spec_l4Copy u d0).bind fun r_1 => (m_spec_ContainsFact u d0 f1).bind fun r_3 => cond (!r_3) (some (r_1, false)) ((m_spec_FactIndex u d0 f1).bind fun r_6 => (cutI r_1.facts 0 r_6).bind fun ys_8 => (app 32 ([] : (List Fact)) ys_8).bind fun us_17 => (cutI r_1.facts (w64 (r_6 + 1)) (r_1.facts.length : Int)).bind fun ys_19 => (app 32 us_17 ys_19).bind fun us_28 => some (({ relations := r_1.relations, facts := us_28 } : Database), true))
def m_spec_InsertFact (u : Nat) (d0 : Database) (f1 : Fact) : Option (Database × Bool) :=
  (m_spec_l4Copy u d0).bind fun r_1 => ((m_spec_IsValidDatabase u d0).bind fun r_5 => cond (!r_5) (some true) ((m_spec_IsValidFact u d0.relations f1).bind fun r_8 => cond (!r_8) (some true) ((m_spec_ContainsFact u d0 f1).bind fun r_11 => cond r_11 (some true) (some (decide ((d0.facts.length : Int) = 14)))))).bind fun (t31_3 : Bool) => cond t31_3 (some (r_1, false)) ((whileF (R := (Database × Bool)) (fun (k7 : Int) => (cond (decide (k7 < (r_1.facts.length : Int))) ((getI r_1.facts k7).bind fun v_19 => (m_spec_CompareFacts u v_19 f1).bind fun r_24 => some (decide (r_24 < 0))) (some false)).bind fun (t47_16 : Bool) => cond t47_16 (some (.next (w64 (k7 + 1)))) (some (.brk k7))) u 0).bind fun O15_ => onS O15_ (fun (k7 : Int) => (app 8 ([] : (List Int)) f1.values).bind fun us_27 => (cutI r_1.facts k7 (r_1.facts.length : Int)).bind fun ys_29 => (app 32 ([({ relation := f1.relation, values := us_27 } : Fact)] : (List Fact)) ys_29).bind fun us_38 => (cutI r_1.facts 0 k7).bind fun ys_40 => (app 32 ([] : (List Fact)) ys_40).bind fun us_49 => (app 32 us_49 us_38).bind fun us_51 => some (({ relations := r_1.relations, facts := us_51 } : Database), true)) (fun r => none))
def m_spec_ApplyEdit (u : Nat) (d0 : Database) (e1 : Edit) : Option (Database × Bool) :=
  (m_spec_l4Copy u d0).bind fun r_1 => cond (decide (e1.kind = 1)) ((m_spec_InsertFact u d0 e1.fact).bind fun r_4 => some (r_4.1, r_4.2)) (cond (decide (e1.kind = 2)) ((m_spec_DeleteFact u d0 e1.fact).bind fun r_7 => some (r_7.1, r_7.2)) (cond (decide (e1.kind = 3)) ((m_spec_ResolveConflict u d0 e1.fact).bind fun r_10 => some (r_10.1, r_10.2)) (some (r_1, false))))
def m_spec_InverseEdits (u : Nat) (d0 : Database) (e1 : Edit) : Option ((List Edit) × Bool) :=
  (m_spec_ApplyEdit u d0 e1).bind fun r_1 => cond (!r_1.2) (some (([] : (List Edit)), false)) ((whileF (R := ((List Edit) × Bool)) (fun (⟨out6, i9⟩ : (List Edit) × Int) => cond (decide (i9 < (r_1.1.facts.length : Int))) ((getI r_1.1.facts i9).bind fun v_6 => (m_spec_FactIndex u d0 v_6).bind fun r_11 => cond (decide (r_11 < 0)) ((app 40 out6 ([({ kind := 2, fact := v_6 } : Edit)] : (List Edit))).bind fun us_14 => some (.next (us_14, (w64 (i9 + 1))))) (some (.next (out6, (w64 (i9 + 1)))))) (some (.brk (out6, i9)))) u (([] : (List Edit)), 0)).bind fun O4_ => onS O4_ (fun (⟨out6, i9⟩ : (List Edit) × Int) => (whileF (R := ((List Edit) × Bool)) (fun (⟨out6, i10⟩ : (List Edit) × Int) => cond (decide (i10 < (d0.facts.length : Int))) ((getI d0.facts i10).bind fun v_18 => (m_spec_FactIndex u r_1.1 v_18).bind fun r_23 => cond (decide (r_23 < 0)) ((app 8 ([] : (List Int)) v_18.values).bind fun us_26 => (app 40 out6 ([({ kind := 1, fact := ({ relation := v_18.relation, values := us_26 } : Fact) } : Edit)] : (List Edit))).bind fun us_28 => some (.next (us_28, (w64 (i10 + 1))))) (some (.next (out6, (w64 (i10 + 1)))))) (some (.brk (out6, i10)))) u (out6, 0)).bind fun O16_ => onS O16_ (fun (⟨out6, i10⟩ : (List Edit) × Int) => some (out6, true)) (fun r => none)) (fun r => none))
def m_slices_IndexFunc_Simpl_Fact_impl_Fact (s0 : (List Fact)) (f1 : (Fact → Option Bool)) : Option Int :=
  (forL (R := Int) (fun (t_1 : Int) (x_t_1 : Fact) (_ : Unit) => (f1 x_t_1).bind fun r_3 => cond r_3 (some (.ret (t_1 : Int))) (some (.next ()))) s0 0 ()).bind fun O2_ => onS O2_ (fun (_ : Unit) => some (-1)) (fun r => some r)
def m_impl_compare (a0 : Int) (b1 : Int) : Option Int :=
  cond (decide (a0 < b1)) (some (-1)) (cond (decide (b1 < a0)) (some 1) (some 0))
def m_cmp_isNaN_int (x0 : Int) : Option Bool :=
  some (decide (x0 ≠ x0))
def m_cmp_Compare_int (x0 : Int) (y1 : Int) : Option Int :=
  (m_cmp_isNaN_int x0).bind fun r_1 => (m_cmp_isNaN_int y1).bind fun r_3 => cond r_1 (cond r_3 (some 0) (some (-1))) (cond r_3 (some 1) (cond (decide (x0 < y1)) (some (-1)) (cond (decide (y1 < x0)) (some 1) (some 0))))
def m_slices_Compare_Sint_int (s10 : (List Int)) (s21 : (List Int)) : Option Int :=
  (forL (R := Int) (fun (t_1 : Int) (x_t_1 : Int) (_ : Unit) => cond (decide ((s21.length : Int) ≤ (t_1 : Int))) (some (.ret 1)) ((getI s21 (t_1 : Int)).bind fun v_4 => (m_cmp_Compare_int x_t_1 v_4).bind fun r_9 => cond (decide (r_9 ≠ 0)) (some (.ret r_9)) (some (.next ())))) s10 0 ()).bind fun O2_ => onS O2_ (fun (_ : Unit) => cond (decide ((s10.length : Int) < (s21.length : Int))) (some (-1)) (some 0)) (fun r => some r)
def m_impl_CompareFacts (a0 : Fact) (b1 : Fact) : Option Int :=
  cond (decide (a0.relation ≠ b1.relation)) ((m_impl_compare a0.relation b1.relation).bind fun r_2 => some r_2) ((m_slices_Compare_Sint_int a0.values b1.values).bind fun r_4 => some r_4)
def m_impl_FactIndex_1 (own0 : Fact) (fv1 : Fact) : Option Bool :=
  (m_impl_CompareFacts own0 fv1).bind fun r_1 => some (decide (r_1 = 0))
def m_impl_FactIndex (db0 : Database) (fact1 : Fact) : Option Int :=
  (m_slices_IndexFunc_Simpl_Fact_impl_Fact db0.facts (fun x0 => m_impl_FactIndex_1 x0 fact1)).bind fun r_1 => some r_1
def m_impl_within (n0 : Int) (low1 : Int) (high2 : Int) : Option Bool :=
  some ((decide (low1 ≤ n0)) && (decide (n0 ≤ high2)))
def m_impl_IsValidRelation (relation0 : Relation) : Option Bool :=
  (cond (decide ((relation0.name.size : Int) = 1)) ((getB relation0.name 0).bind fun b_4 => cond (decide (97 ≤ b_4)) ((getB relation0.name 0).bind fun b_7 => cond (decide (b_7 ≤ 122)) ((m_impl_within relation0.arity 1 3).bind fun r_10 => cond r_10 ((m_impl_within relation0.keyLength 0 relation0.arity).bind fun r_13 => some r_13) (some false)) (some false)) (some false)) (some false)).bind fun (t2_1 : Bool) => some t2_1
def m_impl_AreValidRelations (relations0 : (List Relation)) : Option Bool :=
  (forL (R := Bool) (fun (t_1 : Int) (x_t_1 : Relation) (_ : Unit) => ((m_impl_IsValidRelation x_t_1).bind fun r_5 => cond (!r_5) (some true) (cond (decide (0 < (t_1 : Int))) ((getI relations0 ((t_1 : Int) - 1)).bind fun v_9 => some (!ltS v_9.name x_t_1.name)) (some false))).bind fun (t29_3 : Bool) => cond t29_3 (some (.ret false)) (some (.next ()))) relations0 0 ()).bind fun O2_ => onS O2_ (fun (_ : Unit) => some (decide ((relations0.length : Int) ≤ 4))) (fun r => some r)
def m_slices_IndexFunc_Sint_int (s0 : (List Int)) (f1 : (Int → Option Bool)) : Option Int :=
  (forL (R := Int) (fun (t_1 : Int) (x_t_1 : Int) (_ : Unit) => (f1 x_t_1).bind fun r_3 => cond r_3 (some (.ret (t_1 : Int))) (some (.next ()))) s0 0 ()).bind fun O2_ => onS O2_ (fun (_ : Unit) => some (-1)) (fun r => some r)
def m_slices_ContainsFunc_Sint_int (s0 : (List Int)) (f1 : (Int → Option Bool)) : Option Bool :=
  (m_slices_IndexFunc_Sint_int s0 f1).bind fun r_1 => some (decide (0 ≤ r_1))
def m_impl_areValues_1 (v0 : Int) : Option Bool :=
  (m_impl_within v0 0 9).bind fun r_1 => some (!r_1)
def m_impl_areValues (list0 : (List Int)) : Option Bool :=
  (m_slices_ContainsFunc_Sint_int list0 (fun x0 => m_impl_areValues_1 x0)).bind fun r_1 => some (!r_1)
def m_impl_isFact (relations0 : (List Relation)) (fact1 : Fact) : Option Bool :=
  ((m_impl_within fact1.relation 0 ((relations0.length : Int) - 1)).bind fun r_4 => cond r_4 ((getI relations0 fact1.relation).bind fun v_7 => cond (decide ((fact1.values.length : Int) = v_7.arity)) ((m_impl_areValues fact1.values).bind fun r_13 => some r_13) (some false)) (some false)).bind fun (t4_1 : Bool) => some t4_1
def m_impl_IsValidDatabase (db0 : Database) : Option Bool :=
  ((m_impl_AreValidRelations db0.relations).bind fun r_3 => cond (!r_3) (some true) (some (decide (14 < (db0.facts.length : Int))))).bind fun (t14_1 : Bool) => cond t14_1 (some false) ((forL (R := Bool) (fun (t_7 : Int) (x_t_7 : Fact) (_ : Unit) => ((m_impl_isFact db0.relations x_t_7).bind fun r_11 => cond (!r_11) (some true) (cond (decide (0 < (t_7 : Int))) ((getI db0.facts ((t_7 : Int) - 1)).bind fun v_15 => (m_impl_CompareFacts v_15 x_t_7).bind fun r_20 => some (decide (0 ≤ r_20))) (some false))).bind fun (t42_9 : Bool) => cond t42_9 (some (.ret false)) (some (.next ()))) db0.facts 0 ()).bind fun O8_ => onS O8_ (fun (_ : Unit) => some true) (fun r => some r))
def m_impl_ContainsFact (db0 : Database) (fact1 : Fact) : Option Bool :=
  ((m_impl_IsValidDatabase db0).bind fun r_3 => cond r_3 ((m_impl_FactIndex db0 fact1).bind fun r_6 => some (decide (0 ≤ r_6))) (some false)).bind fun (t4_1 : Bool) => some t4_1
def m_slices_Equal_Sint_int (s10 : (List Int)) (s21 : (List Int)) : Option Bool :=
  cond (decide ((s10.length : Int) ≠ (s21.length : Int))) (some false) ((forL (R := Bool) (fun (t_2 : Int) (x_t_2 : Int) (_ : Unit) => (getI s21 (t_2 : Int)).bind fun v_4 => cond (decide (x_t_2 ≠ v_4)) (some (.ret false)) (some (.next ()))) s10 0 ()).bind fun O3_ => onS O3_ (fun (_ : Unit) => some true) (fun r => some r))
def m_impl_sameKey (relations0 : (List Relation)) (a1 : Fact) (b2 : Fact) : Option Bool :=
  cond (decide (a1.relation ≠ b2.relation)) (some false) ((getI relations0 a1.relation).bind fun v_2 => (cutI a1.values 0 v_2.keyLength).bind fun ys_7 => (cutI b2.values 0 v_2.keyLength).bind fun ys_9 => (m_slices_Equal_Sint_int ys_7 ys_9).bind fun r_11 => some r_11)
def m_impl_blocks (db0 : Database) : Option (List (List Int)) :=
  (forS (fun (t_1 : Int) (x_t_1 : Fact) (out3 : (List (List Int))) => (cond (decide (0 ≤ ((out3.length : Int) - 1))) ((getI out3 ((out3.length : Int) - 1)).bind fun v_7 => (getI v_7 0).bind fun v_12 => (getI db0.facts v_12).bind fun v_17 => (m_impl_sameKey db0.relations v_17 x_t_1).bind fun r_22 => some r_22) (some false)).bind fun (t36_4 : Bool) => cond t36_4 ((getI out3 ((out3.length : Int) - 1)).bind fun v_25 => (app 8 v_25 ([(t_1 : Int)] : (List Int))).bind fun us_30 => some (out3.set (((out3.length : Int) - 1)).toNat us_30)) ((app 24 out3 ([([(t_1 : Int)] : (List Int))] : (List (List Int)))).bind fun us_32 => some us_32)) db0.facts 0 ([] : (List (List Int)))).bind fun (out3 : (List (List Int))) => some out3
def m_impl_Blocks (db0 : Database) : Option (List (List Int)) :=
  (m_impl_IsValidDatabase db0).bind fun r_1 => cond (!r_1) (some ([] : (List (List Int)))) ((m_impl_blocks db0).bind fun r_4 => some r_4)
def m_slices_Index_Sint_int (s0 : (List Int)) (v1 : Int) : Option Int :=
  (forL (R := Int) (fun (t_1 : Int) (x_t_1 : Int) (_ : Unit) => cond (decide (v1 = x_t_1)) (some (.ret (t_1 : Int))) (some (.next ()))) s0 0 ()).bind fun O2_ => onS O2_ (fun (_ : Unit) => some (-1)) (fun r => some r)
def m_slices_Contains_Sint_int (s0 : (List Int)) (v1 : Int) : Option Bool :=
  (m_slices_Index_Sint_int s0 v1).bind fun r_1 => some (decide (0 ≤ r_1))
def m_impl_BlockOf (db0 : Database) (index1 : Int) : Option (List Int) :=
  (m_impl_Blocks db0).bind fun r_1 => (forL (R := (List Int)) (fun (t_3 : Int) (x_t_3 : (List Int)) (_ : Unit) => (m_slices_Contains_Sint_int x_t_3 index1).bind fun r_5 => cond r_5 (some (.ret x_t_3)) (some (.next ()))) r_1 0 ()).bind fun O4_ => onS O4_ (fun (_ : Unit) => some ([] : (List Int))) (fun r => some r)
def m_impl_copyDatabase (db0 : Database) : Option Database :=
  (app 32 ([] : (List Relation)) db0.relations).bind fun us_1 => (forS (fun (t_3 : Int) (x_t_3 : Fact) (box5_facts : (List Fact)) => (app 8 ([] : (List Int)) x_t_3.values).bind fun us_5 => (app 32 box5_facts ([({ relation := x_t_3.relation, values := us_5 } : Fact)] : (List Fact))).bind fun us_7 => some us_7) db0.facts 0 ([] : (List Fact))).bind fun (box5_facts : (List Fact)) => some ({ relations := us_1, facts := box5_facts } : Database)
def m_impl_without (a0 : (List Int)) (b1 : (List Int)) : Option (List Int) :=
  (forS (fun (t_1 : Int) (x_t_1 : Int) (out5 : (List Int)) => (m_slices_Contains_Sint_int b1 x_t_1).bind fun r_3 => cond (!r_3) ((app 8 out5 ([x_t_1] : (List Int))).bind fun us_6 => some us_6) (some out5)) a0 0 ([] : (List Int))).bind fun (out5 : (List Int)) => some out5
def m_impl_areIndices (indices0 : (List Int)) (n1 : Int) : Option Bool :=
  (forL (R := Bool) (fun (t_1 : Int) (x_t_1 : Int) (_ : Unit) => ((m_impl_within x_t_1 0 (w64 (n1 - 1))).bind fun r_5 => cond (!r_5) (some true) (cond (decide (0 < (t_1 : Int))) ((getI indices0 ((t_1 : Int) - 1)).bind fun v_9 => some (decide (x_t_1 ≤ v_9))) (some false))).bind fun (t31_3 : Bool) => cond t31_3 (some (.ret false)) (some (.next ()))) indices0 0 ()).bind fun O2_ => onS O2_ (fun (_ : Unit) => some true) (fun r => some r)
def m_impl_SelectFacts (db0 : Database) (indices1 : (List Int)) : Option (Database × Bool) :=
  ((m_impl_IsValidDatabase db0).bind fun r_3 => cond (!r_3) (some true) ((m_impl_areIndices indices1 (db0.facts.length : Int)).bind fun r_6 => some (!r_6))).bind fun (t20_1 : Bool) => cond t20_1 (some (({ relations := [], facts := [] } : Database), false)) ((m_impl_copyDatabase db0).bind fun r_9 => (forS (fun (t_11 : Int) (x_t_11 : Int) (box5_facts : (List Fact)) => (getI r_9.facts x_t_11).bind fun v_13 => (app 32 box5_facts ([v_13] : (List Fact))).bind fun us_18 => some us_18) indices1 0 ([] : (List Fact))).bind fun (box5_facts : (List Fact)) => some (({ relations := r_9.relations, facts := box5_facts } : Database), true))
def m_impl_withoutFacts (db0 : Database) (indices1 : (List Int)) : Option Database :=
  (gN (db0.facts.length : Int)).bind fun _ => (forM (fun (t_1 : Int) (all5 : (List Int)) => (app 8 all5 ([(t_1 : Int)] : (List Int))).bind fun us_4 => some us_4) ((db0.facts.length : Int) - 0).toNat 0 ([] : (List Int))).bind fun (all5 : (List Int)) => (m_impl_without all5 indices1).bind fun r_6 => (m_impl_SelectFacts db0 r_6).bind fun r_8 => some r_8.1
def m_impl_ResolveConflict (db0 : Database) (fact1 : Fact) : Option (Database × Bool) :=
  (m_impl_ContainsFact db0 fact1).bind fun r_1 => cond (!r_1) ((m_impl_copyDatabase db0).bind fun r_4 => some (r_4, false)) ((m_impl_FactIndex db0 fact1).bind fun r_6 => (m_impl_BlockOf db0 r_6).bind fun r_8 => (m_impl_without r_8 ([r_6] : (List Int))).bind fun r_10 => (m_impl_withoutFacts db0 r_10).bind fun r_12 => some (r_12, true))
def m_slices_Delete_Simpl_Fact_impl_Fact (s0 : List Fact) (i1 j2 : Int) : Option (List Fact) := cutOut s0 i1 j2
def m_impl_DeleteFact (db0 : Database) (fact1 : Fact) : Option (Database × Bool) :=
  (m_impl_copyDatabase db0).bind fun r_1 => (m_impl_ContainsFact db0 fact1).bind fun r_3 => cond (!r_3) (some (r_1, false)) ((m_impl_FactIndex db0 fact1).bind fun r_6 => (m_slices_Delete_Simpl_Fact_impl_Fact r_1.facts r_6 (w64 (r_6 + 1))).bind fun r_8 => some (({ relations := r_1.relations, facts := r_8 } : Database), true))
def m_slices_Insert_Simpl_Fact_impl_Fact (s0 : List Fact) (i1 : Int) (v2 : List Fact) : Option (List Fact) := insAt 32 s0 i1 v2
def m_impl_InsertFact (u : Nat) (db0 : Database) (fact1 : Fact) : Option (Database × Bool) :=
  (m_impl_copyDatabase db0).bind fun r_1 => ((m_impl_IsValidDatabase db0).bind fun r_5 => cond (!r_5) (some true) ((m_impl_isFact db0.relations fact1).bind fun r_8 => cond (!r_8) (some true) ((m_impl_FactIndex db0 fact1).bind fun r_11 => cond (decide (0 ≤ r_11)) (some true) (some (decide ((db0.facts.length : Int) = 14)))))).bind fun (t31_3 : Bool) => cond t31_3 (some (r_1, false)) ((whileF (R := (Database × Bool)) (fun (at7 : Int) => (cond (decide (at7 < (db0.facts.length : Int))) ((getI db0.facts at7).bind fun v_19 => (m_impl_CompareFacts v_19 fact1).bind fun r_24 => some (decide (r_24 < 0))) (some false)).bind fun (t47_16 : Bool) => cond t47_16 (some (.next (w64 (at7 + 1)))) (some (.brk at7))) u 0).bind fun O15_ => onS O15_ (fun (at7 : Int) => (app 8 ([] : (List Int)) fact1.values).bind fun us_27 => (m_slices_Insert_Simpl_Fact_impl_Fact r_1.facts at7 ([({ relation := fact1.relation, values := us_27 } : Fact)] : List Fact)).bind fun r_29 => some (({ relations := r_1.relations, facts := r_29 } : Database), true)) (fun r => none))
def m_impl_ApplyEdit (u : Nat) (db0 : Database) (edit1 : Edit) : Option (Database × Bool) :=
  cond (decide (edit1.kind = 1)) ((m_impl_InsertFact u db0 edit1.fact).bind fun r_2 => some (r_2.1, r_2.2)) (cond (decide (edit1.kind = 2)) ((m_impl_DeleteFact db0 edit1.fact).bind fun r_5 => some (r_5.1, r_5.2)) (cond (decide (edit1.kind = 3)) ((m_impl_ResolveConflict db0 edit1.fact).bind fun r_8 => some (r_8.1, r_8.2)) ((m_impl_copyDatabase db0).bind fun r_10 => some (r_10, false))))
def m_impl_editsFor (kind0 : Int) (a1 : Database) (b2 : Database) : Option (List Edit) :=
  (m_impl_copyDatabase a1).bind fun r_1 => (forS (fun (t_3 : Int) (x_t_3 : Fact) (out7 : (List Edit)) => (m_impl_FactIndex b2 x_t_3).bind fun r_5 => cond (decide (r_5 < 0)) ((app 40 out7 ([({ kind := kind0, fact := x_t_3 } : Edit)] : (List Edit))).bind fun us_8 => some us_8) (some out7)) r_1.facts 0 ([] : (List Edit))).bind fun (out7 : (List Edit)) => some out7
def m_impl_InverseEdits (u : Nat) (db0 : Database) (edit1 : Edit) : Option ((List Edit) × Bool) :=
  (m_impl_ApplyEdit u db0 edit1).bind fun r_1 => cond (!r_1.2) (some (([] : (List Edit)), false)) ((m_impl_editsFor 2 r_1.1 db0).bind fun r_4 => (m_impl_editsFor 1 db0 r_1.1).bind fun r_6 => (app 40 r_4 r_6).bind fun us_8 => some (us_8, true))
def m_laws_eqEditS (a0 : (List Edit)) (b1 : (List Edit)) : Option Bool :=
  cond (decide ((a0.length : Int) ≠ (b1.length : Int))) (some false) ((forL (R := Bool) (fun (i_2 : Int) (x_i_2 : Edit) (_ : Unit) => (getI b1 (i_2 : Int)).bind fun v_4 => (m_laws_eqEdit x_i_2 v_4).bind fun r_9 => cond (!r_9) (some (.ret false)) (some (.next ()))) a0 0 ()).bind fun O3_ => onS O3_ (fun (_ : Unit) => some true) (fun r => some r))
def m_laws_markEditS (a0 : (List Edit)) (k1 : Int) : Option (Int × (List Edit)) :=
  (forM (fun (i_1 : Int) (⟨a0m, k1⟩ : (List Edit) × Int) => (getI a0m (i_1 : Int)).bind fun v_3 => (getI (a0m.set ((i_1 : Int)).toNat ({ kind := k1, fact := v_3.fact } : Edit)) (i_1 : Int)).bind fun v_8 => (getI ((a0m.set ((i_1 : Int)).toNat ({ kind := k1, fact := v_3.fact } : Edit)).set ((i_1 : Int)).toNat ({ kind := v_8.kind, fact := ({ relation := (w64 (k1 + 1)), values := v_8.fact.values } : Fact) } : Edit)) (i_1 : Int)).bind fun v_13 => (m_laws_markIntS v_13.fact.values (w64 ((w64 (k1 + 1)) + 1))).bind fun r_18 => some ((((a0m.set ((i_1 : Int)).toNat ({ kind := k1, fact := v_3.fact } : Edit)).set ((i_1 : Int)).toNat ({ kind := v_8.kind, fact := ({ relation := (w64 (k1 + 1)), values := v_8.fact.values } : Fact) } : Edit)).set ((i_1 : Int)).toNat ({ kind := v_13.kind, fact := ({ relation := v_13.fact.relation, values := r_18.2 } : Fact) } : Edit)), r_18.1)) ((a0.length : Int) - 0).toNat 0 (a0, k1)).bind fun (⟨a0m, k1⟩ : (List Edit) × Int) => some (k1, a0m)
def m_laws_heldIntS (a0 : (List Int)) (k1 : Int) : Option Int :=
  (forL (R := Int) (fun (i_1 : Int) (x_i_1 : Int) (k1 : Int) => cond (decide (x_i_1 ≠ k1)) (some (.ret (-1))) (some (.next (w64 (k1 + 1))))) a0 0 k1).bind fun O2_ => onS O2_ (fun (k1 : Int) => some k1) (fun r => some r)
def m_laws_heldEditS (a0 : (List Edit)) (k1 : Int) : Option Int :=
  (forL (R := Int) (fun (i_1 : Int) (x_i_1 : Edit) (k1 : Int) => cond (decide (x_i_1.kind ≠ k1)) (some (.ret (-1))) (cond (decide (x_i_1.fact.relation ≠ (w64 (k1 + 1)))) (some (.ret (-1))) ((m_laws_heldIntS x_i_1.fact.values (w64 ((w64 (k1 + 1)) + 1))).bind fun r_5 => cond (decide (r_5 < 0)) (some (.ret (-1))) (some (.next r_5))))) a0 0 k1).bind fun O2_ => onS O2_ (fun (k1 : Int) => some k1) (fun r => some r)
def m_laws_FnExactInverseEdits (u : Nat) (aDb0 : Database) (aEdit1 : Edit) : Option Bool :=
  (m_laws_szDatabase aDb0 1048576).bind fun r_1 => cond (decide (r_1 < 0)) (some true) ((m_laws_szEdit aEdit1 r_1).bind fun r_4 => cond (decide (r_4 < 0)) (some true) ((m_laws_toDatabase aDb0).bind fun r_7 => (m_laws_toEdit aEdit1).bind fun r_9 => (m_spec_InverseEdits u r_7 r_9).bind fun r_11 => (m_laws_toDatabase aDb0).bind fun r_13 => (m_laws_toEdit aEdit1).bind fun r_15 => (m_impl_InverseEdits u r_13 r_15).bind fun r_17 => ((m_laws_eqEditS r_17.1 r_11.1).bind fun r_21 => cond (!r_21) (some true) (some (r_17.2 != r_11.2))).bind fun (t53_19 : Bool) => cond t53_19 (some false) ((m_laws_toDatabase aDb0).bind fun r_25 => (m_laws_eqDatabase r_13 r_25).bind fun r_27 => cond (!r_27) (some false) ((m_laws_toEdit aEdit1).bind fun r_30 => (m_laws_eqEdit r_15 r_30).bind fun r_32 => cond (!r_32) (some false) ((m_laws_markDatabase u r_13 1).bind fun r_35 => (m_laws_markEdit r_15 r_35.1).bind fun r_40 => (cond (decide (r_40.1 < 0)) (some true) ((m_laws_eqEditS r_17.1 r_11.1).bind fun r_47 => cond (!r_47) (some true) (some (r_17.2 != r_11.2)))).bind fun (t82_44 : Bool) => cond t82_44 (some false) ((m_laws_markEditS r_17.1 1).bind fun r_51 => (m_laws_heldEditS r_51.2 1).bind fun r_55 => cond (decide (r_55 < 0)) (some false) (cond (decide (r_55 ≠ r_51.1)) (some false) ((m_laws_toDatabase aDb0).bind fun r_59 => (m_laws_toEdit aEdit1).bind fun r_61 => (m_impl_InverseEdits u r_59 r_61).bind fun r_63 => ((m_laws_eqEditS r_63.1 r_11.1).bind fun r_67 => cond (!r_67) (some true) (some (r_63.2 != r_11.2))).bind fun (t110_65 : Bool) => cond t110_65 (some false) ((m_laws_heldEditS r_51.2 1).bind fun r_71 => cond (decide (r_71 < 0)) (some false) (cond (decide (r_71 ≠ r_51.1)) (some false) (some true)))))))))))
def m_laws_heldRelationS (u : Nat) (a0 : (List Relation)) (k1 : Int) : Option Int :=
  (forL (R := Int) (fun (i_1 : Int) (x_i_1 : Relation) (k1 : Int) => (m_laws_markText u k1).bind fun r_3 => cond (decide (x_i_1.name ≠ r_3)) (some (.ret (-1))) (cond (decide (x_i_1.arity ≠ (w64 (k1 + 1)))) (some (.ret (-1))) (cond (decide (x_i_1.keyLength ≠ (w64 ((w64 (k1 + 1)) + 1)))) (some (.ret (-1))) (some (.next (w64 ((w64 ((w64 (k1 + 1)) + 1)) + 1))))))) a0 0 k1).bind fun O2_ => onS O2_ (fun (k1 : Int) => some k1) (fun r => some r)
def m_laws_heldFactS (a0 : (List Fact)) (k1 : Int) : Option Int :=
  (forL (R := Int) (fun (i_1 : Int) (x_i_1 : Fact) (k1 : Int) => cond (decide (x_i_1.relation ≠ k1)) (some (.ret (-1))) ((m_laws_heldIntS x_i_1.values (w64 (k1 + 1))).bind fun r_4 => cond (decide (r_4 < 0)) (some (.ret (-1))) (some (.next r_4)))) a0 0 k1).bind fun O2_ => onS O2_ (fun (k1 : Int) => some k1) (fun r => some r)
def m_laws_heldDatabase (u : Nat) (a0 : Database) (k1 : Int) : Option Int :=
  (m_laws_heldRelationS u a0.relations k1).bind fun r_1 => cond (decide (r_1 < 0)) (some (-1)) ((m_laws_heldFactS a0.facts r_1).bind fun r_4 => cond (decide (r_4 < 0)) (some (-1)) (some r_4))
end Go.Proofs.Ytjdpolnakhmkmaa


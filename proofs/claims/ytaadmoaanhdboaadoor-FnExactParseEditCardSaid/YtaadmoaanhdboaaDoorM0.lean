import Derived.Test.YtaadmoaanhdboaaDoorCRD
set_option linter.unusedVariables false
set_option maxRecDepth 4000
namespace Go.Proofs.YtaadmoaanhdboaaDoor
open Go Go.Proofs Go.Sep
structure Relation where
  name : ByteArray
  arity : Int
  keyLength : Int
instance : Inhabited Relation := ⟨⟨default, default, default⟩⟩
instance : DecidableEq Relation := fun a b => decidable_of_iff (a.name = b.name ∧ a.arity = b.arity ∧ a.keyLength = b.keyLength) (by cases a; cases b; simp)
def RdRelation (x : Relation) : Prop := x.name.size ≤ 9223372036854775807 ∧ ((-9223372036854775808 ≤ x.arity ∧ x.arity ≤ 9223372036854775807) ∧ (-9223372036854775808 ≤ x.keyLength ∧ x.keyLength ≤ 9223372036854775807))
def tRelation : Ty Relation := tAs (fun x => (x.name, (x.arity, x.keyLength))) (tP tStr (tP tInt tInt))
structure Fact where
  relation : Int
  values : (List Int)
instance : Inhabited Fact := ⟨⟨default, default⟩⟩
instance : DecidableEq Fact := fun a b => decidable_of_iff (a.relation = b.relation ∧ a.values = b.values) (by cases a; cases b; simp)
def RdFact (x : Fact) : Prop := (-9223372036854775808 ≤ x.relation ∧ x.relation ≤ 9223372036854775807) ∧ (x.values.length ≤ 9223372036854775807 ∧ ∀ yues ∈ x.values, (-9223372036854775808 ≤ yues ∧ yues ≤ 9223372036854775807))
def tFact : Ty Fact := tAs (fun x => (x.relation, x.values)) (tP tInt (tSl tInt))
structure Database where
  relations : (List Relation)
  facts : (List Fact)
instance : Inhabited Database := ⟨⟨default, default⟩⟩
instance : DecidableEq Database := fun a b => decidable_of_iff (a.relations = b.relations ∧ a.facts = b.facts) (by cases a; cases b; simp)
def RdDatabase (x : Database) : Prop := (x.relations.length ≤ 9223372036854775807 ∧ ∀ yons ∈ x.relations, RdRelation yons) ∧ (x.facts.length ≤ 9223372036854775807 ∧ ∀ ycts ∈ x.facts, RdFact ycts)
def tDatabase : Ty Database := tAs (fun x => (x.relations, x.facts)) (tP (tSl tRelation) (tSl tFact))
structure Edit where
  kind : Int
  fact : Fact
instance : Inhabited Edit := ⟨⟨default, default⟩⟩
instance : DecidableEq Edit := fun a b => decidable_of_iff (a.kind = b.kind ∧ a.fact = b.fact) (by cases a; cases b; simp)
def RdEdit (x : Edit) : Prop := (-9223372036854775808 ≤ x.kind ∧ x.kind ≤ 9223372036854775807) ∧ RdFact x.fact
def tEdit : Ty Edit := tAs (fun x => (x.kind, x.fact)) (tP tInt tFact)
def m_laws_szRelation (a0 : Relation) (left1 : Int) : Option Int :=
  cond (decide ((w64 (left1 - (a0.name.size : Int))) < 0)) (some (-1)) (some (w64 (left1 - (a0.name.size : Int))))
def m_laws_szRelationS (a0 : (List Relation)) (left1 : Int) : Option Int :=
  cond (decide ((w64 (left1 - (a0.length : Int))) < 0)) (some (-1)) ((forL (R := Int) (fun (i_2 : Int) (x_i_2 : Relation) (left1 : Int) => (m_laws_szRelation x_i_2 left1).bind fun r_4 => cond (decide (r_4 < 0)) (some (.ret (-1))) (some (.next r_4))) a0 0 (w64 (left1 - (a0.length : Int)))).bind fun O3_ => onS O3_ (fun (left1 : Int) => some left1) (fun r => some r))
def m_laws_szIntS (a0 : (List Int)) (left1 : Int) : Option Int :=
  cond (decide ((w64 (left1 - (a0.length : Int))) < 0)) (some (-1)) (some (w64 (left1 - (a0.length : Int))))
def m_laws_szFact (a0 : Fact) (left1 : Int) : Option Int :=
  (m_laws_szIntS a0.values left1).bind fun r_1 => cond (decide (r_1 < 0)) (some (-1)) (some r_1)
def m_laws_szFactS (a0 : (List Fact)) (left1 : Int) : Option Int :=
  cond (decide ((w64 (left1 - (a0.length : Int))) < 0)) (some (-1)) ((forL (R := Int) (fun (i_2 : Int) (x_i_2 : Fact) (left1 : Int) => (m_laws_szFact x_i_2 left1).bind fun r_4 => cond (decide (r_4 < 0)) (some (.ret (-1))) (some (.next r_4))) a0 0 (w64 (left1 - (a0.length : Int)))).bind fun O3_ => onS O3_ (fun (left1 : Int) => some left1) (fun r => some r))
def m_laws_szDatabase (a0 : Database) (left1 : Int) : Option Int :=
  (m_laws_szRelationS a0.relations left1).bind fun r_1 => cond (decide (r_1 < 0)) (some (-1)) ((m_laws_szFactS a0.facts r_1).bind fun r_4 => cond (decide (r_4 < 0)) (some (-1)) (some r_4))
def m_laws_toRelation (a0 : Relation) : Option Relation :=
  some a0
def m_laws_toRelationS (a0 : (List Relation)) : Option (List Relation) :=
  (mk 32 (a0.length : Int) (default : Relation)).bind fun us_1 => (forS (fun (i_3 : Int) (x_i_3 : Relation) (out3 : (List Relation)) => (m_laws_toRelation x_i_3).bind fun r_5 => (getI out3 (i_3 : Int)).bind fun v_7 => some (out3.set ((i_3 : Int)).toNat r_5)) a0 0 us_1).bind fun (out3 : (List Relation)) => some out3
def m_laws_toIntS (a0 : (List Int)) : Option (List Int) :=
  (mk 8 (a0.length : Int) (0 : Int)).bind fun us_1 => (forS (fun (i_3 : Int) (x_i_3 : Int) (out3 : (List Int)) => (getI out3 (i_3 : Int)).bind fun v_5 => some (out3.set ((i_3 : Int)).toNat x_i_3)) a0 0 us_1).bind fun (out3 : (List Int)) => some out3
def m_laws_toFact (a0 : Fact) : Option Fact :=
  (m_laws_toIntS a0.values).bind fun r_1 => some ({ relation := a0.relation, values := r_1 } : Fact)
def m_laws_toFactS (a0 : (List Fact)) : Option (List Fact) :=
  (mk 32 (a0.length : Int) (default : Fact)).bind fun us_1 => (forS (fun (i_3 : Int) (x_i_3 : Fact) (out3 : (List Fact)) => (m_laws_toFact x_i_3).bind fun r_5 => (getI out3 (i_3 : Int)).bind fun v_7 => some (out3.set ((i_3 : Int)).toNat r_5)) a0 0 us_1).bind fun (out3 : (List Fact)) => some out3
def m_laws_toDatabase (a0 : Database) : Option Database :=
  (m_laws_toRelationS a0.relations).bind fun r_1 => (m_laws_toFactS a0.facts).bind fun r_3 => some ({ relations := r_1, facts := r_3 } : Database)
def m_laws_eqRelation (a0 : Relation) (b1 : Relation) : Option Bool :=
  cond (decide (a0.name ≠ b1.name)) (some false) (cond (decide (a0.arity ≠ b1.arity)) (some false) (cond (decide (a0.keyLength ≠ b1.keyLength)) (some false) (some true)))
def m_laws_eqRelationS (a0 : (List Relation)) (b1 : (List Relation)) : Option Bool :=
  cond (decide ((a0.length : Int) ≠ (b1.length : Int))) (some false) ((forL (R := Bool) (fun (i_2 : Int) (x_i_2 : Relation) (_ : Unit) => (getI b1 (i_2 : Int)).bind fun v_4 => (m_laws_eqRelation x_i_2 v_4).bind fun r_9 => cond (!r_9) (some (.ret false)) (some (.next ()))) a0 0 ()).bind fun O3_ => onS O3_ (fun (_ : Unit) => some true) (fun r => some r))
def m_laws_eqIntS (a0 : (List Int)) (b1 : (List Int)) : Option Bool :=
  cond (decide ((a0.length : Int) ≠ (b1.length : Int))) (some false) ((forL (R := Bool) (fun (i_2 : Int) (x_i_2 : Int) (_ : Unit) => (getI b1 (i_2 : Int)).bind fun v_4 => cond (decide (x_i_2 ≠ v_4)) (some (.ret false)) (some (.next ()))) a0 0 ()).bind fun O3_ => onS O3_ (fun (_ : Unit) => some true) (fun r => some r))
def m_laws_eqFact (a0 : Fact) (b1 : Fact) : Option Bool :=
  cond (decide (a0.relation ≠ b1.relation)) (some false) ((m_laws_eqIntS a0.values b1.values).bind fun r_2 => cond (!r_2) (some false) (some true))
def m_laws_eqFactS (a0 : (List Fact)) (b1 : (List Fact)) : Option Bool :=
  cond (decide ((a0.length : Int) ≠ (b1.length : Int))) (some false) ((forL (R := Bool) (fun (i_2 : Int) (x_i_2 : Fact) (_ : Unit) => (getI b1 (i_2 : Int)).bind fun v_4 => (m_laws_eqFact x_i_2 v_4).bind fun r_9 => cond (!r_9) (some (.ret false)) (some (.next ()))) a0 0 ()).bind fun O3_ => onS O3_ (fun (_ : Unit) => some true) (fun r => some r))
def m_laws_eqDatabase (a0 : Database) (b1 : Database) : Option Bool :=
  (m_laws_eqRelationS a0.relations b1.relations).bind fun r_1 => cond (!r_1) (some false) ((m_laws_eqFactS a0.facts b1.facts).bind fun r_4 => cond (!r_4) (some false) (some true))
def m_laws_eqEdit (a0 : Edit) (b1 : Edit) : Option Bool :=
  cond (decide (a0.kind ≠ b1.kind)) (some false) ((m_laws_eqFact a0.fact b1.fact).bind fun r_2 => cond (!r_2) (some false) (some true))
def m_spec_FormatInt (u : Nat) (n0 : Int) : Option ByteArray :=
  cond (decide (n0 = 0)) (some (⟨#[48]⟩ : ByteArray)) ((whileF (R := ByteArray) (fun (⟨n0z, out3⟩ : Int × ByteArray) => cond (decide (n0z ≠ 0)) (cond (decide ((n0z.tmod 10) < 0)) ((catS (strOf ([(IntKind.wrap .u8 (w64 (48 + (w64 (-(n0z.tmod 10))))))] : (List Int))) out3).bind fun cat_5 => some (.next ((w64 (n0z.tdiv 10)), cat_5))) ((catS (strOf ([(IntKind.wrap .u8 (w64 (48 + (n0z.tmod 10))))] : (List Int))) out3).bind fun cat_7 => some (.next ((w64 (n0z.tdiv 10)), cat_7)))) (some (.brk (n0z, out3)))) u (n0, (⟨#[]⟩ : ByteArray))).bind fun O2_ => onS O2_ (fun (⟨n0z, out3⟩ : Int × ByteArray) => cond (decide (n0 < 0)) ((catS (⟨#[45]⟩ : ByteArray) out3).bind fun cat_10 => some cat_10) (some out3)) (fun r => none))
def m_spec_l1In (x0 : Int) (low1 : Int) (high2 : Int) : Option Bool :=
  some ((decide (low1 ≤ x0)) && (decide (x0 ≤ high2)))
def m_spec_IsValidRelation (s0 : Relation) : Option Bool :=
  (cond (decide ((s0.name.size : Int) = 1)) ((getB s0.name 0).bind fun b_4 => cond (decide (97 ≤ b_4)) ((getB s0.name 0).bind fun b_7 => cond (decide (b_7 ≤ 122)) ((m_spec_l1In s0.arity 1 3).bind fun r_10 => cond r_10 ((m_spec_l1In s0.keyLength 0 s0.arity).bind fun r_13 => some r_13) (some false)) (some false)) (some false)) (some false)).bind fun (t2_1 : Bool) => some t2_1
def m_spec_AreValidRelations (l0 : (List Relation)) : Option Bool :=
  (forL (R := Bool) (fun (i_1 : Int) (x_i_1 : Relation) (_ : Unit) => ((m_spec_IsValidRelation x_i_1).bind fun r_5 => cond (!r_5) (some true) (cond (decide (0 < (i_1 : Int))) ((getI l0 ((i_1 : Int) - 1)).bind fun v_9 => some (!ltS v_9.name x_i_1.name)) (some false))).bind fun (t33_3 : Bool) => cond t33_3 (some (.ret false)) (some (.next ()))) l0 0 ()).bind fun O2_ => onS O2_ (fun (_ : Unit) => some (decide ((l0.length : Int) ≤ 4))) (fun r => some r)
def m_spec_IsValidFact (u : Nat) (l0 : (List Relation)) (f1 : Fact) : Option Bool :=
  ((m_spec_AreValidRelations l0).bind fun r_3 => cond (!r_3) (some true) ((m_spec_l1In f1.relation 0 ((l0.length : Int) - 1)).bind fun r_7 => cond (!r_7) (some true) ((getI l0 f1.relation).bind fun v_10 => some (decide ((f1.values.length : Int) ≠ v_10.arity))))).bind fun (t29_1 : Bool) => cond t29_1 (some false) ((whileF (R := Bool) (fun (i5 : Int) => cond (decide (i5 < (f1.values.length : Int))) ((getI f1.values i5).bind fun v_18 => (m_spec_l1In v_18 0 9).bind fun r_23 => cond (!r_23) (some (.ret false)) (some (.next (w64 (i5 + 1))))) (some (.brk i5))) u 0).bind fun O16_ => onS O16_ (fun (i5 : Int) => some true) (fun r => some r))
def m_spec_FormatFact (u : Nat) (l0 : (List Relation)) (f1 : Fact) : Option ByteArray :=
  (m_spec_IsValidFact u l0 f1).bind fun r_1 => cond (!r_1) (some (⟨#[]⟩ : ByteArray)) ((getI l0 f1.relation).bind fun v_4 => (whileF (R := ByteArray) (fun (⟨s5, i6⟩ : ByteArray × Int) => cond (decide (i6 < (f1.values.length : Int))) (cond (decide (i6 = v_4.keyLength)) ((catS s5 (⟨#[124]⟩ : ByteArray)).bind fun cat_12 => (getI f1.values i6).bind fun v_14 => (m_spec_FormatInt u v_14).bind fun r_19 => (catS cat_12 r_19).bind fun cat_21 => some (.next (cat_21, (w64 (i6 + 1))))) ((getI f1.values i6).bind fun v_23 => (m_spec_FormatInt u v_23).bind fun r_28 => (catS s5 r_28).bind fun cat_30 => some (.next (cat_30, (w64 (i6 + 1)))))) (some (.brk (s5, i6)))) u (v_4.name, 0)).bind fun O9_ => onS O9_ (fun (⟨s5, i6⟩ : ByteArray × Int) => some s5) (fun r => none))
def m_spec_FormatEdit (u : Nat) (d0 : Database) (e1 : Edit) : Option ByteArray :=
  (m_spec_FormatFact u d0.relations e1.fact).bind fun r_1 => (cond (decide (r_1 = (⟨#[]⟩ : ByteArray))) (some true) ((m_spec_l1In e1.kind 1 3).bind fun r_6 => some (!r_6))).bind fun (t18_3 : Bool) => cond t18_3 (some (⟨#[]⟩ : ByteArray)) ((getI ([(⟨#[43]⟩ : ByteArray), (⟨#[45]⟩ : ByteArray), (⟨#[33]⟩ : ByteArray)] : (List ByteArray)) (w64 (e1.kind - 1))).bind fun v_9 => (catS v_9 r_1).bind fun cat_14 => some cat_14)
def m_spec_RelationIndex (l0 : (List Relation)) (name1 : ByteArray) : Option Int :=
  (forL (R := Int) (fun (i_1 : Int) (x_i_1 : Relation) (_ : Unit) => cond (decide (x_i_1.name = name1)) (some (.ret (i_1 : Int))) (some (.next ()))) l0 0 ()).bind fun O2_ => onS O2_ (fun (_ : Unit) => some (-1)) (fun r => some r)
def m_spec_ParseFact (u : Nat) (l0 : (List Relation)) (s1 : ByteArray) : Option (Fact × Bool) :=
  cond (decide (s1 = (⟨#[]⟩ : ByteArray))) (some (({ relation := 0, values := ([] : (List Int)) } : Fact), false)) ((cutB s1 0 1).bind fun ss_2 => (m_spec_RelationIndex l0 ss_2).bind fun r_4 => (gN (s1.size : Int)).bind fun _ => (forM (fun (i_6 : Int) (box1_values : (List Int)) => (getB s1 (i_6 : Int)).bind fun b_9 => cond (decide (b_9 ≠ 124)) ((getB s1 (i_6 : Int)).bind fun b_12 => (app 8 box1_values ([(w64 ((w64 b_12) - 48))] : (List Int))).bind fun us_14 => some us_14) (some box1_values)) ((s1.size : Int) - 1).toNat 1 ([] : (List Int))).bind fun (box1_values : (List Int)) => (m_spec_FormatFact u l0 ({ relation := r_4, values := box1_values } : Fact)).bind fun r_16 => cond (decide (r_16 ≠ s1)) (some (({ relation := 0, values := ([] : (List Int)) } : Fact), false)) (some (({ relation := r_4, values := box1_values } : Fact), true)))
def m_spec_ParseEdit (u : Nat) (d0 : Database) (s1 : ByteArray) : Option (Edit × Bool) :=
  (whileF (R := (Edit × Bool)) (fun (k6 : Int) => cond ((decide (k6 ≤ 3)) && (decide (s1 ≠ (⟨#[]⟩ : ByteArray)))) ((cutB s1 1 (s1.size : Int)).bind fun ss_6 => (m_spec_ParseFact u d0.relations ss_6).bind fun r_8 => (cond r_8.2 ((m_spec_FormatEdit u d0 ({ kind := k6, fact := r_8.1 } : Edit)).bind fun r_13 => some (decide (r_13 = s1))) (some false)).bind fun (t36_10 : Bool) => cond t36_10 (some (.ret (({ kind := k6, fact := r_8.1 } : Edit), true))) (some (.next (w64 (k6 + 1))))) (some (.brk k6))) u 1).bind fun O1_ => onS O1_ (fun (k6 : Int) => some (({ kind := 0, fact := ({ relation := 0, values := ([] : (List Int)) } : Fact) } : Edit), false)) (fun r => some r)
def m_strconv_Itoa (v0 : Int) : Option ByteArray := if -9223372036854775808 ≤ v0 ∧ v0 ≤ 9223372036854775807 then some ⟨(Go.Lib.itoa v0).toArray⟩ else none
def m_impl_FormatInt (n0 : Int) : Option ByteArray :=
  (m_strconv_Itoa n0).bind fun r_1 => some r_1
def m_impl_within (n0 : Int) (low1 : Int) (high2 : Int) : Option Bool :=
  some ((decide (low1 ≤ n0)) && (decide (n0 ≤ high2)))
def m_impl_IsValidRelation (relation0 : Relation) : Option Bool :=
  (cond (decide ((relation0.name.size : Int) = 1)) ((getB relation0.name 0).bind fun b_4 => cond (decide (97 ≤ b_4)) ((getB relation0.name 0).bind fun b_7 => cond (decide (b_7 ≤ 122)) ((m_impl_within relation0.arity 1 3).bind fun r_10 => cond r_10 ((m_impl_within relation0.keyLength 0 relation0.arity).bind fun r_13 => some r_13) (some false)) (some false)) (some false)) (some false)).bind fun (t2_1 : Bool) => some t2_1
def m_impl_AreValidRelations (relations0 : (List Relation)) : Option Bool :=
  (forL (R := Bool) (fun (t_1 : Int) (x_t_1 : Relation) (_ : Unit) => ((m_impl_IsValidRelation x_t_1).bind fun r_5 => cond (!r_5) (some true) (cond (decide (0 < (t_1 : Int))) ((getI relations0 ((t_1 : Int) - 1)).bind fun v_9 => some (!ltS v_9.name x_t_1.name)) (some false))).bind fun (t29_3 : Bool) => cond t29_3 (some (.ret false)) (some (.next ()))) relations0 0 ()).bind fun O2_ => onS O2_ (fun (_ : Unit) => some (decide ((relations0.length : Int) ≤ 4))) (fun r => some r)
def m_slices_IndexFunc_Sint_int (s0 : (List Int)) (f1 : (Int → Option Bool)) : Option Int :=
  (forL (R := Int) (fun (t_1 : Int) (x_t_1 : Int) (_ : Unit) => (f1 x_t_1).bind fun r_3 => cond r_3 (some (.ret (t_1 : Int))) (some (.next ()))) s0 0 ()).bind fun O2_ => onS O2_ (fun (_ : Unit) => some (-1)) (fun r => some r)
def m_slices_ContainsFunc_Sint_int (s0 : (List Int)) (f1 : (Int → Option Bool)) : Option Bool :=
  (m_slices_IndexFunc_Sint_int s0 f1).bind fun r_1 => some (decide (0 ≤ r_1))
def m_impl_areValues_1 (v0 : Int) : Option Bool :=
  (m_impl_within v0 0 9).bind fun r_1 => some (!r_1)
def m_impl_areValues (list0 : (List Int)) : Option Bool :=
  (m_slices_ContainsFunc_Sint_int list0 (fun x0 => m_impl_areValues_1 x0)).bind fun r_1 => some (!r_1)
def m_impl_isFact (relations0 : (List Relation)) (fact1 : Fact) : Option Bool :=
  ((m_impl_within fact1.relation 0 ((relations0.length : Int) - 1)).bind fun r_4 => cond r_4 ((getI relations0 fact1.relation).bind fun v_7 => cond (decide ((fact1.values.length : Int) = v_7.arity)) ((m_impl_areValues fact1.values).bind fun r_13 => some r_13) (some false)) (some false)).bind fun (t4_1 : Bool) => some t4_1
def m_impl_IsValidFact (relations0 : (List Relation)) (fact1 : Fact) : Option Bool :=
  ((m_impl_AreValidRelations relations0).bind fun r_3 => cond r_3 ((m_impl_isFact relations0 fact1).bind fun r_6 => some r_6) (some false)).bind fun (t4_1 : Bool) => some t4_1
def m_strings_Join (s0 : List ByteArray) (v1 : ByteArray) : Option ByteArray := if s0.length ≤ 140737488355328 ∧ (Go.Lib.join (s0.map (·.data.toList)) v1.data.toList).length ≤ 140737488355328 then some ⟨(Go.Lib.join (s0.map (·.data.toList)) v1.data.toList).toArray⟩ else none
def m_impl_barred (parts0 : (List ByteArray)) (at1 : Int) : Option ByteArray :=
  (cutI parts0 0 at1).bind fun ys_1 => (m_strings_Join ys_1 (⟨#[]⟩ : ByteArray)).bind fun r_3 => cond (decide (at1 < (parts0.length : Int))) ((cutI parts0 at1 (parts0.length : Int)).bind fun ys_6 => (m_strings_Join ys_6 (⟨#[]⟩ : ByteArray)).bind fun r_8 => (catS (⟨#[124]⟩ : ByteArray) r_8).bind fun cat_10 => (catS r_3 cat_10).bind fun cat_12 => some cat_12) (some r_3)
def m_impl_FormatFact (relations0 : (List Relation)) (fact1 : Fact) : Option ByteArray :=
  (m_impl_IsValidFact relations0 fact1).bind fun r_1 => cond (!r_1) (some (⟨#[]⟩ : ByteArray)) ((forS (fun (t_4 : Int) (x_t_4 : Int) (parts5 : (List ByteArray)) => (m_impl_FormatInt x_t_4).bind fun r_6 => (app 16 parts5 ([r_6] : (List ByteArray))).bind fun us_8 => some us_8) fact1.values 0 ([] : (List ByteArray))).bind fun (parts5 : (List ByteArray)) => (getI relations0 fact1.relation).bind fun v_10 => (m_impl_barred parts5 v_10.keyLength).bind fun r_15 => (catS v_10.name r_15).bind fun cat_17 => some cat_17)
def m_slices_IndexFunc_Simpl_Relation_impl_Relation (s0 : (List Relation)) (f1 : (Relation → Option Bool)) : Option Int :=
  (forL (R := Int) (fun (t_1 : Int) (x_t_1 : Relation) (_ : Unit) => (f1 x_t_1).bind fun r_3 => cond r_3 (some (.ret (t_1 : Int))) (some (.next ()))) s0 0 ()).bind fun O2_ => onS O2_ (fun (_ : Unit) => some (-1)) (fun r => some r)
def m_impl_RelationIndex_1 (r0 : Relation) (fv1 : ByteArray) : Option Bool :=
  some (decide (r0.name = fv1))
def m_impl_RelationIndex (relations0 : (List Relation)) (name1 : ByteArray) : Option Int :=
  (m_slices_IndexFunc_Simpl_Relation_impl_Relation relations0 (fun x0 => m_impl_RelationIndex_1 x0 name1)).bind fun r_1 => some r_1
def m_impl_ParseFact (relations0 : (List Relation)) (s1 : ByteArray) : Option (Fact × Bool) :=
  cond (decide (s1 = (⟨#[]⟩ : ByteArray))) (some (({ relation := 0, values := ([] : (List Int)) } : Fact), false)) ((cutB s1 0 1).bind fun ss_2 => (m_impl_RelationIndex relations0 ss_2).bind fun r_4 => (gN (s1.size : Int)).bind fun _ => (forM (fun (i_6 : Int) (box1_values : (List Int)) => (getB s1 (i_6 : Int)).bind fun b_9 => cond (decide (b_9 ≠ 124)) ((getB s1 (i_6 : Int)).bind fun b_12 => (app 8 box1_values ([(w64 ((w64 b_12) - 48))] : (List Int))).bind fun us_14 => some us_14) (some box1_values)) ((s1.size : Int) - 1).toNat 1 ([] : (List Int))).bind fun (box1_values : (List Int)) => (m_impl_FormatFact relations0 ({ relation := r_4, values := box1_values } : Fact)).bind fun r_16 => cond (decide (r_16 ≠ s1)) (some (({ relation := 0, values := ([] : (List Int)) } : Fact), false)) (some (({ relation := r_4, values := box1_values } : Fact), true)))
def m_impl_ParseEdit (u : Nat) (db0 : Database) (s1 : ByteArray) : Option (Edit × Bool) :=
  (whileF (R := (Edit × Bool)) (fun (kind6 : Int) => cond ((decide (kind6 ≤ 3)) && (decide (s1 ≠ (⟨#[]⟩ : ByteArray)))) ((getB s1 0).bind fun b_6 => (getB (⟨#[32, 43, 45, 33]⟩ : ByteArray) kind6).bind fun b_8 => cond (decide (b_6 ≠ b_8)) (some (.next (w64 (kind6 + 1)))) ((cutB s1 1 (s1.size : Int)).bind fun ss_11 => (m_impl_ParseFact db0.relations ss_11).bind fun r_13 => cond (!r_13.2) (some (.ret (({ kind := 0, fact := ({ relation := 0, values := ([] : (List Int)) } : Fact) } : Edit), false))) (some (.ret (({ kind := kind6, fact := r_13.1 } : Edit), true))))) (some (.brk kind6))) u 1).bind fun O1_ => onS O1_ (fun (kind6 : Int) => some (({ kind := 0, fact := ({ relation := 0, values := ([] : (List Int)) } : Fact) } : Edit), false)) (fun r => some r)
def m_laws_markText (u : Nat) (k0 : Int) : Option ByteArray :=
  cond (decide (k0 ≤ 0)) (some (⟨#[109, 48]⟩ : ByteArray)) ((whileF (R := ByteArray) (fun (⟨k0, out3⟩ : Int × ByteArray) => cond (decide (0 < k0)) ((catS (strOf ([(IntKind.wrap .u8 (w64 (48 + (k0.tmod 10))))] : (List Int))) out3).bind fun cat_4 => some (.next ((w64 (k0.tdiv 10)), cat_4))) (some (.brk (k0, out3)))) u (k0, (⟨#[]⟩ : ByteArray))).bind fun O2_ => onS O2_ (fun (⟨k0, out3⟩ : Int × ByteArray) => (catS (⟨#[109]⟩ : ByteArray) out3).bind fun cat_6 => some cat_6) (fun r => none))
def m_laws_markRelationS (u : Nat) (a0 : (List Relation)) (k1 : Int) : Option (Int × (List Relation)) :=
  (forM (fun (i_1 : Int) (⟨a0m, k1⟩ : (List Relation) × Int) => (m_laws_markText u k1).bind fun r_3 => (getI a0m (i_1 : Int)).bind fun v_5 => (getI (a0m.set ((i_1 : Int)).toNat ({ name := r_3, arity := v_5.arity, keyLength := v_5.keyLength } : Relation)) (i_1 : Int)).bind fun v_10 => (getI ((a0m.set ((i_1 : Int)).toNat ({ name := r_3, arity := v_5.arity, keyLength := v_5.keyLength } : Relation)).set ((i_1 : Int)).toNat ({ name := v_10.name, arity := (w64 (k1 + 1)), keyLength := v_10.keyLength } : Relation)) (i_1 : Int)).bind fun v_15 => some ((((a0m.set ((i_1 : Int)).toNat ({ name := r_3, arity := v_5.arity, keyLength := v_5.keyLength } : Relation)).set ((i_1 : Int)).toNat ({ name := v_10.name, arity := (w64 (k1 + 1)), keyLength := v_10.keyLength } : Relation)).set ((i_1 : Int)).toNat ({ name := v_15.name, arity := v_15.arity, keyLength := (w64 ((w64 (k1 + 1)) + 1)) } : Relation)), (w64 ((w64 ((w64 (k1 + 1)) + 1)) + 1)))) ((a0.length : Int) - 0).toNat 0 (a0, k1)).bind fun (⟨a0m, k1⟩ : (List Relation) × Int) => some (k1, a0m)
def m_laws_markIntS (a0 : (List Int)) (k1 : Int) : Option (Int × (List Int)) :=
  (forM (fun (i_1 : Int) (⟨a0m, k1⟩ : (List Int) × Int) => (getI a0m (i_1 : Int)).bind fun v_3 => some ((a0m.set ((i_1 : Int)).toNat k1), (w64 (k1 + 1)))) ((a0.length : Int) - 0).toNat 0 (a0, k1)).bind fun (⟨a0m, k1⟩ : (List Int) × Int) => some (k1, a0m)
def m_laws_markFactS (a0 : (List Fact)) (k1 : Int) : Option (Int × (List Fact)) :=
  (forM (fun (i_1 : Int) (⟨a0m, k1⟩ : (List Fact) × Int) => (getI a0m (i_1 : Int)).bind fun v_3 => (getI (a0m.set ((i_1 : Int)).toNat ({ relation := k1, values := v_3.values } : Fact)) (i_1 : Int)).bind fun v_8 => (m_laws_markIntS v_8.values (w64 (k1 + 1))).bind fun r_13 => some (((a0m.set ((i_1 : Int)).toNat ({ relation := k1, values := v_3.values } : Fact)).set ((i_1 : Int)).toNat ({ relation := v_8.relation, values := r_13.2 } : Fact)), r_13.1)) ((a0.length : Int) - 0).toNat 0 (a0, k1)).bind fun (⟨a0m, k1⟩ : (List Fact) × Int) => some (k1, a0m)
def m_laws_markDatabase (u : Nat) (a0 : Database) (k1 : Int) : Option (Int × Database) :=
  (m_laws_markRelationS u a0.relations k1).bind fun r_1 => (m_laws_markFactS a0.facts r_1.1).bind fun r_5 => some (r_5.1, ({ relations := r_1.2, facts := r_5.2 } : Database))
def m_laws_markFact (a0 : Fact) (k1 : Int) : Option (Int × Fact) :=
  (m_laws_markIntS a0.values k1).bind fun r_1 => some (r_1.1, ({ relation := a0.relation, values := r_1.2 } : Fact))
def m_laws_markEdit (a0 : Edit) (k1 : Int) : Option (Int × Edit) :=
  (m_laws_markFact a0.fact k1).bind fun r_1 => some (r_1.1, ({ kind := a0.kind, fact := ({ relation := a0.fact.relation, values := r_1.2.values } : Fact) } : Edit))
def m_laws_heldIntS (a0 : (List Int)) (k1 : Int) : Option Int :=
  (forL (R := Int) (fun (i_1 : Int) (x_i_1 : Int) (k1 : Int) => cond (decide (x_i_1 ≠ k1)) (some (.ret (-1))) (some (.next (w64 (k1 + 1))))) a0 0 k1).bind fun O2_ => onS O2_ (fun (k1 : Int) => some k1) (fun r => some r)
def m_laws_heldFact (a0 : Fact) (k1 : Int) : Option Int :=
  (m_laws_heldIntS a0.values k1).bind fun r_1 => cond (decide (r_1 < 0)) (some (-1)) (some r_1)
def m_laws_heldEdit (a0 : Edit) (k1 : Int) : Option Int :=
  (m_laws_heldFact a0.fact k1).bind fun r_1 => cond (decide (r_1 < 0)) (some (-1)) (some r_1)
def m_laws_FnExactParseEdit (u : Nat) (aDb0 : Database) (aS1 : ByteArray) : Option Bool :=
  cond (decide (1048576 < (aS1.size : Int))) (some true) ((m_laws_szDatabase aDb0 1048576).bind fun r_2 => cond (decide (r_2 < 0)) (some true) ((m_laws_toDatabase aDb0).bind fun r_5 => (m_spec_ParseEdit u r_5 aS1).bind fun r_7 => (m_laws_toDatabase aDb0).bind fun r_9 => (m_impl_ParseEdit u r_9 aS1).bind fun r_11 => ((m_laws_eqEdit r_11.1 r_7.1).bind fun r_15 => cond (!r_15) (some true) (some (r_11.2 != r_7.2))).bind fun (t47_13 : Bool) => cond t47_13 (some false) ((m_laws_toDatabase aDb0).bind fun r_19 => (m_laws_eqDatabase r_9 r_19).bind fun r_21 => cond (!r_21) (some false) ((m_laws_markDatabase u r_9 1).bind fun r_24 => (cond (decide (r_24.1 < 0)) (some true) ((m_laws_eqEdit r_11.1 r_7.1).bind fun r_32 => cond (!r_32) (some true) (some (r_11.2 != r_7.2)))).bind fun (t68_29 : Bool) => cond t68_29 (some false) ((m_laws_markEdit r_11.1 1).bind fun r_36 => (m_laws_heldEdit ({ kind := r_11.1.kind, fact := ({ relation := r_11.1.fact.relation, values := r_36.2.fact.values } : Fact) } : Edit) 1).bind fun r_40 => cond (decide (r_40 < 0)) (some false) (cond (decide (r_40 ≠ r_36.1)) (some false) ((m_laws_toDatabase aDb0).bind fun r_44 => (m_impl_ParseEdit u r_44 aS1).bind fun r_46 => ((m_laws_eqEdit r_46.1 r_7.1).bind fun r_50 => cond (!r_50) (some true) (some (r_46.2 != r_7.2))).bind fun (t95_48 : Bool) => cond t95_48 (some false) ((m_laws_heldEdit ({ kind := r_11.1.kind, fact := ({ relation := r_11.1.fact.relation, values := r_36.2.fact.values } : Fact) } : Edit) 1).bind fun r_54 => cond (decide (r_54 < 0)) (some false) (cond (decide (r_54 ≠ r_36.1)) (some false) (some true))))))))))
def m_laws_szEdit (a0 : Edit) (left1 : Int) : Option Int :=
  (m_laws_szFact a0.fact left1).bind fun r_1 => cond (decide (r_1 < 0)) (some (-1)) (some r_1)
def m_laws_toEdit (a0 : Edit) : Option Edit :=
  (m_laws_toFact a0.fact).bind fun r_1 => some ({ kind := a0.kind, fact := r_1 } : Edit)
def m_impl_FormatEdit (db0 : Database) (edit1 : Edit) : Option ByteArray :=
  (m_impl_FormatFact db0.relations edit1.fact).bind fun r_1 => (cond (decide (r_1 = (⟨#[]⟩ : ByteArray))) (some true) ((m_impl_within edit1.kind 1 3).bind fun r_6 => some (!r_6))).bind fun (t18_3 : Bool) => cond t18_3 (some (⟨#[]⟩ : ByteArray)) ((cutB (⟨#[32, 43, 45, 33]⟩ : ByteArray) edit1.kind (w64 (edit1.kind + 1))).bind fun ss_9 => (catS ss_9 r_1).bind fun cat_11 => some cat_11)
def m_laws_FnExactFormatEdit (u : Nat) (aDb0 : Database) (aEdit1 : Edit) : Option Bool :=
  (m_laws_szDatabase aDb0 1048576).bind fun r_1 => cond (decide (r_1 < 0)) (some true) ((m_laws_szEdit aEdit1 r_1).bind fun r_4 => cond (decide (r_4 < 0)) (some true) ((m_laws_toDatabase aDb0).bind fun r_7 => (m_laws_toEdit aEdit1).bind fun r_9 => (m_spec_FormatEdit u r_7 r_9).bind fun r_11 => (m_laws_toDatabase aDb0).bind fun r_13 => (m_laws_toEdit aEdit1).bind fun r_15 => (m_impl_FormatEdit r_13 r_15).bind fun r_17 => cond (decide (r_17 ≠ r_11)) (some false) ((m_laws_toDatabase aDb0).bind fun r_20 => (m_laws_eqDatabase r_13 r_20).bind fun r_22 => cond (!r_22) (some false) ((m_laws_toEdit aEdit1).bind fun r_25 => (m_laws_eqEdit r_15 r_25).bind fun r_27 => cond (!r_27) (some false) (some true)))))
end Go.Proofs.YtaadmoaanhdboaaDoor

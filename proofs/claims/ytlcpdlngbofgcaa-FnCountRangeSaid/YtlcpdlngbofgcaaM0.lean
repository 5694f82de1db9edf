import Derived.Test.YtlcpdlngbofgcaaCRD
set_option linter.unusedVariables false
set_option maxRecDepth 4000
namespace Go.Proofs.Ytlcpdlngbofgcaa
open Go Go.Proofs Go.Sep
structure Relation where
  name : ByteArray
  arity : Int
  keyLength : Int
instance : Inhabited Relation := ⟨⟨default, default, default⟩⟩
instance : DecidableEq Relation := fun a b => decidable_of_iff (a.name = b.name ∧ a.arity = b.arity ∧ a.keyLength = b.keyLength) (by cases a; cases b; simp)
def RdRelation (x : Relation) : Prop := x.name.size ≤ 9223372036854775807 ∧ ((-9223372036854775808 ≤ x.arity ∧ x.arity ≤ 9223372036854775807) ∧ (-9223372036854775808 ≤ x.keyLength ∧ x.keyLength ≤ 9223372036854775807))
def tRelation : Ty Relation := tAs (fun x => (x.name, (x.arity, x.keyLength))) (tP tStr (tP tInt tInt))
structure Fact where
  relation : Int
  values : (List Int)
instance : Inhabited Fact := ⟨⟨default, default⟩⟩
instance : DecidableEq Fact := fun a b => decidable_of_iff (a.relation = b.relation ∧ a.values = b.values) (by cases a; cases b; simp)
def RdFact (x : Fact) : Prop := (-9223372036854775808 ≤ x.relation ∧ x.relation ≤ 9223372036854775807) ∧ (x.values.length ≤ 9223372036854775807 ∧ ∀ yues ∈ x.values, (-9223372036854775808 ≤ yues ∧ yues ≤ 9223372036854775807))
def tFact : Ty Fact := tAs (fun x => (x.relation, x.values)) (tP tInt (tSl tInt))
structure Database where
  relations : (List Relation)
  facts : (List Fact)
instance : Inhabited Database := ⟨⟨default, default⟩⟩
instance : DecidableEq Database := fun a b => decidable_of_iff (a.relations = b.relations ∧ a.facts = b.facts) (by cases a; cases b; simp)
def RdDatabase (x : Database) : Prop := (x.relations.length ≤ 9223372036854775807 ∧ ∀ yons ∈ x.relations, RdRelation yons) ∧ (x.facts.length ≤ 9223372036854775807 ∧ ∀ ycts ∈ x.facts, RdFact ycts)
def tDatabase : Ty Database := tAs (fun x => (x.relations, x.facts)) (tP (tSl tRelation) (tSl tFact))
structure l1Cur where
  b : (List Int)
  i : Int
  h : Int
instance : Inhabited l1Cur := ⟨⟨default, default, default⟩⟩
instance : DecidableEq l1Cur := fun a b => decidable_of_iff (a.b = b.b ∧ a.i = b.i ∧ a.h = b.h) (by cases a; cases b; simp)
def Rdl1Cur (x : l1Cur) : Prop := (x.b.length ≤ 9223372036854775807 ∧ ∀ yxb ∈ x.b, (0 ≤ yxb ∧ yxb ≤ 255)) ∧ ((-9223372036854775808 ≤ x.i ∧ x.i ≤ 9223372036854775807) ∧ (-9223372036854775808 ≤ x.h ∧ x.h ≤ 9223372036854775807))
def tl1Cur : Ty l1Cur := tAs (fun x => (x.b, (x.i, x.h))) (tP (tSl (tI .u8)) (tP tInt tInt))
def m_laws_big (code0 : (List Int)) : Option Bool :=
  some (decide (1048576 < (code0.length : Int)))
def m_spec_l1In (x0 : Int) (low1 : Int) (high2 : Int) : Option Bool :=
  some ((decide (low1 ≤ x0)) && (decide (x0 ≤ high2)))
def m_spec_IsValidRelation (s0 : Relation) : Option Bool :=
  (cond (decide ((s0.name.size : Int) = 1)) ((getB s0.name 0).bind fun b_4 => cond (decide (97 ≤ b_4)) ((getB s0.name 0).bind fun b_7 => cond (decide (b_7 ≤ 122)) ((m_spec_l1In s0.arity 1 3).bind fun r_10 => cond r_10 ((m_spec_l1In s0.keyLength 0 s0.arity).bind fun r_13 => some r_13) (some false)) (some false)) (some false)) (some false)).bind fun (t2_1 : Bool) => some t2_1
def m_spec_AreValidRelations (l0 : (List Relation)) : Option Bool :=
  (forL (R := Bool) (fun (i_1 : Int) (x_i_1 : Relation) (_ : Unit) => ((m_spec_IsValidRelation x_i_1).bind fun r_5 => cond (!r_5) (some true) (cond (decide (0 < (i_1 : Int))) ((getI l0 ((i_1 : Int) - 1)).bind fun v_9 => some (!ltS v_9.name x_i_1.name)) (some false))).bind fun (t33_3 : Bool) => cond t33_3 (some (.ret false)) (some (.next ()))) l0 0 ()).bind fun O2_ => onS O2_ (fun (_ : Unit) => some (decide ((l0.length : Int) ≤ 4))) (fun r => some r)
def m_spec_IsValidFact (u : Nat) (l0 : (List Relation)) (f1 : Fact) : Option Bool :=
  ((m_spec_AreValidRelations l0).bind fun r_3 => cond (!r_3) (some true) ((m_spec_l1In f1.relation 0 ((l0.length : Int) - 1)).bind fun r_7 => cond (!r_7) (some true) ((getI l0 f1.relation).bind fun v_10 => some (decide ((f1.values.length : Int) ≠ v_10.arity))))).bind fun (t29_1 : Bool) => cond t29_1 (some false) ((whileF (R := Bool) (fun (i5 : Int) => cond (decide (i5 < (f1.values.length : Int))) ((getI f1.values i5).bind fun v_18 => (m_spec_l1In v_18 0 9).bind fun r_23 => cond (!r_23) (some (.ret false)) (some (.next (w64 (i5 + 1))))) (some (.brk i5))) u 0).bind fun O16_ => onS O16_ (fun (i5 : Int) => some true) (fun r => some r))
def m_spec_l3Ints (u : Nat) (a0 : (List Int)) (b1 : (List Int)) : Option Int :=
  (whileF (R := Int) (fun (i5 : Int) => cond ((decide (i5 < (a0.length : Int))) && (decide (i5 < (b1.length : Int)))) ((getI a0 i5).bind fun v_6 => (getI b1 i5).bind fun v_11 => cond (decide (v_6 < v_11)) (some (.ret (-1))) (cond (decide (v_11 < v_6)) (some (.ret 1)) (some (.next (w64 (i5 + 1)))))) (some (.brk i5))) u 0).bind fun O1_ => onS O1_ (fun (i5 : Int) => cond (decide ((a0.length : Int) < (b1.length : Int))) (some (-1)) (cond (decide ((b1.length : Int) < (a0.length : Int))) (some 1) (some 0))) (fun r => some r)
def m_spec_CompareFacts (u : Nat) (a0 : Fact) (b1 : Fact) : Option Int :=
  cond (decide (a0.relation < b1.relation)) (some (-1)) (cond (decide (b1.relation < a0.relation)) (some 1) ((m_spec_l3Ints u a0.values b1.values).bind fun r_3 => some r_3))
def m_spec_IsValidDatabase (u : Nat) (d0 : Database) : Option Bool :=
  (whileF (R := Bool) (fun (i3 : Int) => cond (decide (i3 < (d0.facts.length : Int))) (((getI d0.facts i3).bind fun v_5 => (m_spec_IsValidFact u d0.relations v_5).bind fun r_10 => cond (!r_10) (some true) (cond (decide (0 < i3)) ((getI d0.facts (w64 (i3 - 1))).bind fun v_14 => (m_spec_CompareFacts u v_14 v_5).bind fun r_19 => some (decide (0 ≤ r_19))) (some false))).bind fun (t38_3 : Bool) => cond t38_3 (some (.ret false)) (some (.next (w64 (i3 + 1))))) (some (.brk i3))) u 0).bind fun O1_ => onS O1_ (fun (i3 : Int) => ((m_spec_AreValidRelations d0.relations).bind fun r_24 => cond r_24 (some (decide ((d0.facts.length : Int) ≤ 14))) (some false)).bind fun (t2_22 : Bool) => some t2_22) (fun r => some r)
def m_spec_l27Ok (u : Nat) (d0 : Database) (r1 : Int) (col2 : Int) : Option Bool :=
  ((m_spec_IsValidDatabase u d0).bind fun r_3 => cond r_3 ((m_spec_l1In r1 0 ((d0.relations.length : Int) - 1)).bind fun r_7 => cond r_7 ((getI d0.relations r1).bind fun v_10 => (m_spec_l1In col2 0 (w64 (v_10.arity - 1))).bind fun r_15 => some r_15) (some false)) (some false)).bind fun (t6_1 : Bool) => some t6_1
def m_spec_KeyOf (u : Nat) (l0 : (List Relation)) (f1 : Fact) : Option (List Int) :=
  (m_spec_IsValidFact u l0 f1).bind fun r_1 => cond (!r_1) (some ([] : (List Int))) ((getI l0 f1.relation).bind fun v_4 => (cutI f1.values 0 v_4.keyLength).bind fun ys_9 => (app 8 ([] : (List Int)) ys_9).bind fun us_11 => some us_11)
def m_spec_HaveSameKey (u : Nat) (l0 : (List Relation)) (a1 : Fact) (b2 : Fact) : Option Bool :=
  ((m_spec_IsValidFact u l0 a1).bind fun r_3 => cond r_3 ((m_spec_IsValidFact u l0 b2).bind fun r_6 => cond r_6 (cond (decide (a1.relation = b2.relation)) ((m_spec_KeyOf u l0 a1).bind fun r_10 => (m_spec_KeyOf u l0 b2).bind fun r_12 => (m_spec_l3Ints u r_10 r_12).bind fun r_14 => some (decide (r_14 = 0))) (some false)) (some false)) (some false)).bind fun (t6_1 : Bool) => some t6_1
def m_spec_BlockOf (u : Nat) (d0 : Database) (i1 : Int) : Option (List Int) :=
  (whileF (R := (List Int)) (fun (⟨out5, k6⟩ : (List Int) × Int) => (cond (decide (k6 < (d0.facts.length : Int))) ((m_spec_IsValidDatabase u d0).bind fun r_5 => cond r_5 ((m_spec_l1In i1 0 ((d0.facts.length : Int) - 1)).bind fun r_9 => some r_9) (some false)) (some false)).bind fun (t24_2 : Bool) => cond t24_2 ((getI d0.facts i1).bind fun v_12 => (getI d0.facts k6).bind fun v_17 => (m_spec_HaveSameKey u d0.relations v_12 v_17).bind fun r_22 => cond r_22 ((app 8 out5 ([k6] : (List Int))).bind fun us_25 => some (.next (us_25, (w64 (k6 + 1))))) (some (.next (out5, (w64 (k6 + 1)))))) (some (.brk (out5, k6)))) u (([] : (List Int)), 0)).bind fun O1_ => onS O1_ (fun (⟨out5, k6⟩ : (List Int) × Int) => some out5) (fun r => none)
def m_spec_Blocks (u : Nat) (d0 : Database) : Option (List (List Int)) :=
  (whileF (R := (List (List Int))) (fun (⟨out3, i4⟩ : (List (List Int)) × Int) => (cond (decide (i4 < (d0.facts.length : Int))) ((m_spec_IsValidDatabase u d0).bind fun r_5 => some r_5) (some false)).bind fun (t15_2 : Bool) => cond t15_2 ((m_spec_BlockOf u d0 i4).bind fun r_8 => (getI r_8 0).bind fun v_10 => cond (decide (v_10 = i4)) ((app 24 out3 ([r_8] : (List (List Int)))).bind fun us_16 => some (.next (us_16, (w64 (i4 + 1))))) (some (.next (out3, (w64 (i4 + 1)))))) (some (.brk (out3, i4)))) u (([] : (List (List Int))), 0)).bind fun O1_ => onS O1_ (fun (⟨out3, i4⟩ : (List (List Int)) × Int) => some out3) (fun r => none)
def m_spec_l27Vals (u : Nat) (d0 : Database) (r1 : Int) (col2 : Int) : Option (List (List Int)) :=
  (m_spec_Blocks u d0).bind fun r_1 => (forS (fun (i_3 : Int) (x_i_3 : (List Int)) (out7 : (List (List Int))) => (getI x_i_3 0).bind fun v_5 => (getI d0.facts v_5).bind fun v_10 => cond (decide (v_10.relation ≠ r1)) (some out7) ((whileF (R := (List (List Int))) (fun (⟨l10, k11⟩ : (List Int) × Int) => cond (decide (k11 < (x_i_3.length : Int))) ((getI x_i_3 k11).bind fun v_18 => (getI d0.facts v_18).bind fun v_23 => (getI v_23.values col2).bind fun v_28 => (app 8 l10 ([v_28] : (List Int))).bind fun us_33 => some (.next (us_33, (w64 (k11 + 1))))) (some (.brk (l10, k11)))) u (([] : (List Int)), 0)).bind fun O16_ => onS O16_ (fun (⟨l10, k11⟩ : (List Int) × Int) => (app 24 out7 ([l10] : (List (List Int)))).bind fun us_35 => some us_35) (fun r => none))) r_1 0 ([] : (List (List Int)))).bind fun (out7 : (List (List Int))) => some out7
def m_spec_CountRange (u : Nat) (d0 : Database) (r1 : Int) (col2 : Int) (v3 : Int) : Option (Int × Int × Bool) :=
  (m_spec_l27Ok u d0 r1 col2).bind fun r_1 => cond (!r_1) (some (0, 0, false)) ((m_spec_l27Vals u d0 r1 col2).bind fun r_4 => (forS (fun (i_6 : Int) (x_i_6 : (List Int)) (⟨lo11, hi12⟩ : Int × Int) => (whileF (R := (Int × Int × Bool)) (fun (⟨n15, k16⟩ : Int × Int) => cond (decide (k16 < (x_i_6.length : Int))) ((getI x_i_6 k16).bind fun v_10 => cond (decide (v_10 = v3)) (some (.next ((w64 (n15 + 1)), (w64 (k16 + 1))))) (some (.next (n15, (w64 (k16 + 1)))))) (some (.brk (n15, k16)))) u (0, 0)).bind fun O8_ => onS O8_ (fun (⟨n15, k16⟩ : Int × Int) => cond (decide (0 < n15)) (cond (decide (n15 = (x_i_6.length : Int))) (some ((w64 (lo11 + 1)), (w64 (hi12 + 1)))) (some (lo11, (w64 (hi12 + 1))))) (cond (decide (n15 = (x_i_6.length : Int))) (some ((w64 (lo11 + 1)), hi12)) (some (lo11, hi12)))) (fun r => none)) r_4 0 (0, 0)).bind fun (⟨lo11, hi12⟩ : Int × Int) => some (lo11, hi12, true))
def m_impl_within (n0 : Int) (low1 : Int) (high2 : Int) : Option Bool :=
  some ((decide (low1 ≤ n0)) && (decide (n0 ≤ high2)))
def m_impl_IsValidRelation (relation0 : Relation) : Option Bool :=
  (cond (decide ((relation0.name.size : Int) = 1)) ((getB relation0.name 0).bind fun b_4 => cond (decide (97 ≤ b_4)) ((getB relation0.name 0).bind fun b_7 => cond (decide (b_7 ≤ 122)) ((m_impl_within relation0.arity 1 3).bind fun r_10 => cond r_10 ((m_impl_within relation0.keyLength 0 relation0.arity).bind fun r_13 => some r_13) (some false)) (some false)) (some false)) (some false)).bind fun (t2_1 : Bool) => some t2_1
def m_impl_AreValidRelations (relations0 : (List Relation)) : Option Bool :=
  (forL (R := Bool) (fun (t_1 : Int) (x_t_1 : Relation) (_ : Unit) => ((m_impl_IsValidRelation x_t_1).bind fun r_5 => cond (!r_5) (some true) (cond (decide (0 < (t_1 : Int))) ((getI relations0 ((t_1 : Int) - 1)).bind fun v_9 => some (!ltS v_9.name x_t_1.name)) (some false))).bind fun (t29_3 : Bool) => cond t29_3 (some (.ret false)) (some (.next ()))) relations0 0 ()).bind fun O2_ => onS O2_ (fun (_ : Unit) => some (decide ((relations0.length : Int) ≤ 4))) (fun r => some r)
def m_slices_IndexFunc_Sint_int (s0 : (List Int)) (f1 : (Int → Option Bool)) : Option Int :=
  (forL (R := Int) (fun (t_1 : Int) (x_t_1 : Int) (_ : Unit) => (f1 x_t_1).bind fun r_3 => cond r_3 (some (.ret (t_1 : Int))) (some (.next ()))) s0 0 ()).bind fun O2_ => onS O2_ (fun (_ : Unit) => some (-1)) (fun r => some r)
def m_slices_ContainsFunc_Sint_int (s0 : (List Int)) (f1 : (Int → Option Bool)) : Option Bool :=
  (m_slices_IndexFunc_Sint_int s0 f1).bind fun r_1 => some (decide (0 ≤ r_1))
def m_impl_areValues_1 (v0 : Int) : Option Bool :=
  (m_impl_within v0 0 9).bind fun r_1 => some (!r_1)
def m_impl_areValues (list0 : (List Int)) : Option Bool :=
  (m_slices_ContainsFunc_Sint_int list0 (fun x0 => m_impl_areValues_1 x0)).bind fun r_1 => some (!r_1)
def m_impl_isFact (relations0 : (List Relation)) (fact1 : Fact) : Option Bool :=
  ((m_impl_within fact1.relation 0 ((relations0.length : Int) - 1)).bind fun r_4 => cond r_4 ((getI relations0 fact1.relation).bind fun v_7 => cond (decide ((fact1.values.length : Int) = v_7.arity)) ((m_impl_areValues fact1.values).bind fun r_13 => some r_13) (some false)) (some false)).bind fun (t4_1 : Bool) => some t4_1
def m_impl_compare (a0 : Int) (b1 : Int) : Option Int :=
  cond (decide (a0 < b1)) (some (-1)) (cond (decide (b1 < a0)) (some 1) (some 0))
def m_cmp_isNaN_int (x0 : Int) : Option Bool :=
  some (decide (x0 ≠ x0))
def m_cmp_Compare_int (x0 : Int) (y1 : Int) : Option Int :=
  (m_cmp_isNaN_int x0).bind fun r_1 => (m_cmp_isNaN_int y1).bind fun r_3 => cond r_1 (cond r_3 (some 0) (some (-1))) (cond r_3 (some 1) (cond (decide (x0 < y1)) (some (-1)) (cond (decide (y1 < x0)) (some 1) (some 0))))
def m_slices_Compare_Sint_int (s10 : (List Int)) (s21 : (List Int)) : Option Int :=
  (forL (R := Int) (fun (t_1 : Int) (x_t_1 : Int) (_ : Unit) => cond (decide ((s21.length : Int) ≤ (t_1 : Int))) (some (.ret 1)) ((getI s21 (t_1 : Int)).bind fun v_4 => (m_cmp_Compare_int x_t_1 v_4).bind fun r_9 => cond (decide (r_9 ≠ 0)) (some (.ret r_9)) (some (.next ())))) s10 0 ()).bind fun O2_ => onS O2_ (fun (_ : Unit) => cond (decide ((s10.length : Int) < (s21.length : Int))) (some (-1)) (some 0)) (fun r => some r)
def m_impl_CompareFacts (a0 : Fact) (b1 : Fact) : Option Int :=
  cond (decide (a0.relation ≠ b1.relation)) ((m_impl_compare a0.relation b1.relation).bind fun r_2 => some r_2) ((m_slices_Compare_Sint_int a0.values b1.values).bind fun r_4 => some r_4)
def m_impl_IsValidDatabase (db0 : Database) : Option Bool :=
  ((m_impl_AreValidRelations db0.relations).bind fun r_3 => cond (!r_3) (some true) (some (decide (14 < (db0.facts.length : Int))))).bind fun (t14_1 : Bool) => cond t14_1 (some false) ((forL (R := Bool) (fun (t_7 : Int) (x_t_7 : Fact) (_ : Unit) => ((m_impl_isFact db0.relations x_t_7).bind fun r_11 => cond (!r_11) (some true) (cond (decide (0 < (t_7 : Int))) ((getI db0.facts ((t_7 : Int) - 1)).bind fun v_15 => (m_impl_CompareFacts v_15 x_t_7).bind fun r_20 => some (decide (0 ≤ r_20))) (some false))).bind fun (t42_9 : Bool) => cond t42_9 (some (.ret false)) (some (.next ()))) db0.facts 0 ()).bind fun O8_ => onS O8_ (fun (_ : Unit) => some true) (fun r => some r))
def m_impl_isColumn (db0 : Database) (relation1 : Int) (column2 : Int) : Option Bool :=
  ((m_impl_IsValidDatabase db0).bind fun r_3 => cond r_3 ((m_impl_within relation1 0 ((db0.relations.length : Int) - 1)).bind fun r_7 => cond r_7 ((getI db0.relations relation1).bind fun v_10 => (m_impl_within column2 0 (w64 (v_10.arity - 1))).bind fun r_15 => some r_15) (some false)) (some false)).bind fun (t6_1 : Bool) => some t6_1
def m_slices_IndexFunc_Simpl_Fact_impl_Fact (s0 : (List Fact)) (f1 : (Fact → Option Bool)) : Option Int :=
  (forL (R := Int) (fun (t_1 : Int) (x_t_1 : Fact) (_ : Unit) => (f1 x_t_1).bind fun r_3 => cond r_3 (some (.ret (t_1 : Int))) (some (.next ()))) s0 0 ()).bind fun O2_ => onS O2_ (fun (_ : Unit) => some (-1)) (fun r => some r)
def m_slices_ContainsFunc_Simpl_Fact_impl_Fact (s0 : (List Fact)) (f1 : (Fact → Option Bool)) : Option Bool :=
  (m_slices_IndexFunc_Simpl_Fact_impl_Fact s0 f1).bind fun r_1 => some (decide (0 ≤ r_1))
def m_impl_columnRange_1 (f0 : Fact) (fv1 : Int) : Option Bool :=
  some (decide (f0.relation = fv1))
def m_slices_Equal_Sint_int (s10 : (List Int)) (s21 : (List Int)) : Option Bool :=
  cond (decide ((s10.length : Int) ≠ (s21.length : Int))) (some false) ((forL (R := Bool) (fun (t_2 : Int) (x_t_2 : Int) (_ : Unit) => (getI s21 (t_2 : Int)).bind fun v_4 => cond (decide (x_t_2 ≠ v_4)) (some (.ret false)) (some (.next ()))) s10 0 ()).bind fun O3_ => onS O3_ (fun (_ : Unit) => some true) (fun r => some r))
def m_impl_sameKey (relations0 : (List Relation)) (a1 : Fact) (b2 : Fact) : Option Bool :=
  cond (decide (a1.relation ≠ b2.relation)) (some false) ((getI relations0 a1.relation).bind fun v_2 => (cutI a1.values 0 v_2.keyLength).bind fun ys_7 => (cutI b2.values 0 v_2.keyLength).bind fun ys_9 => (m_slices_Equal_Sint_int ys_7 ys_9).bind fun r_11 => some r_11)
def m_impl_blocks (db0 : Database) : Option (List (List Int)) :=
  (forS (fun (t_1 : Int) (x_t_1 : Fact) (out3 : (List (List Int))) => (cond (decide (0 ≤ ((out3.length : Int) - 1))) ((getI out3 ((out3.length : Int) - 1)).bind fun v_7 => (getI v_7 0).bind fun v_12 => (getI db0.facts v_12).bind fun v_17 => (m_impl_sameKey db0.relations v_17 x_t_1).bind fun r_22 => some r_22) (some false)).bind fun (t36_4 : Bool) => cond t36_4 ((getI out3 ((out3.length : Int) - 1)).bind fun v_25 => (app 8 v_25 ([(t_1 : Int)] : (List Int))).bind fun us_30 => some (out3.set (((out3.length : Int) - 1)).toNat us_30)) ((app 24 out3 ([([(t_1 : Int)] : (List Int))] : (List (List Int)))).bind fun us_32 => some us_32)) db0.facts 0 ([] : (List (List Int)))).bind fun (out3 : (List (List Int))) => some out3
def m_impl_nthRepair (u : Nat) (list0 : (List (List Int))) (rank1 : Int) : Option (List Int) :=
  (mk 8 (list0.length : Int) (0 : Int)).bind fun us_1 => (whileF (R := (List Int)) (fun (⟨rank1, out5, i6⟩ : Int × (List Int) × Int) => cond (decide (0 ≤ i6)) ((getI list0 i6).bind fun v_6 => (gD (v_6.length : Int)).bind fun _u => (getI v_6 (rank1.tmod (v_6.length : Int))).bind fun v_12 => (getI out5 i6).bind fun v_17 => (gD (v_6.length : Int)).bind fun _u => some (.next ((w64 (rank1.tdiv (v_6.length : Int))), (out5.set (i6).toNat v_12), (w64 (i6 - 1))))) (some (.brk (rank1, out5, i6)))) u (rank1, us_1, ((list0.length : Int) - 1))).bind fun O4_ => onS O4_ (fun (⟨rank1, out5, i6⟩ : Int × (List Int) × Int) => some out5) (fun r => none)
def m_impl_countRepairs (list0 : (List (List Int))) : Option Int :=
  (forS (fun (t_1 : Int) (x_t_1 : (List Int)) (out3 : Int) => some (w64 (out3 * (x_t_1.length : Int)))) list0 0 1).bind fun (out3 : Int) => some out3
def m_impl_rangeOf (u : Nat) (db0 : Database) (aggregate1 : ((List Int) → Option Int)) : Option (Int × Int) :=
  (m_impl_blocks db0).bind fun r_1 => (m_impl_nthRepair u r_1 0).bind fun r_3 => (aggregate1 r_3).bind fun r_5 => (m_impl_countRepairs r_1).bind fun r_7 => (gN r_7).bind fun _ => (forM (fun (t_9 : Int) (⟨least7, most8⟩ : Int × Int) => (m_impl_nthRepair u r_1 (t_9 : Int)).bind fun r_12 => (aggregate1 r_12).bind fun r_14 => some ((if r_14 < least7 then r_14 else least7), (if most8 < r_14 then r_14 else most8))) (r_7 - 0).toNat 0 (r_5, r_5)).bind fun (⟨least7, most8⟩ : Int × Int) => some (least7, most8)
def m_impl_columnOf (db0 : Database) (indices1 : (List Int)) (relation2 : Int) (column3 : Int) : Option (List Int) :=
  (forS (fun (t_1 : Int) (x_t_1 : Int) (out9 : (List Int)) => (getI db0.facts x_t_1).bind fun v_3 => cond (decide (v_3.relation = relation2)) ((getI v_3.values column3).bind fun v_9 => (app 8 out9 ([v_9] : (List Int))).bind fun us_14 => some us_14) (some out9)) indices1 0 ([] : (List Int))).bind fun (out9 : (List Int)) => some out9
def m_impl_columnRange_2 (repair0 : (List Int)) (fv1 : ((List Int) → Option Int)) (fv2 : Database) (fv3 : Int) (fv4 : Int) : Option Int :=
  (m_impl_columnOf fv2 repair0 fv3 fv4).bind fun r_1 => (fv1 r_1).bind fun r_3 => some r_3
def m_impl_columnRange (u : Nat) (db0 : Database) (relation1 : Int) (column2 : Int) (nonEmpty3 : Bool) (aggregate4 : ((List Int) → Option Int)) : Option (Int × Int × Bool) :=
  ((m_impl_isColumn db0 relation1 column2).bind fun r_3 => cond (!r_3) (some true) (cond nonEmpty3 ((m_slices_ContainsFunc_Simpl_Fact_impl_Fact db0.facts (fun x0 => m_impl_columnRange_1 x0 relation1)).bind fun r_7 => some (!r_7)) (some false))).bind fun (t29_1 : Bool) => cond t29_1 (some (0, 0, false)) ((m_impl_rangeOf u db0 (fun x0 => m_impl_columnRange_2 x0 aggregate4 db0 relation1 column2)).bind fun r_10 => some (r_10.1, r_10.2, true))
def m_slices_Index_Sint_int (s0 : (List Int)) (v1 : Int) : Option Int :=
  (forL (R := Int) (fun (t_1 : Int) (x_t_1 : Int) (_ : Unit) => cond (decide (v1 = x_t_1)) (some (.ret (t_1 : Int))) (some (.next ()))) s0 0 ()).bind fun O2_ => onS O2_ (fun (_ : Unit) => some (-1)) (fun r => some r)
def m_slices_Contains_Sint_int (s0 : (List Int)) (v1 : Int) : Option Bool :=
  (m_slices_Index_Sint_int s0 v1).bind fun r_1 => some (decide (0 ≤ r_1))
def m_impl_without (a0 : (List Int)) (b1 : (List Int)) : Option (List Int) :=
  (forS (fun (t_1 : Int) (x_t_1 : Int) (out5 : (List Int)) => (m_slices_Contains_Sint_int b1 x_t_1).bind fun r_3 => cond (!r_3) ((app 8 out5 ([x_t_1] : (List Int))).bind fun us_6 => some us_6) (some out5)) a0 0 ([] : (List Int))).bind fun (out5 : (List Int)) => some out5
def m_impl_CountRange_1 (values0 : (List Int)) (fv1 : Int) : Option Int :=
  (m_impl_without values0 ([fv1] : (List Int))).bind fun r_1 => some (w64 ((values0.length : Int) - (r_1.length : Int)))
def m_impl_CountRange (u : Nat) (db0 : Database) (relation1 : Int) (column2 : Int) (value3 : Int) : Option (Int × Int × Bool) :=
  (m_impl_columnRange u db0 relation1 column2 false (fun x0 => m_impl_CountRange_1 x0 value3)).bind fun r_1 => some (r_1.1, r_1.2.1, r_1.2.2)
def m_spec_BlockSizes (u : Nat) (d0 : Database) : Option (List Int) :=
  (m_spec_Blocks u d0).bind fun r_1 => (forS (fun (i_3 : Int) (x_i_3 : (List Int)) (out3 : (List Int)) => (app 8 out3 ([(x_i_3.length : Int)] : (List Int))).bind fun us_5 => some us_5) r_1 0 ([] : (List Int))).bind fun (out3 : (List Int)) => some out3
def m_spec_CountRepairs (u : Nat) (d0 : Database) : Option Int :=
  (m_spec_IsValidDatabase u d0).bind fun r_1 => cond (!r_1) (some 0) ((m_spec_BlockSizes u d0).bind fun r_4 => (forS (fun (i_6 : Int) (x_i_6 : Int) (n3 : Int) => some (w64 (n3 * x_i_6))) r_4 0 1).bind fun (n3 : Int) => some n3)
def m_spec_l7Sorted (u : Nat) (l0 : (List Int)) : Option (List Int) :=
  (forS (fun (i_1 : Int) (x_i_1 : Int) (out3 : (List Int)) => (whileF (R := (List Int)) (fun (k5 : Int) => (cond (decide (0 < k5)) ((getI out3 (w64 (k5 - 1))).bind fun v_7 => some (decide (x_i_1 < v_7))) (some false)).bind fun (t28_4 : Bool) => cond t28_4 (some (.next (w64 (k5 - 1)))) (some (.brk k5))) u (out3.length : Int)).bind fun O3_ => onS O3_ (fun (k5 : Int) => (cutI out3 0 k5).bind fun ys_13 => (app 8 ([] : (List Int)) ys_13).bind fun us_22 => (app 8 us_22 ([x_i_1] : (List Int))).bind fun us_24 => (cutI out3 k5 (out3.length : Int)).bind fun ys_26 => (app 8 us_24 ys_26).bind fun us_35 => some us_35) (fun r => none)) l0 0 ([] : (List Int))).bind fun (out3 : (List Int)) => some out3
def m_spec_NthRepair (u : Nat) (d0 : Database) (k1 : Int) : Option ((List Int) × Bool) :=
  (m_spec_CountRepairs u d0).bind fun r_1 => (m_spec_l1In k1 0 (w64 (r_1 - 1))).bind fun r_3 => cond (!r_3) (some (([] : (List Int)), false)) ((m_spec_Blocks u d0).bind fun r_6 => (whileF (R := ((List Int) × Bool)) (fun (⟨k1, out7, i8⟩ : Int × (List Int) × Int) => cond (decide (0 ≤ i8)) ((getI r_6 i8).bind fun v_11 => (gD (v_11.length : Int)).bind fun _u => (getI v_11 (k1.tmod (v_11.length : Int))).bind fun v_17 => (app 8 out7 ([v_17] : (List Int))).bind fun us_22 => (gD (v_11.length : Int)).bind fun _u => some (.next ((w64 (k1.tdiv (v_11.length : Int))), us_22, (w64 (i8 - 1))))) (some (.brk (k1, out7, i8)))) u (k1, ([] : (List Int)), ((r_6.length : Int) - 1))).bind fun O9_ => onS O9_ (fun (⟨k1, out7, i8⟩ : Int × (List Int) × Int) => (m_spec_l7Sorted u out7).bind fun r_25 => some (r_25, true)) (fun r => none))
def m_spec_DistinctRange (u : Nat) (d0 : Database) (r1 : Int) (col2 : Int) : Option (Int × Int × Bool) :=
  (m_spec_l27Ok u d0 r1 col2).bind fun r_1 => cond (!r_1) (some (0, 0, false)) ((whileF (R := (Int × Int × Bool)) (fun (⟨lo9, hi10, k11⟩ : Int × Int × Int) => (m_spec_CountRepairs u d0).bind fun r_5 => cond (decide (k11 < r_5)) ((m_spec_NthRepair u d0 k11).bind fun r_8 => (mk 1 10 false).bind fun us_10 => (forS (fun (i_12 : Int) (x_i_12 : Int) (⟨met14, n15⟩ : (List Bool) × Int) => (getI d0.facts x_i_12).bind fun v_14 => (cond (decide (v_14.relation = r1)) ((getI v_14.values col2).bind fun v_22 => (getI met14 v_22).bind fun v_27 => some (!v_27)) (some false)).bind fun (t64_19 : Bool) => cond t64_19 ((getI v_14.values col2).bind fun v_33 => (getI met14 v_33).bind fun v_38 => some ((met14.set (v_33).toNat true), (w64 (n15 + 1)))) (some (met14, n15))) r_8.1 0 (us_10, 0)).bind fun (⟨met14, n15⟩ : (List Bool) × Int) => cond ((decide (lo9 < 0)) || (decide (n15 < lo9))) (some (.next (n15, (if hi10 < n15 then n15 else hi10), (w64 (k11 + 1))))) (some (.next (lo9, (if hi10 < n15 then n15 else hi10), (w64 (k11 + 1)))))) (some (.brk (lo9, hi10, k11)))) u (-1, 0, 0)).bind fun O4_ => onS O4_ (fun (⟨lo9, hi10, k11⟩ : Int × Int × Int) => some (lo9, hi10, true)) (fun r => none))
def m_slices_Grow_Sint_int_n0 (n1 : Int) : Option (List Int) :=
  cond (decide (n1 < 0)) (none) (cond (decide (0 < (w64 (n1 - (w64 (((0 : Nat) : Int) - ((0 : Nat) : Int))))))) ((apz 8 (w64 (n1 - (w64 (((0 : Nat) : Int) - ((0 : Nat) : Int))))) (0 : Int)).bind fun us_3 => (cutI us_3 0 ((0 : Nat) : Int)).bind fun ys_5 => some ys_5) (some ([] : (List Int))))
def m_slices_Concat_Sint_int (slices0 : (List (List Int))) : Option (List Int) :=
  (forS (fun (t_1 : Int) (x_t_1 : (List Int)) (size3 : Int) => cond (decide ((w64 (size3 + (x_t_1.length : Int))) < 0)) (none) (some (w64 (size3 + (x_t_1.length : Int))))) slices0 0 0).bind fun (size3 : Int) => (m_slices_Grow_Sint_int_n0 size3).bind fun r_4 => (forS (fun (t_6 : Int) (x_t_6 : (List Int)) (newslice6 : (List Int)) => (app 8 newslice6 x_t_6).bind fun us_8 => some us_8) slices0 0 r_4).bind fun (newslice6 : (List Int)) => some newslice6
def m_slices_Sort_Sint_int (s0 : List Int) : Option (Unit × List Int) := if s0.length < 4611686018427387904 then some ((), s0.mergeSort fun x y => decide (x ≤ y)) else none
def m_slices_Compact_Sint_int (s0 : List Int) : Option (List Int) := if s0.length < 4611686018427387904 then some (comp1 s0) else none
def m_impl_union (a0 : (List Int)) (b1 : (List Int)) : Option (List Int) :=
  (m_slices_Concat_Sint_int ([a0, b1] : (List (List Int)))).bind fun r_1 => (m_slices_Sort_Sint_int r_1).bind fun r_3 => (m_slices_Compact_Sint_int r_3.2).bind fun r_7 => some r_7
def m_impl_DistinctRange_1 (values0 : (List Int)) : Option Int :=
  (m_impl_union values0 []).bind fun r_1 => some (r_1.length : Int)
def m_impl_DistinctRange (u : Nat) (db0 : Database) (relation1 : Int) (column2 : Int) : Option (Int × Int × Bool) :=
  (m_impl_columnRange u db0 relation1 column2 false (fun x0 => m_impl_DistinctRange_1 x0)).bind fun r_1 => some (r_1.1, r_1.2.1, r_1.2.2)
def m_spec_l1Byte (c0 : l1Cur) : Option (Int × l1Cur) :=
  cond (decide (c0.i < (c0.b.length : Int))) ((getI c0.b c0.i).bind fun v_2 => some ((bitI .and .i64 (w64 ((bitI .and .i64 (bitI .xor .i64 (shrI .i64 (w64 ((w64 (c0.h * 6364136223846793005)) + 1442695040888963407)) 33) (shrI .i64 (w64 ((w64 (c0.h * 6364136223846793005)) + 1442695040888963407)) 45)) 255) + (w64 v_2))) 255), ({ b := c0.b, i := (w64 (c0.i + 1)), h := (w64 ((w64 (c0.h * 6364136223846793005)) + 1442695040888963407)) } : l1Cur))) (some ((bitI .and .i64 (bitI .xor .i64 (shrI .i64 (w64 ((w64 (c0.h * 6364136223846793005)) + 1442695040888963407)) 33) (shrI .i64 (w64 ((w64 (c0.h * 6364136223846793005)) + 1442695040888963407)) 45)) 255), ({ b := c0.b, i := c0.i, h := (w64 ((w64 (c0.h * 6364136223846793005)) + 1442695040888963407)) } : l1Cur)))
def m_spec_l1Below (c0 : l1Cur) (n1 : Int) : Option (Int × l1Cur) :=
  cond (decide (n1 ≤ 0)) (some (0, c0)) (cond (decide (n1 ≤ 256)) ((m_spec_l1Byte c0).bind fun r_3 => (gD n1).bind fun _u => some ((r_3.1.tmod n1), r_3.2)) ((m_spec_l1Byte c0).bind fun r_6 => (m_spec_l1Byte r_6.2).bind fun r_8 => (m_spec_l1Byte r_8.2).bind fun r_10 => (m_spec_l1Byte r_10.2).bind fun r_12 => (gD n1).bind fun _u => some (((w64 ((w64 ((w64 ((w64 (r_6.1 * 16777216)) + (w64 (r_8.1 * 65536)))) + (w64 (r_10.1 * 256)))) + r_12.1)).tmod n1), r_12.2)))
def m_spec_l1New (u : Nat) (code0 : (List Int)) : Option l1Cur :=
  (whileF (R := l1Cur) (fun (⟨h3, i4⟩ : Int × Int) => cond ((decide (i4 < (code0.length : Int))) && (decide (i4 < 4000))) ((getI code0 i4).bind fun v_6 => some (.next ((bitI .and .i64 (w64 ((w64 ((w64 (h3 * 131)) + (w64 v_6))) + 7)) 1073741823), (w64 (i4 + 1))))) (some (.brk (h3, i4)))) u ((w64 (10101 + (code0.length : Int))), 0)).bind fun O1_ => onS O1_ (fun (⟨h3, i4⟩ : Int × Int) => some ({ b := code0, i := 0, h := h3 } : l1Cur)) (fun r => none)
def m_spec_l1PickInt (c0 : l1Cur) (list1 : (List Int)) : Option (Int × l1Cur) :=
  (m_spec_l1Below c0 (list1.length : Int)).bind fun r_1 => (getI list1 r_1.1).bind fun v_3 => some (v_3, r_1.2)
def m_spec_l2Sigs (c0 : l1Cur) : Option ((List Relation) × l1Cur) :=
  (m_spec_l1PickInt c0 ([1, 1, 2, 0] : (List Int))).bind fun r_1 => (m_spec_l1Below r_1.2 2).bind fun r_3 => some (([({ name := (⟨#[114]⟩ : ByteArray), arity := 2, keyLength := 1 } : Relation), ({ name := (⟨#[115]⟩ : ByteArray), arity := 2, keyLength := 1 } : Relation), ({ name := (⟨#[116]⟩ : ByteArray), arity := 2, keyLength := r_1.1 } : Relation), ({ name := (⟨#[117]⟩ : ByteArray), arity := 3, keyLength := (w64 (1 + r_3.1)) } : Relation)] : (List Relation)), r_3.2)
def m_spec_l4Copy (u : Nat) (d0 : Database) : Option Database :=
  (app 32 ([] : (List Relation)) d0.relations).bind fun us_1 => (whileF (R := Database) (fun (⟨i4, box4_facts⟩ : Int × (List Fact)) => cond (decide (i4 < (d0.facts.length : Int))) ((getI d0.facts i4).bind fun v_5 => (app 8 ([] : (List Int)) v_5.values).bind fun us_10 => (app 32 box4_facts ([({ relation := v_5.relation, values := us_10 } : Fact)] : (List Fact))).bind fun us_12 => some (.next ((w64 (i4 + 1)), us_12))) (some (.brk (i4, box4_facts)))) u (0, ([] : (List Fact)))).bind fun O3_ => onS O3_ (fun (⟨i4, box4_facts⟩ : Int × (List Fact)) => some ({ relations := us_1, facts := box4_facts } : Database)) (fun r => none)
def m_spec_FactIndex (u : Nat) (d0 : Database) (f1 : Fact) : Option Int :=
  (whileF (R := Int) (fun (i5 : Int) => cond (decide (i5 < (d0.facts.length : Int))) ((getI d0.facts i5).bind fun v_3 => (m_spec_CompareFacts u v_3 f1).bind fun r_8 => cond (decide (r_8 = 0)) (some (.ret i5)) (some (.next (w64 (i5 + 1))))) (some (.brk i5))) u 0).bind fun O1_ => onS O1_ (fun (i5 : Int) => some (-1)) (fun r => some r)
def m_spec_ContainsFact (u : Nat) (d0 : Database) (f1 : Fact) : Option Bool :=
  ((m_spec_IsValidDatabase u d0).bind fun r_3 => cond r_3 ((m_spec_FactIndex u d0 f1).bind fun r_6 => some (decide (0 ≤ r_6))) (some false)).bind fun (t4_1 : Bool) => some t4_1
def m_spec_InsertFact (u : Nat) (d0 : Database) (f1 : Fact) : Option (Database × Bool) :=
  (m_spec_l4Copy u d0).bind fun r_1 => ((m_spec_IsValidDatabase u d0).bind fun r_5 => cond (!r_5) (some true) ((m_spec_IsValidFact u d0.relations f1).bind fun r_8 => cond (!r_8) (some true) ((m_spec_ContainsFact u d0 f1).bind fun r_11 => cond r_11 (some true) (some (decide ((d0.facts.length : Int) = 14)))))).bind fun (t31_3 : Bool) => cond t31_3 (some (r_1, false)) ((whileF (R := (Database × Bool)) (fun (k7 : Int) => (cond (decide (k7 < (r_1.facts.length : Int))) ((getI r_1.facts k7).bind fun v_19 => (m_spec_CompareFacts u v_19 f1).bind fun r_24 => some (decide (r_24 < 0))) (some false)).bind fun (t47_16 : Bool) => cond t47_16 (some (.next (w64 (k7 + 1)))) (some (.brk k7))) u 0).bind fun O15_ => onS O15_ (fun (k7 : Int) => (app 8 ([] : (List Int)) f1.values).bind fun us_27 => (cutI r_1.facts k7 (r_1.facts.length : Int)).bind fun ys_29 => (app 32 ([({ relation := f1.relation, values := us_27 } : Fact)] : (List Fact)) ys_29).bind fun us_38 => (cutI r_1.facts 0 k7).bind fun ys_40 => (app 32 ([] : (List Fact)) ys_40).bind fun us_49 => (app 32 us_49 us_38).bind fun us_51 => some (({ relations := r_1.relations, facts := us_51 } : Database), true)) (fun r => none))
def m_spec_l3Fact (u : Nat) (c0 : l1Cur) (l1 : (List Relation)) (val2 : Int) : Option (Fact × l1Cur) :=
  (m_spec_l1Below c0 (l1.length : Int)).bind fun r_1 => (whileF (R := Fact) (fun (⟨box0, box2_values⟩ : l1Cur × (List Int)) => (getI l1 r_1.1).bind fun v_4 => cond (decide ((box2_values.length : Int) < v_4.arity)) ((m_spec_l1Below box0 val2).bind fun r_10 => (app 8 box2_values ([r_10.1] : (List Int))).bind fun us_12 => some (.next (r_10.2, us_12))) (some (.brk (box0, box2_values)))) u (r_1.2, ([] : (List Int)))).bind fun O3_ => onS O3_ (fun (⟨box0, box2_values⟩ : l1Cur × (List Int)) => some (({ relation := r_1.1, values := box2_values } : Fact), box0)) (fun r => none)
def m_spec_l4Db (u : Nat) (c0 : l1Cur) : Option (Database × l1Cur) :=
  (m_spec_l2Sigs c0).bind fun r_1 => (m_spec_l1PickInt r_1.2 ([2, 2, 3, 3] : (List Int))).bind fun r_3 => (m_spec_l1Below r_3.2 11).bind fun r_5 => (whileF (R := Database) (fun (⟨n5, box0, box3_relations, box3_facts⟩ : Int × l1Cur × (List Relation) × (List Fact)) => cond (decide (0 < n5)) ((m_spec_l3Fact u box0 box3_relations r_3.1).bind fun r_9 => (m_spec_InsertFact u ({ relations := box3_relations, facts := box3_facts } : Database) r_9.1).bind fun r_11 => some (.next ((w64 (n5 - 1)), r_9.2, r_11.1.relations, r_11.1.facts))) (some (.brk (n5, box0, box3_relations, box3_facts)))) u ((w64 (2 + r_5.1)), r_5.2, r_1.1, ([] : (List Fact)))).bind fun O7_ => onS O7_ (fun (⟨n5, box0, box3_relations, box3_facts⟩ : Int × l1Cur × (List Relation) × (List Fact)) => some (({ relations := box3_relations, facts := box3_facts } : Database), box0)) (fun r => none)
def m_spec_l3Any (u : Nat) (c0 : l1Cur) (l1 : (List Relation)) : Option (Fact × l1Cur) :=
  (m_spec_l3Fact u c0 l1 4).bind fun r_1 => (m_spec_l1Below r_1.2 10).bind fun r_3 => cond (decide (r_3.1 = 0)) ((m_spec_l1Below r_3.2 6).bind fun r_6 => some (({ relation := (w64 (r_6.1 - 1)), values := r_1.1.values } : Fact), r_6.2)) (cond (decide (r_3.1 = 1)) ((app 8 r_1.1.values ([1] : (List Int))).bind fun us_9 => some (({ relation := r_1.1.relation, values := us_9 } : Fact), r_3.2)) (cond (decide (r_3.1 = 2)) ((m_spec_l1PickInt r_3.2 ([-1, 10, 9] : (List Int))).bind fun r_12 => (getI r_1.1.values 0).bind fun v_14 => some (({ relation := r_1.1.relation, values := (r_1.1.values.set (0 : Int).toNat r_12.1) } : Fact), r_12.2)) (some (r_1.1, r_3.2))))
def m_spec_l1Pick (c0 : l1Cur) (list1 : (List ByteArray)) : Option (ByteArray × l1Cur) :=
  (m_spec_l1Below c0 (list1.length : Int)).bind fun r_1 => (getI list1 r_1.1).bind fun v_3 => some (v_3, r_1.2)
def m_spec_l2Any (c0 : l1Cur) : Option (Relation × l1Cur) :=
  (m_spec_l1Pick c0 ([(⟨#[114]⟩ : ByteArray), (⟨#[122]⟩ : ByteArray), (⟨#[97]⟩ : ByteArray), (⟨#[]⟩ : ByteArray), (⟨#[82]⟩ : ByteArray), (⟨#[97, 98]⟩ : ByteArray)] : (List ByteArray))).bind fun r_1 => (m_spec_l1Below r_1.2 6).bind fun r_3 => (m_spec_l1Below r_3.2 5).bind fun r_5 => some (({ name := r_1.1, arity := (w64 (r_3.1 - 1)), keyLength := (w64 (r_5.1 - 1)) } : Relation), r_5.2)
def m_spec_l4Any (u : Nat) (c0 : l1Cur) : Option (Database × l1Cur) :=
  (m_spec_l4Db u c0).bind fun r_1 => (m_spec_l1Below r_1.2 14).bind fun r_3 => cond (decide (r_3.1 = 0)) ((m_spec_l3Any u r_3.2 r_1.1.relations).bind fun r_6 => (app 32 r_1.1.facts ([r_6.1] : (List Fact))).bind fun us_8 => some (({ relations := r_1.1.relations, facts := us_8 } : Database), r_6.2)) (cond (decide (r_3.1 = 1)) ((m_spec_l1Below r_3.2 4).bind fun r_11 => (cutI r_1.1.relations 0 r_11.1).bind fun ys_13 => some (({ relations := ys_13, facts := r_1.1.facts } : Database), r_11.2)) (cond (decide (r_3.1 = 2)) ((m_spec_l1Below r_3.2 4).bind fun r_23 => (m_spec_l2Any r_23.2).bind fun r_25 => (getI r_1.1.relations r_23.1).bind fun v_27 => some (({ relations := (r_1.1.relations.set (r_23.1).toNat r_25.1), facts := r_1.1.facts } : Database), r_25.2)) (some (r_1.1, r_3.2))))
def m_spec_l1Once (c0 : l1Cur) (n1 : Int) : Option (Bool × l1Cur) :=
  (m_spec_l1Below c0 n1).bind fun r_1 => some (decide (r_1.1 = 0), r_1.2)
def m_spec_l27Draw (u : Nat) (code0 : (List Int)) : Option (l1Cur × Database × Int × Int) :=
  (m_spec_l1New u code0).bind fun r_1 => (m_spec_l4Any u r_1).bind fun r_3 => (m_spec_l1Below r_3.2 4).bind fun r_5 => (m_spec_l1Once r_5.2 10).bind fun r_7 => cond r_7.1 ((m_spec_l1PickInt r_7.2 ([-1, 4] : (List Int))).bind fun r_10 => (m_spec_l1Below r_10.2 3).bind fun r_12 => (m_spec_l1Below r_12.2 12).bind fun r_14 => some (r_14.2, r_3.1, r_10.1, (w64 (r_12.1 - (w64 (r_14.1.tdiv 11)))))) ((m_spec_l1Below r_7.2 3).bind fun r_16 => (m_spec_l1Below r_16.2 12).bind fun r_18 => some (r_18.2, r_3.1, r_5.1, (w64 (r_16.1 - (w64 (r_18.1.tdiv 11))))))
def m_spec_DrawCountRange (u : Nat) (code0 : (List Int)) : Option (Database × Int × Int × Int) :=
  (m_spec_l27Draw u code0).bind fun r_1 => (m_spec_l1Below r_1.1 4).bind fun r_3 => some (r_1.2.1, r_1.2.2.1, r_1.2.2.2, r_3.1)
def m_laws_FnCountRange (u : Nat) (code0 : (List Int)) : Option Bool :=
  (m_laws_big code0).bind fun r_1 => cond r_1 (some true) ((m_spec_DrawCountRange u code0).bind fun r_4 => (m_impl_CountRange u r_4.1 r_4.2.1 r_4.2.2.1 r_4.2.2.2).bind fun r_6 => (m_spec_CountRange u r_4.1 r_4.2.1 r_4.2.2.1 r_4.2.2.2).bind fun r_8 => (m_impl_DistinctRange u r_4.1 r_4.2.1 r_4.2.2.1).bind fun r_10 => (m_spec_DistinctRange u r_4.1 r_4.2.1 r_4.2.2.1).bind fun r_12 => cond ((r_6.2.2 != r_8.2.2) || ((decide (r_6.1 ≠ r_8.1)) || ((decide (r_6.2.1 ≠ r_8.2.1)) || ((r_10.2.2 != r_12.2.2) || ((decide (r_10.1 ≠ r_12.1)) || ((decide (r_10.2.1 ≠ r_12.2.1)) || (r_6.2.2 != r_10.2.2))))))) (some false) (cond (!r_6.2.2) (some true) ((whileF (R := Bool) (fun (⟨least19, most20, k21⟩ : Bool × Bool × Int) => (m_spec_CountRepairs u r_4.1).bind fun r_25 => cond (decide (k21 < r_25)) ((m_spec_NthRepair u r_4.1 k21).bind fun r_28 => (forS (fun (i_30 : Int) (x_i_30 : Int) (⟨n24, m25⟩ : Int × Int) => (getI r_4.1.facts x_i_30).bind fun v_32 => cond (decide (v_32.relation = r_4.2.1)) ((getI v_32.values r_4.2.2.1).bind fun v_38 => cond (decide (v_38 = r_4.2.2.2)) (some ((w64 (n24 + 1)), (w64 (m25 + 1)))) (some (n24, (w64 (m25 + 1))))) (some (n24, m25))) r_28.1 0 (0, 0)).bind fun (⟨n24, m25⟩ : Int × Int) => cond ((decide (n24 < r_6.1)) || ((decide (r_6.2.1 < n24)) || (decide (m25 < r_10.2.1)))) (some (.ret false)) (cond most20 (some (.next ((least19 || (decide (n24 = r_6.1))), true, (w64 (k21 + 1))))) (some (.next ((least19 || (decide (n24 = r_6.1))), decide (n24 = r_6.2.1), (w64 (k21 + 1))))))) (some (.brk (least19, most20, k21)))) u (false, false, 0)).bind fun O24_ => onS O24_ (fun (⟨least19, most20, k21⟩ : Bool × Bool × Int) => some (least19 && (most20 && (decide (r_10.1 ≤ r_10.2.1))))) (fun r => some r))))
def m_laws_szIntS (a0 : (List Int)) (left1 : Int) : Option Int :=
  cond (decide ((w64 (left1 - (a0.length : Int))) < 0)) (some (-1)) (some (w64 (left1 - (a0.length : Int))))
def m_laws_toIntS (a0 : (List Int)) : Option (List Int) :=
  (mk 8 (a0.length : Int) (0 : Int)).bind fun us_1 => (forS (fun (i_3 : Int) (x_i_3 : Int) (out3 : (List Int)) => (getI out3 (i_3 : Int)).bind fun v_5 => some (out3.set ((i_3 : Int)).toNat x_i_3)) a0 0 us_1).bind fun (out3 : (List Int)) => some out3
def m_laws_eqIntS (a0 : (List Int)) (b1 : (List Int)) : Option Bool :=
  cond (decide ((a0.length : Int) ≠ (b1.length : Int))) (some false) ((forL (R := Bool) (fun (i_2 : Int) (x_i_2 : Int) (_ : Unit) => (getI b1 (i_2 : Int)).bind fun v_4 => cond (decide (x_i_2 ≠ v_4)) (some (.ret false)) (some (.next ()))) a0 0 ()).bind fun O3_ => onS O3_ (fun (_ : Unit) => some true) (fun r => some r))
def m_spec_l4Places (u : Nat) (c0 : l1Cur) (d1 : Database) : Option ((List Int) × l1Cur) :=
  (whileF (R := (List Int)) (fun (⟨l5, i6, box0⟩ : (List Int) × Int × l1Cur) => cond (decide (i6 < (d1.facts.length : Int))) ((m_spec_l1Once box0 2).bind fun r_3 => cond r_3.1 ((app 8 l5 ([i6] : (List Int))).bind fun us_6 => some (.next (us_6, (w64 (i6 + 1)), r_3.2))) (some (.next (l5, (w64 (i6 + 1)), r_3.2)))) (some (.brk (l5, i6, box0)))) u (([] : (List Int)), 0, c0)).bind fun O1_ => onS O1_ (fun (⟨l5, i6, box0⟩ : (List Int) × Int × l1Cur) => (cond (decide (0 < (l5.length : Int))) ((m_spec_l1Once box0 12).bind fun r_11 => some (r_11.1, r_11.2)) (some (false, box0))).bind fun (t27_8, box0_8) => cond t27_8 ((m_spec_l1PickInt box0_8 ([-1, (d1.facts.length : Int), 3] : (List Int))).bind fun r_14 => (getI l5 0).bind fun v_16 => some ((l5.set (0 : Int).toNat r_14.1), r_14.2)) (some (l5, box0_8))) (fun r => none)
def m_laws_szRelation (a0 : Relation) (left1 : Int) : Option Int :=
  cond (decide ((w64 (left1 - (a0.name.size : Int))) < 0)) (some (-1)) (some (w64 (left1 - (a0.name.size : Int))))
def m_laws_szRelationS (a0 : (List Relation)) (left1 : Int) : Option Int :=
  cond (decide ((w64 (left1 - (a0.length : Int))) < 0)) (some (-1)) ((forL (R := Int) (fun (i_2 : Int) (x_i_2 : Relation) (left1 : Int) => (m_laws_szRelation x_i_2 left1).bind fun r_4 => cond (decide (r_4 < 0)) (some (.ret (-1))) (some (.next r_4))) a0 0 (w64 (left1 - (a0.length : Int)))).bind fun O3_ => onS O3_ (fun (left1 : Int) => some left1) (fun r => some r))
def m_laws_szFact (a0 : Fact) (left1 : Int) : Option Int :=
  (m_laws_szIntS a0.values left1).bind fun r_1 => cond (decide (r_1 < 0)) (some (-1)) (some r_1)
def m_laws_szFactS (a0 : (List Fact)) (left1 : Int) : Option Int :=
  cond (decide ((w64 (left1 - (a0.length : Int))) < 0)) (some (-1)) ((forL (R := Int) (fun (i_2 : Int) (x_i_2 : Fact) (left1 : Int) => (m_laws_szFact x_i_2 left1).bind fun r_4 => cond (decide (r_4 < 0)) (some (.ret (-1))) (some (.next r_4))) a0 0 (w64 (left1 - (a0.length : Int)))).bind fun O3_ => onS O3_ (fun (left1 : Int) => some left1) (fun r => some r))
def m_laws_szDatabase (a0 : Database) (left1 : Int) : Option Int :=
  (m_laws_szRelationS a0.relations left1).bind fun r_1 => cond (decide (r_1 < 0)) (some (-1)) ((m_laws_szFactS a0.facts r_1).bind fun r_4 => cond (decide (r_4 < 0)) (some (-1)) (some r_4))
def m_laws_toRelation (a0 : Relation) : Option Relation :=
  some a0
def m_laws_toRelationS (a0 : (List Relation)) : Option (List Relation) :=
  (mk 32 (a0.length : Int) (default : Relation)).bind fun us_1 => (forS (fun (i_3 : Int) (x_i_3 : Relation) (out3 : (List Relation)) => (m_laws_toRelation x_i_3).bind fun r_5 => (getI out3 (i_3 : Int)).bind fun v_7 => some (out3.set ((i_3 : Int)).toNat r_5)) a0 0 us_1).bind fun (out3 : (List Relation)) => some out3
def m_laws_toFact (a0 : Fact) : Option Fact :=
  (m_laws_toIntS a0.values).bind fun r_1 => some ({ relation := a0.relation, values := r_1 } : Fact)
def m_laws_toFactS (a0 : (List Fact)) : Option (List Fact) :=
  (mk 32 (a0.length : Int) (default : Fact)).bind fun us_1 => (forS (fun (i_3 : Int) (x_i_3 : Fact) (out3 : (List Fact)) => (m_laws_toFact x_i_3).bind fun r_5 => (getI out3 (i_3 : Int)).bind fun v_7 => some (out3.set ((i_3 : Int)).toNat r_5)) a0 0 us_1).bind fun (out3 : (List Fact)) => some out3
def m_laws_toDatabase (a0 : Database) : Option Database :=
  (m_laws_toRelationS a0.relations).bind fun r_1 => (m_laws_toFactS a0.facts).bind fun r_3 => some ({ relations := r_1, facts := r_3 } : Database)
def m_laws_eqRelation (a0 : Relation) (b1 : Relation) : Option Bool :=
  cond (decide (a0.name ≠ b1.name)) (some false) (cond (decide (a0.arity ≠ b1.arity)) (some false) (cond (decide (a0.keyLength ≠ b1.keyLength)) (some false) (some true)))
def m_laws_eqRelationS (a0 : (List Relation)) (b1 : (List Relation)) : Option Bool :=
  cond (decide ((a0.length : Int) ≠ (b1.length : Int))) (some false) ((forL (R := Bool) (fun (i_2 : Int) (x_i_2 : Relation) (_ : Unit) => (getI b1 (i_2 : Int)).bind fun v_4 => (m_laws_eqRelation x_i_2 v_4).bind fun r_9 => cond (!r_9) (some (.ret false)) (some (.next ()))) a0 0 ()).bind fun O3_ => onS O3_ (fun (_ : Unit) => some true) (fun r => some r))
def m_laws_eqFact (a0 : Fact) (b1 : Fact) : Option Bool :=
  cond (decide (a0.relation ≠ b1.relation)) (some false) ((m_laws_eqIntS a0.values b1.values).bind fun r_2 => cond (!r_2) (some false) (some true))
def m_laws_eqFactS (a0 : (List Fact)) (b1 : (List Fact)) : Option Bool :=
  cond (decide ((a0.length : Int) ≠ (b1.length : Int))) (some false) ((forL (R := Bool) (fun (i_2 : Int) (x_i_2 : Fact) (_ : Unit) => (getI b1 (i_2 : Int)).bind fun v_4 => (m_laws_eqFact x_i_2 v_4).bind fun r_9 => cond (!r_9) (some (.ret false)) (some (.next ()))) a0 0 ()).bind fun O3_ => onS O3_ (fun (_ : Unit) => some true) (fun r => some r))
def m_laws_eqDatabase (a0 : Database) (b1 : Database) : Option Bool :=
  (m_laws_eqRelationS a0.relations b1.relations).bind fun r_1 => cond (!r_1) (some false) ((m_laws_eqFactS a0.facts b1.facts).bind fun r_4 => cond (!r_4) (some false) (some true))
def m_spec_l27Least (l0 : (List Int)) : Option Int :=
  (getI l0 0).bind fun v_1 => (forS (fun (i_6 : Int) (x_i_6 : Int) (n3 : Int) => some (if x_i_6 < n3 then x_i_6 else n3)) (l0.drop 1) 1 v_1).bind fun (n3 : Int) => some n3
def m_spec_l27Most (l0 : (List Int)) : Option Int :=
  (getI l0 0).bind fun v_1 => (forS (fun (i_6 : Int) (x_i_6 : Int) (n3 : Int) => some (if n3 < x_i_6 then x_i_6 else n3)) (l0.drop 1) 1 v_1).bind fun (n3 : Int) => some n3
def m_laws_FnExactCountRange (u : Nat) (aDb0 : Database) (aRelation1 : Int) (aColumn2 : Int) (aValue3 : Int) : Option Bool :=
  (m_laws_szDatabase aDb0 1048576).bind fun r_1 => cond (decide (r_1 < 0)) (some true) ((m_laws_toDatabase aDb0).bind fun r_4 => (m_spec_CountRange u r_4 aRelation1 aColumn2 aValue3).bind fun r_6 => (m_laws_toDatabase aDb0).bind fun r_8 => (m_impl_CountRange u r_8 aRelation1 aColumn2 aValue3).bind fun r_10 => cond ((decide (r_10.1 ≠ r_6.1)) || ((decide (r_10.2.1 ≠ r_6.2.1)) || (r_10.2.2 != r_6.2.2))) (some false) ((m_laws_toDatabase aDb0).bind fun r_17 => (m_laws_eqDatabase r_8 r_17).bind fun r_19 => cond (!r_19) (some false) (some true)))
def m_laws_FnExactDistinctRange (u : Nat) (aDb0 : Database) (aRelation1 : Int) (aColumn2 : Int) : Option Bool :=
  (m_laws_szDatabase aDb0 1048576).bind fun r_1 => cond (decide (r_1 < 0)) (some true) ((m_laws_toDatabase aDb0).bind fun r_4 => (m_spec_DistinctRange u r_4 aRelation1 aColumn2).bind fun r_6 => (m_laws_toDatabase aDb0).bind fun r_8 => (m_impl_DistinctRange u r_8 aRelation1 aColumn2).bind fun r_10 => cond ((decide (r_10.1 ≠ r_6.1)) || ((decide (r_10.2.1 ≠ r_6.2.1)) || (r_10.2.2 != r_6.2.2))) (some false) ((m_laws_toDatabase aDb0).bind fun r_17 => (m_laws_eqDatabase r_8 r_17).bind fun r_19 => cond (!r_19) (some false) (some true)))
end Go.Proofs.Ytlcpdlngbofgcaa

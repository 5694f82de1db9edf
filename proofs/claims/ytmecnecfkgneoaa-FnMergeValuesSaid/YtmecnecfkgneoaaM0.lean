import Derived.Test.YtmecnecfkgneoaaCRE
set_option linter.unusedVariables false
set_option maxRecDepth 4000
namespace Go.Proofs.Ytmecnecfkgneoaa
open Go Go.Proofs Go.Sep
structure Fact where
  relation : Int
  values : (List Int)
instance : Inhabited Fact := ⟨⟨default, default⟩⟩
instance : DecidableEq Fact := fun a b => decidable_of_iff (a.relation = b.relation ∧ a.values = b.values) (by cases a; cases b; simp)
def RdFact (x : Fact) : Prop := (-9223372036854775808 ≤ x.relation ∧ x.relation ≤ 9223372036854775807) ∧ (x.values.length ≤ 9223372036854775807 ∧ ∀ yues ∈ x.values, (-9223372036854775808 ≤ yues ∧ yues ≤ 9223372036854775807))
def tFact : Ty Fact := tAs (fun x => (x.relation, x.values)) (tP tInt (tSl tInt))
structure Relation where
  name : ByteArray
  arity : Int
  keyLength : Int
instance : Inhabited Relation := ⟨⟨default, default, default⟩⟩
instance : DecidableEq Relation := fun a b => decidable_of_iff (a.name = b.name ∧ a.arity = b.arity ∧ a.keyLength = b.keyLength) (by cases a; cases b; simp)
def RdRelation (x : Relation) : Prop := x.name.size ≤ 9223372036854775807 ∧ ((-9223372036854775808 ≤ x.arity ∧ x.arity ≤ 9223372036854775807) ∧ (-9223372036854775808 ≤ x.keyLength ∧ x.keyLength ≤ 9223372036854775807))
def tRelation : Ty Relation := tAs (fun x => (x.name, (x.arity, x.keyLength))) (tP tStr (tP tInt tInt))
structure Database where
  relations : (List Relation)
  facts : (List Fact)
instance : Inhabited Database := ⟨⟨default, default⟩⟩
instance : DecidableEq Database := fun a b => decidable_of_iff (a.relations = b.relations ∧ a.facts = b.facts) (by cases a; cases b; simp)
def RdDatabase (x : Database) : Prop := (x.relations.length ≤ 9223372036854775807 ∧ ∀ yons ∈ x.relations, RdRelation yons) ∧ (x.facts.length ≤ 9223372036854775807 ∧ ∀ ycts ∈ x.facts, RdFact ycts)
def tDatabase : Ty Database := tAs (fun x => (x.relations, x.facts)) (tP (tSl tRelation) (tSl tFact))
structure l1Cur where
  b : (List Int)
  i : Int
  h : Int
instance : Inhabited l1Cur := ⟨⟨default, default, default⟩⟩
instance : DecidableEq l1Cur := fun a b => decidable_of_iff (a.b = b.b ∧ a.i = b.i ∧ a.h = b.h) (by cases a; cases b; simp)
def Rdl1Cur (x : l1Cur) : Prop := (x.b.length ≤ 9223372036854775807 ∧ ∀ yxb ∈ x.b, (0 ≤ yxb ∧ yxb ≤ 255)) ∧ ((-9223372036854775808 ≤ x.i ∧ x.i ≤ 9223372036854775807) ∧ (-9223372036854775808 ≤ x.h ∧ x.h ≤ 9223372036854775807))
def tl1Cur : Ty l1Cur := tAs (fun x => (x.b, (x.i, x.h))) (tP (tSl (tI .u8)) (tP tInt tInt))
def m_spec_l3Ints (u : Nat) (a0 : (List Int)) (b1 : (List Int)) : Option Int :=
  (whileF (R := Int) (fun (i5 : Int) => cond ((decide (i5 < (a0.length : Int))) && (decide (i5 < (b1.length : Int)))) ((getI a0 i5).bind fun v_6 => (getI b1 i5).bind fun v_11 => cond (decide (v_6 < v_11)) (some (.ret (-1))) (cond (decide (v_11 < v_6)) (some (.ret 1)) (some (.next (w64 (i5 + 1)))))) (some (.brk i5))) u 0).bind fun O1_ => onS O1_ (fun (i5 : Int) => cond (decide ((a0.length : Int) < (b1.length : Int))) (some (-1)) (cond (decide ((b1.length : Int) < (a0.length : Int))) (some 1) (some 0))) (fun r => some r)
def m_spec_CompareFacts (u : Nat) (a0 : Fact) (b1 : Fact) : Option Int :=
  cond (decide (a0.relation < b1.relation)) (some (-1)) (cond (decide (b1.relation < a0.relation)) (some 1) ((m_spec_l3Ints u a0.values b1.values).bind fun r_3 => some r_3))
def m_spec_l1In (x0 : Int) (low1 : Int) (high2 : Int) : Option Bool :=
  some ((decide (low1 ≤ x0)) && (decide (x0 ≤ high2)))
def m_spec_IsValidRelation (s0 : Relation) : Option Bool :=
  (cond (decide ((s0.name.size : Int) = 1)) ((getB s0.name 0).bind fun b_4 => cond (decide (97 ≤ b_4)) ((getB s0.name 0).bind fun b_7 => cond (decide (b_7 ≤ 122)) ((m_spec_l1In s0.arity 1 3).bind fun r_10 => cond r_10 ((m_spec_l1In s0.keyLength 0 s0.arity).bind fun r_13 => some r_13) (some false)) (some false)) (some false)) (some false)).bind fun (t2_1 : Bool) => some t2_1
def m_spec_AreValidRelations (l0 : (List Relation)) : Option Bool :=
  (forL (R := Bool) (fun (i_1 : Int) (x_i_1 : Relation) (_ : Unit) => ((m_spec_IsValidRelation x_i_1).bind fun r_5 => cond (!r_5) (some true) (cond (decide (0 < (i_1 : Int))) ((getI l0 ((i_1 : Int) - 1)).bind fun v_9 => some (!ltS v_9.name x_i_1.name)) (some false))).bind fun (t33_3 : Bool) => cond t33_3 (some (.ret false)) (some (.next ()))) l0 0 ()).bind fun O2_ => onS O2_ (fun (_ : Unit) => some (decide ((l0.length : Int) ≤ 4))) (fun r => some r)
def m_spec_IsValidFact (u : Nat) (l0 : (List Relation)) (f1 : Fact) : Option Bool :=
  ((m_spec_AreValidRelations l0).bind fun r_3 => cond (!r_3) (some true) ((m_spec_l1In f1.relation 0 ((l0.length : Int) - 1)).bind fun r_7 => cond (!r_7) (some true) ((getI l0 f1.relation).bind fun v_10 => some (decide ((f1.values.length : Int) ≠ v_10.arity))))).bind fun (t29_1 : Bool) => cond t29_1 (some false) ((whileF (R := Bool) (fun (i5 : Int) => cond (decide (i5 < (f1.values.length : Int))) ((getI f1.values i5).bind fun v_18 => (m_spec_l1In v_18 0 9).bind fun r_23 => cond (!r_23) (some (.ret false)) (some (.next (w64 (i5 + 1))))) (some (.brk i5))) u 0).bind fun O16_ => onS O16_ (fun (i5 : Int) => some true) (fun r => some r))
def m_spec_IsValidDatabase (u : Nat) (d0 : Database) : Option Bool :=
  (whileF (R := Bool) (fun (i3 : Int) => cond (decide (i3 < (d0.facts.length : Int))) (((getI d0.facts i3).bind fun v_5 => (m_spec_IsValidFact u d0.relations v_5).bind fun r_10 => cond (!r_10) (some true) (cond (decide (0 < i3)) ((getI d0.facts (w64 (i3 - 1))).bind fun v_14 => (m_spec_CompareFacts u v_14 v_5).bind fun r_19 => some (decide (0 ≤ r_19))) (some false))).bind fun (t38_3 : Bool) => cond t38_3 (some (.ret false)) (some (.next (w64 (i3 + 1))))) (some (.brk i3))) u 0).bind fun O1_ => onS O1_ (fun (i3 : Int) => ((m_spec_AreValidRelations d0.relations).bind fun r_24 => cond r_24 (some (decide ((d0.facts.length : Int) ≤ 14))) (some false)).bind fun (t2_22 : Bool) => some t2_22) (fun r => some r)
def m_spec_l4Copy (u : Nat) (d0 : Database) : Option Database :=
  (app 32 ([] : (List Relation)) d0.relations).bind fun us_1 => (whileF (R := Database) (fun (⟨i4, box4_facts⟩ : Int × (List Fact)) => cond (decide (i4 < (d0.facts.length : Int))) ((getI d0.facts i4).bind fun v_5 => (app 8 ([] : (List Int)) v_5.values).bind fun us_10 => (app 32 box4_facts ([({ relation := v_5.relation, values := us_10 } : Fact)] : (List Fact))).bind fun us_12 => some (.next ((w64 (i4 + 1)), us_12))) (some (.brk (i4, box4_facts)))) u (0, ([] : (List Fact)))).bind fun O3_ => onS O3_ (fun (⟨i4, box4_facts⟩ : Int × (List Fact)) => some ({ relations := us_1, facts := box4_facts } : Database)) (fun r => none)
def m_spec_FactIndex (u : Nat) (d0 : Database) (f1 : Fact) : Option Int :=
  (whileF (R := Int) (fun (i5 : Int) => cond (decide (i5 < (d0.facts.length : Int))) ((getI d0.facts i5).bind fun v_3 => (m_spec_CompareFacts u v_3 f1).bind fun r_8 => cond (decide (r_8 = 0)) (some (.ret i5)) (some (.next (w64 (i5 + 1))))) (some (.brk i5))) u 0).bind fun O1_ => onS O1_ (fun (i5 : Int) => some (-1)) (fun r => some r)
def m_spec_ContainsFact (u : Nat) (d0 : Database) (f1 : Fact) : Option Bool :=
  ((m_spec_IsValidDatabase u d0).bind fun r_3 => cond r_3 ((m_spec_FactIndex u d0 f1).bind fun r_6 => some (decide (0 ≤ r_6))) (some false)).bind fun (t4_1 : Bool) => some t4_1
def m_spec_InsertFact (u : Nat) (d0 : Database) (f1 : Fact) : Option (Database × Bool) :=
  (m_spec_l4Copy u d0).bind fun r_1 => ((m_spec_IsValidDatabase u d0).bind fun r_5 => cond (!r_5) (some true) ((m_spec_IsValidFact u d0.relations f1).bind fun r_8 => cond (!r_8) (some true) ((m_spec_ContainsFact u d0 f1).bind fun r_11 => cond r_11 (some true) (some (decide ((d0.facts.length : Int) = 14)))))).bind fun (t31_3 : Bool) => cond t31_3 (some (r_1, false)) ((whileF (R := (Database × Bool)) (fun (k7 : Int) => (cond (decide (k7 < (r_1.facts.length : Int))) ((getI r_1.facts k7).bind fun v_19 => (m_spec_CompareFacts u v_19 f1).bind fun r_24 => some (decide (r_24 < 0))) (some false)).bind fun (t47_16 : Bool) => cond t47_16 (some (.next (w64 (k7 + 1)))) (some (.brk k7))) u 0).bind fun O15_ => onS O15_ (fun (k7 : Int) => (app 8 ([] : (List Int)) f1.values).bind fun us_27 => (cutI r_1.facts k7 (r_1.facts.length : Int)).bind fun ys_29 => (app 32 ([({ relation := f1.relation, values := us_27 } : Fact)] : (List Fact)) ys_29).bind fun us_38 => (cutI r_1.facts 0 k7).bind fun ys_40 => (app 32 ([] : (List Fact)) ys_40).bind fun us_49 => (app 32 us_49 us_38).bind fun us_51 => some (({ relations := r_1.relations, facts := us_51 } : Database), true)) (fun r => none))
def m_spec_MergeValues (u : Nat) (d0 : Database) (a1 : Int) (b2 : Int) : Option (Database × Bool) :=
  ((m_spec_IsValidDatabase u d0).bind fun r_3 => cond (!r_3) (some true) ((m_spec_l1In a1 0 9).bind fun r_6 => cond (!r_6) (some true) ((m_spec_l1In b2 0 9).bind fun r_9 => some (!r_9)))).bind fun (t25_1 : Bool) => cond t25_1 ((m_spec_l4Copy u d0).bind fun r_12 => some (r_12, false)) ((app 32 ([] : (List Relation)) d0.relations).bind fun us_14 => (whileF (R := (Database × Bool)) (fun (⟨i9, box4_relations, box4_facts⟩ : Int × (List Relation) × (List Fact)) => cond (decide (i9 < (d0.facts.length : Int))) ((getI d0.facts i9).bind fun v_18 => (whileF (R := (Database × Bool)) (fun (⟨k11, box6_values⟩ : Int × (List Int)) => cond (decide (k11 < (v_18.values.length : Int))) ((getI v_18.values k11).bind fun v_25 => cond (decide (v_25 = a1)) ((app 8 box6_values ([b2] : (List Int))).bind fun us_31 => some (.next ((w64 (k11 + 1)), us_31))) ((app 8 box6_values ([v_25] : (List Int))).bind fun us_33 => some (.next ((w64 (k11 + 1)), us_33)))) (some (.brk (k11, box6_values)))) u (0, ([] : (List Int)))).bind fun O23_ => onS O23_ (fun (⟨k11, box6_values⟩ : Int × (List Int)) => (m_spec_InsertFact u ({ relations := box4_relations, facts := box4_facts } : Database) ({ relation := v_18.relation, values := box6_values } : Fact)).bind fun r_35 => some (.next ((w64 (i9 + 1)), r_35.1.relations, r_35.1.facts))) (fun r => none)) (some (.brk (i9, box4_relations, box4_facts)))) u (0, us_14, ([] : (List Fact)))).bind fun O16_ => onS O16_ (fun (⟨i9, box4_relations, box4_facts⟩ : Int × (List Relation) × (List Fact)) => some (({ relations := box4_relations, facts := box4_facts } : Database), true)) (fun r => none))
def m_cmp_isNaN_int (x0 : Int) : Option Bool :=
  some (decide (x0 ≠ x0))
def m_cmp_Compare_int (x0 : Int) (y1 : Int) : Option Int :=
  (m_cmp_isNaN_int x0).bind fun r_1 => (m_cmp_isNaN_int y1).bind fun r_3 => cond r_1 (cond r_3 (some 0) (some (-1))) (cond r_3 (some 1) (cond (decide (x0 < y1)) (some (-1)) (cond (decide (y1 < x0)) (some 1) (some 0))))
def m_slices_Compare_Sint_int (s10 : (List Int)) (s21 : (List Int)) : Option Int :=
  (forL (R := Int) (fun (t_1 : Int) (x_t_1 : Int) (_ : Unit) => cond (decide ((s21.length : Int) ≤ (t_1 : Int))) (some (.ret 1)) ((getI s21 (t_1 : Int)).bind fun v_4 => (m_cmp_Compare_int x_t_1 v_4).bind fun r_9 => cond (decide (r_9 ≠ 0)) (some (.ret r_9)) (some (.next ())))) s10 0 ()).bind fun O2_ => onS O2_ (fun (_ : Unit) => cond (decide ((s10.length : Int) < (s21.length : Int))) (some (-1)) (some 0)) (fun r => some r)
def m_impl_compare (a0 : Int) (b1 : Int) : Option Int :=
  cond (decide (a0 < b1)) (some (-1)) (cond (decide (b1 < a0)) (some 1) (some 0))
def m_impl_CompareFacts (a0 : Fact) (b1 : Fact) : Option Int :=
  cond (decide (a0.relation ≠ b1.relation)) ((m_impl_compare a0.relation b1.relation).bind fun r_2 => some r_2) ((m_slices_Compare_Sint_int a0.values b1.values).bind fun r_4 => some r_4)
def m_impl_within (n0 : Int) (low1 : Int) (high2 : Int) : Option Bool :=
  some ((decide (low1 ≤ n0)) && (decide (n0 ≤ high2)))
def m_impl_IsValidRelation (relation0 : Relation) : Option Bool :=
  (cond (decide ((relation0.name.size : Int) = 1)) ((getB relation0.name 0).bind fun b_4 => cond (decide (97 ≤ b_4)) ((getB relation0.name 0).bind fun b_7 => cond (decide (b_7 ≤ 122)) ((m_impl_within relation0.arity 1 3).bind fun r_10 => cond r_10 ((m_impl_within relation0.keyLength 0 relation0.arity).bind fun r_13 => some r_13) (some false)) (some false)) (some false)) (some false)).bind fun (t2_1 : Bool) => some t2_1
def m_impl_AreValidRelations (relations0 : (List Relation)) : Option Bool :=
  (forL (R := Bool) (fun (t_1 : Int) (x_t_1 : Relation) (_ : Unit) => ((m_impl_IsValidRelation x_t_1).bind fun r_5 => cond (!r_5) (some true) (cond (decide (0 < (t_1 : Int))) ((getI relations0 ((t_1 : Int) - 1)).bind fun v_9 => some (!ltS v_9.name x_t_1.name)) (some false))).bind fun (t29_3 : Bool) => cond t29_3 (some (.ret false)) (some (.next ()))) relations0 0 ()).bind fun O2_ => onS O2_ (fun (_ : Unit) => some (decide ((relations0.length : Int) ≤ 4))) (fun r => some r)
def m_slices_IndexFunc_Sint_int (s0 : (List Int)) (f1 : (Int → Option Bool)) : Option Int :=
  (forL (R := Int) (fun (t_1 : Int) (x_t_1 : Int) (_ : Unit) => (f1 x_t_1).bind fun r_3 => cond r_3 (some (.ret (t_1 : Int))) (some (.next ()))) s0 0 ()).bind fun O2_ => onS O2_ (fun (_ : Unit) => some (-1)) (fun r => some r)
def m_slices_ContainsFunc_Sint_int (s0 : (List Int)) (f1 : (Int → Option Bool)) : Option Bool :=
  (m_slices_IndexFunc_Sint_int s0 f1).bind fun r_1 => some (decide (0 ≤ r_1))
def m_impl_areValues_1 (v0 : Int) : Option Bool :=
  (m_impl_within v0 0 9).bind fun r_1 => some (!r_1)
def m_impl_areValues (list0 : (List Int)) : Option Bool :=
  (m_slices_ContainsFunc_Sint_int list0 (fun x0 => m_impl_areValues_1 x0)).bind fun r_1 => some (!r_1)
def m_impl_isFact (relations0 : (List Relation)) (fact1 : Fact) : Option Bool :=
  ((m_impl_within fact1.relation 0 ((relations0.length : Int) - 1)).bind fun r_4 => cond r_4 ((getI relations0 fact1.relation).bind fun v_7 => cond (decide ((fact1.values.length : Int) = v_7.arity)) ((m_impl_areValues fact1.values).bind fun r_13 => some r_13) (some false)) (some false)).bind fun (t4_1 : Bool) => some t4_1
def m_impl_IsValidDatabase (db0 : Database) : Option Bool :=
  ((m_impl_AreValidRelations db0.relations).bind fun r_3 => cond (!r_3) (some true) (some (decide (14 < (db0.facts.length : Int))))).bind fun (t14_1 : Bool) => cond t14_1 (some false) ((forL (R := Bool) (fun (t_7 : Int) (x_t_7 : Fact) (_ : Unit) => ((m_impl_isFact db0.relations x_t_7).bind fun r_11 => cond (!r_11) (some true) (cond (decide (0 < (t_7 : Int))) ((getI db0.facts ((t_7 : Int) - 1)).bind fun v_15 => (m_impl_CompareFacts v_15 x_t_7).bind fun r_20 => some (decide (0 ≤ r_20))) (some false))).bind fun (t42_9 : Bool) => cond t42_9 (some (.ret false)) (some (.next ()))) db0.facts 0 ()).bind fun O8_ => onS O8_ (fun (_ : Unit) => some true) (fun r => some r))
def m_impl_copyDatabase (db0 : Database) : Option Database :=
  (app 32 ([] : (List Relation)) db0.relations).bind fun us_1 => (forS (fun (t_3 : Int) (x_t_3 : Fact) (box5_facts : (List Fact)) => (app 8 ([] : (List Int)) x_t_3.values).bind fun us_5 => (app 32 box5_facts ([({ relation := x_t_3.relation, values := us_5 } : Fact)] : (List Fact))).bind fun us_7 => some us_7) db0.facts 0 ([] : (List Fact))).bind fun (box5_facts : (List Fact)) => some ({ relations := us_1, facts := box5_facts } : Database)


def m_impl_MergeValues_1 (x0 : Fact) (y1 : Fact) : Option Bool :=
  (m_impl_CompareFacts x0 y1).bind fun r_1 => some (decide (r_1 = 0))
noncomputable def m_impl_MergeValues (db0 : Database) (a1 : Int) (b2 : Int) : Option (Database × Bool) :=
  (m_impl_copyDatabase db0).bind fun r_1 => ((m_impl_IsValidDatabase db0).bind fun r_5 => cond (!r_5) (some true) ((m_impl_within a1 0 9).bind fun r_8 => cond (!r_8) (some true) ((m_impl_within b2 0 9).bind fun r_11 => some (!r_11)))).bind fun (t27_3 : Bool) => cond t27_3 (some (r_1, false)) ((forM (fun (t_14 : Int) (t30m : (List Fact)) => (getI t30m (t_14 : Int)).bind fun v_16 => (forM (fun (t_21 : Int) (nest3_values : (List Int)) => (getI nest3_values (t_21 : Int)).bind fun v_23 => cond (decide (v_23 = a1)) (some (nest3_values.set ((t_21 : Int)).toNat b2)) (some nest3_values)) ((v_16.values.length : Int) - 0).toNat 0 v_16.values).bind fun (nest3_values : (List Int)) => some (t30m.set ((t_14 : Int)).toNat ({ relation := v_16.relation, values := nest3_values } : Fact))) ((r_1.facts.length : Int) - 0).toNat 0 r_1.facts).bind fun (t30m : (List Fact)) => (sortM (fun x y => m_impl_CompareFacts x y) t30m).bind fun so_29 => (compM (fun x y => m_impl_MergeValues_1 x y) so_29).bind fun r_32 => some (({ relations := r_1.relations, facts := r_32 } : Database), true))
def m_laws_big (code0 : (List Int)) : Option Bool :=
  some (decide (1048576 < (code0.length : Int)))
def m_spec_l1New (u : Nat) (code0 : (List Int)) : Option l1Cur :=
  (whileF (R := l1Cur) (fun (⟨h3, i4⟩ : Int × Int) => cond ((decide (i4 < (code0.length : Int))) && (decide (i4 < 4000))) ((getI code0 i4).bind fun v_6 => some (.next ((bitI .and .i64 (w64 ((w64 ((w64 (h3 * 131)) + (w64 v_6))) + 7)) 1073741823), (w64 (i4 + 1))))) (some (.brk (h3, i4)))) u ((w64 (10101 + (code0.length : Int))), 0)).bind fun O1_ => onS O1_ (fun (⟨h3, i4⟩ : Int × Int) => some ({ b := code0, i := 0, h := h3 } : l1Cur)) (fun r => none)
def m_spec_l1Byte (c0 : l1Cur) : Option (Int × l1Cur) :=
  cond (decide (c0.i < (c0.b.length : Int))) ((getI c0.b c0.i).bind fun v_2 => some ((bitI .and .i64 (w64 ((bitI .and .i64 (bitI .xor .i64 (shrI .i64 (w64 ((w64 (c0.h * 6364136223846793005)) + 1442695040888963407)) 33) (shrI .i64 (w64 ((w64 (c0.h * 6364136223846793005)) + 1442695040888963407)) 45)) 255) + (w64 v_2))) 255), ({ b := c0.b, i := (w64 (c0.i + 1)), h := (w64 ((w64 (c0.h * 6364136223846793005)) + 1442695040888963407)) } : l1Cur))) (some ((bitI .and .i64 (bitI .xor .i64 (shrI .i64 (w64 ((w64 (c0.h * 6364136223846793005)) + 1442695040888963407)) 33) (shrI .i64 (w64 ((w64 (c0.h * 6364136223846793005)) + 1442695040888963407)) 45)) 255), ({ b := c0.b, i := c0.i, h := (w64 ((w64 (c0.h * 6364136223846793005)) + 1442695040888963407)) } : l1Cur)))
def m_spec_l1Below (c0 : l1Cur) (n1 : Int) : Option (Int × l1Cur) :=
  cond (decide (n1 ≤ 0)) (some (0, c0)) (cond (decide (n1 ≤ 256)) ((m_spec_l1Byte c0).bind fun r_3 => (gD n1).bind fun _u => some ((r_3.1.tmod n1), r_3.2)) ((m_spec_l1Byte c0).bind fun r_6 => (m_spec_l1Byte r_6.2).bind fun r_8 => (m_spec_l1Byte r_8.2).bind fun r_10 => (m_spec_l1Byte r_10.2).bind fun r_12 => (gD n1).bind fun _u => some (((w64 ((w64 ((w64 ((w64 (r_6.1 * 16777216)) + (w64 (r_8.1 * 65536)))) + (w64 (r_10.1 * 256)))) + r_12.1)).tmod n1), r_12.2)))
def m_spec_l1PickInt (c0 : l1Cur) (list1 : (List Int)) : Option (Int × l1Cur) :=
  (m_spec_l1Below c0 (list1.length : Int)).bind fun r_1 => (getI list1 r_1.1).bind fun v_3 => some (v_3, r_1.2)
def m_spec_l2Sigs (c0 : l1Cur) : Option ((List Relation) × l1Cur) :=
  (m_spec_l1PickInt c0 ([1, 1, 2, 0] : (List Int))).bind fun r_1 => (m_spec_l1Below r_1.2 2).bind fun r_3 => some (([({ name := (⟨#[114]⟩ : ByteArray), arity := 2, keyLength := 1 } : Relation), ({ name := (⟨#[115]⟩ : ByteArray), arity := 2, keyLength := 1 } : Relation), ({ name := (⟨#[116]⟩ : ByteArray), arity := 2, keyLength := r_1.1 } : Relation), ({ name := (⟨#[117]⟩ : ByteArray), arity := 3, keyLength := (w64 (1 + r_3.1)) } : Relation)] : (List Relation)), r_3.2)
def m_spec_l3Fact (u : Nat) (c0 : l1Cur) (l1 : (List Relation)) (val2 : Int) : Option (Fact × l1Cur) :=
  (m_spec_l1Below c0 (l1.length : Int)).bind fun r_1 => (whileF (R := Fact) (fun (⟨box0, box2_values⟩ : l1Cur × (List Int)) => (getI l1 r_1.1).bind fun v_4 => cond (decide ((box2_values.length : Int) < v_4.arity)) ((m_spec_l1Below box0 val2).bind fun r_10 => (app 8 box2_values ([r_10.1] : (List Int))).bind fun us_12 => some (.next (r_10.2, us_12))) (some (.brk (box0, box2_values)))) u (r_1.2, ([] : (List Int)))).bind fun O3_ => onS O3_ (fun (⟨box0, box2_values⟩ : l1Cur × (List Int)) => some (({ relation := r_1.1, values := box2_values } : Fact), box0)) (fun r => none)
def m_spec_l4Db (u : Nat) (c0 : l1Cur) : Option (Database × l1Cur) :=
  (m_spec_l2Sigs c0).bind fun r_1 => (m_spec_l1PickInt r_1.2 ([2, 2, 3, 3] : (List Int))).bind fun r_3 => (m_spec_l1Below r_3.2 11).bind fun r_5 => (whileF (R := Database) (fun (⟨n5, box0, box3_relations, box3_facts⟩ : Int × l1Cur × (List Relation) × (List Fact)) => cond (decide (0 < n5)) ((m_spec_l3Fact u box0 box3_relations r_3.1).bind fun r_9 => (m_spec_InsertFact u ({ relations := box3_relations, facts := box3_facts } : Database) r_9.1).bind fun r_11 => some (.next ((w64 (n5 - 1)), r_9.2, r_11.1.relations, r_11.1.facts))) (some (.brk (n5, box0, box3_relations, box3_facts)))) u ((w64 (2 + r_5.1)), r_5.2, r_1.1, ([] : (List Fact)))).bind fun O7_ => onS O7_ (fun (⟨n5, box0, box3_relations, box3_facts⟩ : Int × l1Cur × (List Relation) × (List Fact)) => some (({ relations := box3_relations, facts := box3_facts } : Database), box0)) (fun r => none)
def m_spec_l3Any (u : Nat) (c0 : l1Cur) (l1 : (List Relation)) : Option (Fact × l1Cur) :=
  (m_spec_l3Fact u c0 l1 4).bind fun r_1 => (m_spec_l1Below r_1.2 10).bind fun r_3 => cond (decide (r_3.1 = 0)) ((m_spec_l1Below r_3.2 6).bind fun r_6 => some (({ relation := (w64 (r_6.1 - 1)), values := r_1.1.values } : Fact), r_6.2)) (cond (decide (r_3.1 = 1)) ((app 8 r_1.1.values ([1] : (List Int))).bind fun us_9 => some (({ relation := r_1.1.relation, values := us_9 } : Fact), r_3.2)) (cond (decide (r_3.1 = 2)) ((m_spec_l1PickInt r_3.2 ([-1, 10, 9] : (List Int))).bind fun r_12 => (getI r_1.1.values 0).bind fun v_14 => some (({ relation := r_1.1.relation, values := (r_1.1.values.set (0 : Int).toNat r_12.1) } : Fact), r_12.2)) (some (r_1.1, r_3.2))))
def m_spec_l1Pick (c0 : l1Cur) (list1 : (List ByteArray)) : Option (ByteArray × l1Cur) :=
  (m_spec_l1Below c0 (list1.length : Int)).bind fun r_1 => (getI list1 r_1.1).bind fun v_3 => some (v_3, r_1.2)
def m_spec_l2Any (c0 : l1Cur) : Option (Relation × l1Cur) :=
  (m_spec_l1Pick c0 ([(⟨#[114]⟩ : ByteArray), (⟨#[122]⟩ : ByteArray), (⟨#[97]⟩ : ByteArray), (⟨#[]⟩ : ByteArray), (⟨#[82]⟩ : ByteArray), (⟨#[97, 98]⟩ : ByteArray)] : (List ByteArray))).bind fun r_1 => (m_spec_l1Below r_1.2 6).bind fun r_3 => (m_spec_l1Below r_3.2 5).bind fun r_5 => some (({ name := r_1.1, arity := (w64 (r_3.1 - 1)), keyLength := (w64 (r_5.1 - 1)) } : Relation), r_5.2)
def m_spec_l4Any (u : Nat) (c0 : l1Cur) : Option (Database × l1Cur) :=
  (m_spec_l4Db u c0).bind fun r_1 => (m_spec_l1Below r_1.2 14).bind fun r_3 => cond (decide (r_3.1 = 0)) ((m_spec_l3Any u r_3.2 r_1.1.relations).bind fun r_6 => (app 32 r_1.1.facts ([r_6.1] : (List Fact))).bind fun us_8 => some (({ relations := r_1.1.relations, facts := us_8 } : Database), r_6.2)) (cond (decide (r_3.1 = 1)) ((m_spec_l1Below r_3.2 4).bind fun r_11 => (cutI r_1.1.relations 0 r_11.1).bind fun ys_13 => some (({ relations := ys_13, facts := r_1.1.facts } : Database), r_11.2)) (cond (decide (r_3.1 = 2)) ((m_spec_l1Below r_3.2 4).bind fun r_23 => (m_spec_l2Any r_23.2).bind fun r_25 => (getI r_1.1.relations r_23.1).bind fun v_27 => some (({ relations := (r_1.1.relations.set (r_23.1).toNat r_25.1), facts := r_1.1.facts } : Database), r_25.2)) (some (r_1.1, r_3.2))))
def m_spec_DrawMergeValues (u : Nat) (code0 : (List Int)) : Option (Database × Int × Int) :=
  (m_spec_l1New u code0).bind fun r_1 => (m_spec_l4Any u r_1).bind fun r_3 => (m_spec_l1PickInt r_3.2 ([0, 1, 2, 9, 10, -1] : (List Int))).bind fun r_5 => (m_spec_l1PickInt r_5.2 ([0, 1, 2, 9, 10] : (List Int))).bind fun r_7 => some (r_3.1, r_5.1, r_7.1)
def m_spec_EqualDatabases (u : Nat) (a0 : Database) (b1 : Database) : Option Bool :=
  cond ((decide ((a0.relations.length : Int) ≠ (b1.relations.length : Int))) || (decide ((a0.facts.length : Int) ≠ (b1.facts.length : Int)))) (some false) ((whileF (R := Bool) (fun (i5 : Int) => cond (decide (i5 < (a0.relations.length : Int))) ((getI a0.relations i5).bind fun v_7 => (getI b1.relations i5).bind fun v_12 => cond (!(cmpSc [.s v_7.name v_12.name, .i v_7.arity v_12.arity, .i v_7.keyLength v_12.keyLength])) (some (.ret false)) (some (.next (w64 (i5 + 1))))) (some (.brk i5))) u 0).bind fun O5_ => onS O5_ (fun (i5 : Int) => (whileF (R := Bool) (fun (i6 : Int) => cond (decide (i6 < (a0.facts.length : Int))) ((getI a0.facts i6).bind fun v_20 => (getI b1.facts i6).bind fun v_25 => (m_spec_CompareFacts u v_20 v_25).bind fun r_30 => cond (decide (r_30 ≠ 0)) (some (.ret false)) (some (.next (w64 (i6 + 1))))) (some (.brk i6))) u 0).bind fun O18_ => onS O18_ (fun (i6 : Int) => some true) (fun r => some r)) (fun r => some r))
def m_laws_has (l0 : (List Int)) (x1 : Int) : Option Bool :=
  (forL (R := Bool) (fun (i_1 : Int) (x_i_1 : Int) (_ : Unit) => cond (decide (x_i_1 = x1)) (some (.ret true)) (some (.next ()))) l0 0 ()).bind fun O2_ => onS O2_ (fun (_ : Unit) => some false) (fun r => some r)
noncomputable def m_laws_FnMergeValues (u : Nat) (code0 : (List Int)) : Option Bool :=
  (m_laws_big code0).bind fun r_1 => cond r_1 (some true) ((m_spec_DrawMergeValues u code0).bind fun r_4 => (m_impl_MergeValues r_4.1 r_4.2.1 r_4.2.2).bind fun r_6 => (m_spec_MergeValues u r_4.1 r_4.2.1 r_4.2.2).bind fun r_8 => (cond (r_6.2 != r_8.2) (some true) ((m_spec_EqualDatabases u r_6.1 r_8.1).bind fun r_13 => some (!r_13))).bind fun (t43_10 : Bool) => cond t43_10 (some false) (cond (!r_6.2) ((m_spec_EqualDatabases u r_6.1 r_4.1).bind fun r_17 => some r_17) ((m_impl_MergeValues r_6.1 r_4.2.1 r_4.2.2).bind fun r_19 => (whileF (R := Bool) (fun (i12 : Int) => cond (decide (i12 < (r_6.1.facts.length : Int))) ((cond (decide (r_4.2.1 ≠ r_4.2.2)) ((getI r_6.1.facts i12).bind fun v_26 => (m_laws_has v_26.values r_4.2.1).bind fun r_31 => some r_31) (some false)).bind fun (t75_23 : Bool) => cond t75_23 (some (.ret false)) (some (.next (w64 (i12 + 1))))) (some (.brk i12))) u 0).bind fun O21_ => onS O21_ (fun (i12 : Int) => ((m_spec_EqualDatabases u r_19.1 r_6.1).bind fun r_36 => cond r_36 ((m_impl_IsValidDatabase r_6.1).bind fun r_39 => cond r_39 (some (decide ((r_6.1.facts.length : Int) ≤ (r_4.1.facts.length : Int)))) (some false)) (some false)).bind fun (t2_34 : Bool) => some t2_34) (fun r => some r))))
def m_slices_Index_Sint_int (s0 : (List Int)) (v1 : Int) : Option Int :=
  (forL (R := Int) (fun (t_1 : Int) (x_t_1 : Int) (_ : Unit) => cond (decide (v1 = x_t_1)) (some (.ret (t_1 : Int))) (some (.next ()))) s0 0 ()).bind fun O2_ => onS O2_ (fun (_ : Unit) => some (-1)) (fun r => some r)
def m_slices_Contains_Sint_int (s0 : (List Int)) (v1 : Int) : Option Bool :=
  (m_slices_Index_Sint_int s0 v1).bind fun r_1 => some (decide (0 ≤ r_1))
def m_impl_without (a0 : (List Int)) (b1 : (List Int)) : Option (List Int) :=
  (forS (fun (t_1 : Int) (x_t_1 : Int) (out5 : (List Int)) => (m_slices_Contains_Sint_int b1 x_t_1).bind fun r_3 => cond (!r_3) ((app 8 out5 ([x_t_1] : (List Int))).bind fun us_6 => some us_6) (some out5)) a0 0 ([] : (List Int))).bind fun (out5 : (List Int)) => some out5
def m_slices_Equal_Sint_int (s10 : (List Int)) (s21 : (List Int)) : Option Bool :=
  cond (decide ((s10.length : Int) ≠ (s21.length : Int))) (some false) ((forL (R := Bool) (fun (t_2 : Int) (x_t_2 : Int) (_ : Unit) => (getI s21 (t_2 : Int)).bind fun v_4 => cond (decide (x_t_2 ≠ v_4)) (some (.ret false)) (some (.next ()))) s10 0 ()).bind fun O3_ => onS O3_ (fun (_ : Unit) => some true) (fun r => some r))
def m_laws_eqIntS (a0 : (List Int)) (b1 : (List Int)) : Option Bool :=
  cond (decide ((a0.length : Int) ≠ (b1.length : Int))) (some false) ((forL (R := Bool) (fun (i_2 : Int) (x_i_2 : Int) (_ : Unit) => (getI b1 (i_2 : Int)).bind fun v_4 => cond (decide (x_i_2 ≠ v_4)) (some (.ret false)) (some (.next ()))) a0 0 ()).bind fun O3_ => onS O3_ (fun (_ : Unit) => some true) (fun r => some r))
def m_laws_markIntS (a0 : (List Int)) (k1 : Int) : Option (Int × (List Int)) :=
  (forM (fun (i_1 : Int) (⟨a0m, k1⟩ : (List Int) × Int) => (getI a0m (i_1 : Int)).bind fun v_3 => some ((a0m.set ((i_1 : Int)).toNat k1), (w64 (k1 + 1)))) ((a0.length : Int) - 0).toNat 0 (a0, k1)).bind fun (⟨a0m, k1⟩ : (List Int) × Int) => some (k1, a0m)
def m_laws_heldIntS (a0 : (List Int)) (k1 : Int) : Option Int :=
  (forL (R := Int) (fun (i_1 : Int) (x_i_1 : Int) (k1 : Int) => cond (decide (x_i_1 ≠ k1)) (some (.ret (-1))) (some (.next (w64 (k1 + 1))))) a0 0 k1).bind fun O2_ => onS O2_ (fun (k1 : Int) => some k1) (fun r => some r)
def m_laws_szRelation (a0 : Relation) (left1 : Int) : Option Int :=
  cond (decide ((w64 (left1 - (a0.name.size : Int))) < 0)) (some (-1)) (some (w64 (left1 - (a0.name.size : Int))))
def m_laws_szRelationS (a0 : (List Relation)) (left1 : Int) : Option Int :=
  cond (decide ((w64 (left1 - (a0.length : Int))) < 0)) (some (-1)) ((forL (R := Int) (fun (i_2 : Int) (x_i_2 : Relation) (left1 : Int) => (m_laws_szRelation x_i_2 left1).bind fun r_4 => cond (decide (r_4 < 0)) (some (.ret (-1))) (some (.next r_4))) a0 0 (w64 (left1 - (a0.length : Int)))).bind fun O3_ => onS O3_ (fun (left1 : Int) => some left1) (fun r => some r))
def m_laws_szIntS (a0 : (List Int)) (left1 : Int) : Option Int :=
  cond (decide ((w64 (left1 - (a0.length : Int))) < 0)) (some (-1)) (some (w64 (left1 - (a0.length : Int))))
def m_laws_szFact (a0 : Fact) (left1 : Int) : Option Int :=
  (m_laws_szIntS a0.values left1).bind fun r_1 => cond (decide (r_1 < 0)) (some (-1)) (some r_1)
def m_laws_szFactS (a0 : (List Fact)) (left1 : Int) : Option Int :=
  cond (decide ((w64 (left1 - (a0.length : Int))) < 0)) (some (-1)) ((forL (R := Int) (fun (i_2 : Int) (x_i_2 : Fact) (left1 : Int) => (m_laws_szFact x_i_2 left1).bind fun r_4 => cond (decide (r_4 < 0)) (some (.ret (-1))) (some (.next r_4))) a0 0 (w64 (left1 - (a0.length : Int)))).bind fun O3_ => onS O3_ (fun (left1 : Int) => some left1) (fun r => some r))
def m_laws_szDatabase (a0 : Database) (left1 : Int) : Option Int :=
  (m_laws_szRelationS a0.relations left1).bind fun r_1 => cond (decide (r_1 < 0)) (some (-1)) ((m_laws_szFactS a0.facts r_1).bind fun r_4 => cond (decide (r_4 < 0)) (some (-1)) (some r_4))
def m_laws_toRelation (a0 : Relation) : Option Relation :=
  some a0
def m_laws_toRelationS (a0 : (List Relation)) : Option (List Relation) :=
  (mk 32 (a0.length : Int) (default : Relation)).bind fun us_1 => (forS (fun (i_3 : Int) (x_i_3 : Relation) (out3 : (List Relation)) => (m_laws_toRelation x_i_3).bind fun r_5 => (getI out3 (i_3 : Int)).bind fun v_7 => some (out3.set ((i_3 : Int)).toNat r_5)) a0 0 us_1).bind fun (out3 : (List Relation)) => some out3
def m_laws_toIntS (a0 : (List Int)) : Option (List Int) :=
  (mk 8 (a0.length : Int) (0 : Int)).bind fun us_1 => (forS (fun (i_3 : Int) (x_i_3 : Int) (out3 : (List Int)) => (getI out3 (i_3 : Int)).bind fun v_5 => some (out3.set ((i_3 : Int)).toNat x_i_3)) a0 0 us_1).bind fun (out3 : (List Int)) => some out3
def m_laws_toFact (a0 : Fact) : Option Fact :=
  (m_laws_toIntS a0.values).bind fun r_1 => some ({ relation := a0.relation, values := r_1 } : Fact)
def m_laws_toFactS (a0 : (List Fact)) : Option (List Fact) :=
  (mk 32 (a0.length : Int) (default : Fact)).bind fun us_1 => (forS (fun (i_3 : Int) (x_i_3 : Fact) (out3 : (List Fact)) => (m_laws_toFact x_i_3).bind fun r_5 => (getI out3 (i_3 : Int)).bind fun v_7 => some (out3.set ((i_3 : Int)).toNat r_5)) a0 0 us_1).bind fun (out3 : (List Fact)) => some out3
def m_laws_toDatabase (a0 : Database) : Option Database :=
  (m_laws_toRelationS a0.relations).bind fun r_1 => (m_laws_toFactS a0.facts).bind fun r_3 => some ({ relations := r_1, facts := r_3 } : Database)
def m_laws_eqRelation (a0 : Relation) (b1 : Relation) : Option Bool :=
  cond (decide (a0.name ≠ b1.name)) (some false) (cond (decide (a0.arity ≠ b1.arity)) (some false) (cond (decide (a0.keyLength ≠ b1.keyLength)) (some false) (some true)))
def m_laws_eqRelationS (a0 : (List Relation)) (b1 : (List Relation)) : Option Bool :=
  cond (decide ((a0.length : Int) ≠ (b1.length : Int))) (some false) ((forL (R := Bool) (fun (i_2 : Int) (x_i_2 : Relation) (_ : Unit) => (getI b1 (i_2 : Int)).bind fun v_4 => (m_laws_eqRelation x_i_2 v_4).bind fun r_9 => cond (!r_9) (some (.ret false)) (some (.next ()))) a0 0 ()).bind fun O3_ => onS O3_ (fun (_ : Unit) => some true) (fun r => some r))
def m_laws_eqFact (a0 : Fact) (b1 : Fact) : Option Bool :=
  cond (decide (a0.relation ≠ b1.relation)) (some false) ((m_laws_eqIntS a0.values b1.values).bind fun r_2 => cond (!r_2) (some false) (some true))
def m_laws_eqFactS (a0 : (List Fact)) (b1 : (List Fact)) : Option Bool :=
  cond (decide ((a0.length : Int) ≠ (b1.length : Int))) (some false) ((forL (R := Bool) (fun (i_2 : Int) (x_i_2 : Fact) (_ : Unit) => (getI b1 (i_2 : Int)).bind fun v_4 => (m_laws_eqFact x_i_2 v_4).bind fun r_9 => cond (!r_9) (some (.ret false)) (some (.next ()))) a0 0 ()).bind fun O3_ => onS O3_ (fun (_ : Unit) => some true) (fun r => some r))
def m_laws_eqDatabase (a0 : Database) (b1 : Database) : Option Bool :=
  (m_laws_eqRelationS a0.relations b1.relations).bind fun r_1 => cond (!r_1) (some false) ((m_laws_eqFactS a0.facts b1.facts).bind fun r_4 => cond (!r_4) (some false) (some true))
def m_laws_markText (u : Nat) (k0 : Int) : Option ByteArray :=
  cond (decide (k0 ≤ 0)) (some (⟨#[109, 48]⟩ : ByteArray)) ((whileF (R := ByteArray) (fun (⟨k0, out3⟩ : Int × ByteArray) => cond (decide (0 < k0)) ((catS (strOf ([(IntKind.wrap .u8 (w64 (48 + (k0.tmod 10))))] : (List Int))) out3).bind fun cat_4 => some (.next ((w64 (k0.tdiv 10)), cat_4))) (some (.brk (k0, out3)))) u (k0, (⟨#[]⟩ : ByteArray))).bind fun O2_ => onS O2_ (fun (⟨k0, out3⟩ : Int × ByteArray) => (catS (⟨#[109]⟩ : ByteArray) out3).bind fun cat_6 => some cat_6) (fun r => none))
def m_laws_markRelationS (u : Nat) (a0 : (List Relation)) (k1 : Int) : Option (Int × (List Relation)) :=
  (forM (fun (i_1 : Int) (⟨a0m, k1⟩ : (List Relation) × Int) => (m_laws_markText u k1).bind fun r_3 => (getI a0m (i_1 : Int)).bind fun v_5 => (getI (a0m.set ((i_1 : Int)).toNat ({ name := r_3, arity := v_5.arity, keyLength := v_5.keyLength } : Relation)) (i_1 : Int)).bind fun v_10 => (getI ((a0m.set ((i_1 : Int)).toNat ({ name := r_3, arity := v_5.arity, keyLength := v_5.keyLength } : Relation)).set ((i_1 : Int)).toNat ({ name := v_10.name, arity := (w64 (k1 + 1)), keyLength := v_10.keyLength } : Relation)) (i_1 : Int)).bind fun v_15 => some ((((a0m.set ((i_1 : Int)).toNat ({ name := r_3, arity := v_5.arity, keyLength := v_5.keyLength } : Relation)).set ((i_1 : Int)).toNat ({ name := v_10.name, arity := (w64 (k1 + 1)), keyLength := v_10.keyLength } : Relation)).set ((i_1 : Int)).toNat ({ name := v_15.name, arity := v_15.arity, keyLength := (w64 ((w64 (k1 + 1)) + 1)) } : Relation)), (w64 ((w64 ((w64 (k1 + 1)) + 1)) + 1)))) ((a0.length : Int) - 0).toNat 0 (a0, k1)).bind fun (⟨a0m, k1⟩ : (List Relation) × Int) => some (k1, a0m)
def m_laws_markFactS (a0 : (List Fact)) (k1 : Int) : Option (Int × (List Fact)) :=
  (forM (fun (i_1 : Int) (⟨a0m, k1⟩ : (List Fact) × Int) => (getI a0m (i_1 : Int)).bind fun v_3 => (getI (a0m.set ((i_1 : Int)).toNat ({ relation := k1, values := v_3.values } : Fact)) (i_1 : Int)).bind fun v_8 => (m_laws_markIntS v_8.values (w64 (k1 + 1))).bind fun r_13 => some (((a0m.set ((i_1 : Int)).toNat ({ relation := k1, values := v_3.values } : Fact)).set ((i_1 : Int)).toNat ({ relation := v_8.relation, values := r_13.2 } : Fact)), r_13.1)) ((a0.length : Int) - 0).toNat 0 (a0, k1)).bind fun (⟨a0m, k1⟩ : (List Fact) × Int) => some (k1, a0m)
def m_laws_markDatabase (u : Nat) (a0 : Database) (k1 : Int) : Option (Int × Database) :=
  (m_laws_markRelationS u a0.relations k1).bind fun r_1 => (m_laws_markFactS a0.facts r_1.1).bind fun r_5 => some (r_5.1, ({ relations := r_1.2, facts := r_5.2 } : Database))
def m_laws_heldRelationS (u : Nat) (a0 : (List Relation)) (k1 : Int) : Option Int :=
  (forL (R := Int) (fun (i_1 : Int) (x_i_1 : Relation) (k1 : Int) => (m_laws_markText u k1).bind fun r_3 => cond (decide (x_i_1.name ≠ r_3)) (some (.ret (-1))) (cond (decide (x_i_1.arity ≠ (w64 (k1 + 1)))) (some (.ret (-1))) (cond (decide (x_i_1.keyLength ≠ (w64 ((w64 (k1 + 1)) + 1)))) (some (.ret (-1))) (some (.next (w64 ((w64 ((w64 (k1 + 1)) + 1)) + 1))))))) a0 0 k1).bind fun O2_ => onS O2_ (fun (k1 : Int) => some k1) (fun r => some r)
def m_laws_heldFactS (a0 : (List Fact)) (k1 : Int) : Option Int :=
  (forL (R := Int) (fun (i_1 : Int) (x_i_1 : Fact) (k1 : Int) => cond (decide (x_i_1.relation ≠ k1)) (some (.ret (-1))) ((m_laws_heldIntS x_i_1.values (w64 (k1 + 1))).bind fun r_4 => cond (decide (r_4 < 0)) (some (.ret (-1))) (some (.next r_4)))) a0 0 k1).bind fun O2_ => onS O2_ (fun (k1 : Int) => some k1) (fun r => some r)
def m_laws_heldDatabase (u : Nat) (a0 : Database) (k1 : Int) : Option Int :=
  (m_laws_heldRelationS u a0.relations k1).bind fun r_1 => cond (decide (r_1 < 0)) (some (-1)) ((m_laws_heldFactS a0.facts r_1).bind fun r_4 => cond (decide (r_4 < 0)) (some (-1)) (some r_4))
noncomputable def m_laws_FnExactMergeValues (u : Nat) (aDb0 : Database) (aA1 : Int) (aB2 : Int) : Option Bool :=
  (m_laws_szDatabase aDb0 1048576).bind fun r_1 => cond (decide (r_1 < 0)) (some true) ((m_laws_toDatabase aDb0).bind fun r_4 => (m_spec_MergeValues u r_4 aA1 aB2).bind fun r_6 => (m_laws_toDatabase aDb0).bind fun r_8 => (m_impl_MergeValues r_8 aA1 aB2).bind fun r_10 => ((m_laws_eqDatabase r_10.1 r_6.1).bind fun r_14 => cond (!r_14) (some true) (some (r_10.2 != r_6.2))).bind fun (t48_12 : Bool) => cond t48_12 (some false) ((m_laws_toDatabase aDb0).bind fun r_18 => (m_laws_eqDatabase r_8 r_18).bind fun r_20 => cond (!r_20) (some false) ((m_laws_markDatabase u r_8 1).bind fun r_23 => (cond (decide (r_23.1 < 0)) (some true) ((m_laws_eqDatabase r_10.1 r_6.1).bind fun r_31 => cond (!r_31) (some true) (some (r_10.2 != r_6.2)))).bind fun (t69_28 : Bool) => cond t69_28 (some false) ((m_laws_markDatabase u r_10.1 1).bind fun r_35 => (m_laws_heldDatabase u r_35.2 1).bind fun r_40 => cond (decide (r_40 < 0)) (some false) (cond (decide (r_40 ≠ r_35.1)) (some false) ((m_laws_toDatabase aDb0).bind fun r_44 => (m_impl_MergeValues r_44 aA1 aB2).bind fun r_46 => ((m_laws_eqDatabase r_46.1 r_6.1).bind fun r_50 => cond (!r_50) (some true) (some (r_46.2 != r_6.2))).bind fun (t97_48 : Bool) => cond t97_48 (some false) ((m_laws_heldDatabase u r_35.2 1).bind fun r_54 => cond (decide (r_54 < 0)) (some false) (cond (decide (r_54 ≠ r_35.1)) (some false) (some true)))))))))
end Go.Proofs.Ytmecnecfkgneoaa

import Derived.Test.YtmecnecfkgneoaaCRE
set_option linter.unusedVariables false
set_option maxRecDepth 4000
namespace Go.Proofs.Ytmecnecfkgneoaa
open Go Go.Proofs Go.Sep
structure ConflictEdge where
  a : Int
  b : Int
instance : Inhabited ConflictEdge := ⟨⟨default, default⟩⟩
instance : DecidableEq ConflictEdge := fun a b => decidable_of_iff (a.a = b.a ∧ a.b = b.b) (by cases a; cases b; simp)
def RdConflictEdge (x : ConflictEdge) : Prop := (-9223372036854775808 ≤ x.a ∧ x.a ≤ 9223372036854775807) ∧ (-9223372036854775808 ≤ x.b ∧ x.b ≤ 9223372036854775807)
def tConflictEdge : Ty ConflictEdge := tAs (fun x => (x.a, x.b)) (tP tInt tInt)
structure Relation where
  name : ByteArray
  arity : Int
  keyLength : Int
instance : Inhabited Relation := ⟨⟨default, default, default⟩⟩
instance : DecidableEq Relation := fun a b => decidable_of_iff (a.name = b.name ∧ a.arity = b.arity ∧ a.keyLength = b.keyLength) (by cases a; cases b; simp)
def RdRelation (x : Relation) : Prop := x.name.size ≤ 9223372036854775807 ∧ ((-9223372036854775808 ≤ x.arity ∧ x.arity ≤ 9223372036854775807) ∧ (-9223372036854775808 ≤ x.keyLength ∧ x.keyLength ≤ 9223372036854775807))
def tRelation : Ty Relation := tAs (fun x => (x.name, (x.arity, x.keyLength))) (tP tStr (tP tInt tInt))
structure Fact where
  relation : Int
  values : (List Int)
instance : Inhabited Fact := ⟨⟨default, default⟩⟩
instance : DecidableEq Fact := fun a b => decidable_of_iff (a.relation = b.relation ∧ a.values = b.values) (by cases a; cases b; simp)
def RdFact (x : Fact) : Prop := (-9223372036854775808 ≤ x.relation ∧ x.relation ≤ 9223372036854775807) ∧ (x.values.length ≤ 9223372036854775807 ∧ ∀ yues ∈ x.values, (-9223372036854775808 ≤ yues ∧ yues ≤ 9223372036854775807))
def tFact : Ty Fact := tAs (fun x => (x.relation, x.values)) (tP tInt (tSl tInt))
structure Database where
  relations : (List Relation)
  facts : (List Fact)
instance : Inhabited Database := ⟨⟨default, default⟩⟩
instance : DecidableEq Database := fun a b => decidable_of_iff (a.relations = b.relations ∧ a.facts = b.facts) (by cases a; cases b; simp)
def RdDatabase (x : Database) : Prop := (x.relations.length ≤ 9223372036854775807 ∧ ∀ yons ∈ x.relations, RdRelation yons) ∧ (x.facts.length ≤ 9223372036854775807 ∧ ∀ ycts ∈ x.facts, RdFact ycts)
def tDatabase : Ty Database := tAs (fun x => (x.relations, x.facts)) (tP (tSl tRelation) (tSl tFact))
def m_laws_szConflictEdgeS (a0 : (List ConflictEdge)) (left1 : Int) : Option Int :=
  cond (decide ((w64 (left1 - (a0.length : Int))) < 0)) (some (-1)) (some (w64 (left1 - (a0.length : Int))))
def m_spec_l1In (x0 : Int) (low1 : Int) (high2 : Int) : Option Bool :=
  some ((decide (low1 ≤ x0)) && (decide (x0 ≤ high2)))
def m_spec_AreValidEdges (n0 : Int) (l1 : (List ConflictEdge)) : Option Bool :=
  (forL (R := Bool) (fun (i_1 : Int) (x_i_1 : ConflictEdge) (_ : Unit) => ((m_spec_l1In x_i_1.a 0 (w64 (x_i_1.b - 1))).bind fun r_5 => cond (!r_5) (some true) ((m_spec_l1In x_i_1.b 0 (w64 (n0 - 1))).bind fun r_8 => cond (!r_8) (some true) (cond (decide (0 < (i_1 : Int))) ((getI l1 ((i_1 : Int) - 1)).bind fun v_12 => cond (decide (x_i_1.a < v_12.a)) (some true) (cond (decide (x_i_1.a = v_12.a)) (some (decide (x_i_1.b ≤ v_12.b))) (some false))) (some false)))).bind fun (t81_3 : Bool) => cond t81_3 (some (.ret false)) (some (.next ()))) l1 0 ()).bind fun O2_ => onS O2_ (fun (_ : Unit) => (m_spec_l1In n0 0 14).bind fun r_20 => some r_20) (fun r => some r)
def m_spec_l28Edge (l0 : (List ConflictEdge)) (a1 : Int) (b2 : Int) : Option Bool :=
  (forL (R := Bool) (fun (i_1 : Int) (x_i_1 : ConflictEdge) (_ : Unit) => cond ((decide (x_i_1.a = (if b2 < a1 then b2 else a1))) && (decide (x_i_1.b = (if a1 < b2 then b2 else a1)))) (some (.ret true)) (some (.next ()))) l0 0 ()).bind fun O2_ => onS O2_ (fun (_ : Unit) => some false) (fun r => some r)
def m_spec_IsValidPreference (n0 : Int) (l1 : (List ConflictEdge)) (p2 : (List ConflictEdge)) : Option Bool :=
  (m_spec_AreValidEdges n0 l1).bind fun r_1 => cond (!r_1) (some false) ((forL (R := Bool) (fun (i_4 : Int) (x_i_4 : ConflictEdge) (_ : Unit) => (cond (decide (x_i_4.a = x_i_4.b)) (some true) ((m_spec_l28Edge l1 x_i_4.a x_i_4.b).bind fun r_9 => some (!r_9))).bind fun (t49_6 : Bool) => cond t49_6 (some (.ret false)) (some (.next ()))) p2 0 ()).bind fun O5_ => onS O5_ (fun (_ : Unit) => (mk 1 n0 false).bind fun us_12 => (gN n0).bind fun _ => (forM (fun (k_14 : Int) (gone8 : (List Bool)) => (gN n0).bind fun _ => (forM (fun (x_17 : Int) (gone8 : (List Bool)) => (forS (fun (i_20 : Int) (x_i_20 : ConflictEdge) (free11 : Bool) => cond free11 (cond (decide (x_i_20.b ≠ (x_17 : Int))) (some true) ((getI gone8 x_i_20.a).bind fun v_24 => some v_24)) (some false)) p2 0 true).bind fun (free11 : Bool) => cond free11 ((getI gone8 (x_17 : Int)).bind fun v_30 => some (gone8.set ((x_17 : Int)).toNat true)) (some gone8)) (n0 - 0).toNat 0 gone8).bind fun (gone8 : (List Bool)) => some gone8) (n0 - 0).toNat 0 us_12).bind fun (gone8 : (List Bool)) => (gN n0).bind fun _ => (forN (R := Bool) (fun (x_35 : Int) (_ : Unit) => (getI gone8 (x_35 : Int)).bind fun v_38 => cond (!v_38) (some (.ret false)) (some (.next ()))) (n0 - 0).toNat 0 ()).bind fun O36_ => onS O36_ (fun (_ : Unit) => some true) (fun r => some r)) (fun r => some r))
def m_spec_l3Ints (u : Nat) (a0 : (List Int)) (b1 : (List Int)) : Option Int :=
  (whileF (R := Int) (fun (i5 : Int) => cond ((decide (i5 < (a0.length : Int))) && (decide (i5 < (b1.length : Int)))) ((getI a0 i5).bind fun v_6 => (getI b1 i5).bind fun v_11 => cond (decide (v_6 < v_11)) (some (.ret (-1))) (cond (decide (v_11 < v_6)) (some (.ret 1)) (some (.next (w64 (i5 + 1)))))) (some (.brk i5))) u 0).bind fun O1_ => onS O1_ (fun (i5 : Int) => cond (decide ((a0.length : Int) < (b1.length : Int))) (some (-1)) (cond (decide ((b1.length : Int) < (a0.length : Int))) (some 1) (some 0))) (fun r => some r)
def m_spec_l7Sorted (u : Nat) (l0 : (List Int)) : Option (List Int) :=
  (forS (fun (i_1 : Int) (x_i_1 : Int) (out3 : (List Int)) => (whileF (R := (List Int)) (fun (k5 : Int) => (cond (decide (0 < k5)) ((getI out3 (w64 (k5 - 1))).bind fun v_7 => some (decide (x_i_1 < v_7))) (some false)).bind fun (t28_4 : Bool) => cond t28_4 (some (.next (w64 (k5 - 1)))) (some (.brk k5))) u (out3.length : Int)).bind fun O3_ => onS O3_ (fun (k5 : Int) => (cutI out3 0 k5).bind fun ys_13 => (app 8 ([] : (List Int)) ys_13).bind fun us_22 => (app 8 us_22 ([x_i_1] : (List Int))).bind fun us_24 => (cutI out3 k5 (out3.length : Int)).bind fun ys_26 => (app 8 us_24 ys_26).bind fun us_35 => some us_35) (fun r => none)) l0 0 ([] : (List Int))).bind fun (out3 : (List Int)) => some out3
def m_spec_l8Set (n0 : Int) (s1 : (List Int)) : Option Bool :=
  (forL (R := Bool) (fun (i_1 : Int) (x_i_1 : Int) (_ : Unit) => ((m_spec_l1In x_i_1 0 (w64 (n0 - 1))).bind fun r_5 => cond (!r_5) (some true) (cond (decide (0 < (i_1 : Int))) ((getI s1 ((i_1 : Int) - 1)).bind fun v_9 => some (decide (x_i_1 ≤ v_9))) (some false))).bind fun (t35_3 : Bool) => cond t35_3 (some (.ret false)) (some (.next ()))) s1 0 ()).bind fun O2_ => onS O2_ (fun (_ : Unit) => some true) (fun r => some r)
def m_spec_IsPreferred (p0 : (List ConflictEdge)) (a1 : Int) (b2 : Int) : Option Bool :=
  (forL (R := Bool) (fun (i_1 : Int) (x_i_1 : ConflictEdge) (_ : Unit) => cond ((decide (x_i_1.a = a1)) && (decide (x_i_1.b = b2))) (some (.ret true)) (some (.next ()))) p0 0 ()).bind fun O2_ => onS O2_ (fun (_ : Unit) => some false) (fun r => some r)
def m_spec_UndominatedFacts (n0 : Int) (l1 : (List ConflictEdge)) (p2 : (List ConflictEdge)) (left3 : (List Int)) : Option (List Int) :=
  ((m_spec_IsValidPreference n0 l1 p2).bind fun r_3 => cond (!r_3) (some true) ((m_spec_l8Set n0 left3).bind fun r_6 => some (!r_6))).bind fun (t24_1 : Bool) => cond t24_1 (some ([] : (List Int))) ((forS (fun (i_9 : Int) (x_i_9 : Int) (out9 : (List Int)) => (forS (fun (k_11 : Int) (x_k_11 : Int) (top11 : Bool) => cond top11 ((m_spec_IsPreferred p2 x_k_11 x_i_9).bind fun r_14 => some (!r_14)) (some false)) left3 0 true).bind fun (top11 : Bool) => cond top11 ((app 8 out9 ([x_i_9] : (List Int))).bind fun us_17 => some us_17) (some out9)) left3 0 ([] : (List Int))).bind fun (out9 : (List Int)) => some out9)
def m_spec_l28Rest (l0 : (List ConflictEdge)) (left1 : (List Int)) (x2 : Int) : Option (List Int) :=
  (forS (fun (i_1 : Int) (x_i_1 : Int) (out7 : (List Int)) => (cond (decide (x_i_1 ≠ x2)) ((m_spec_l28Edge l0 x_i_1 x2).bind fun r_6 => some (!r_6)) (some false)).bind fun (t31_3 : Bool) => cond t31_3 ((app 8 out7 ([x_i_1] : (List Int))).bind fun us_9 => some us_9) (some out7)) left1 0 ([] : (List Int))).bind fun (out7 : (List Int)) => some out7
def m_spec_l28Walk : (u : Nat) → (Int) → ((List ConflictEdge)) → ((List ConflictEdge)) → ((List Int)) → ((List Int)) → ((List (List Int))) → Option (List (List Int))
  | 0, _, _, _, _, _, _ => none
  | u + 1, n0, l1, p2, left3, s4, known5 =>
    cond (decide ((left3.length : Int) = 0)) ((m_spec_l7Sorted u s4).bind fun r_2 => (forL (R := (List (List Int))) (fun (i_4 : Int) (x_i_4 : (List Int)) (_ : Unit) => (m_spec_l3Ints u x_i_4 r_2).bind fun r_6 => cond (decide (r_6 = 0)) (some (.ret known5)) (some (.next ()))) known5 0 ()).bind fun O5_ => onS O5_ (fun (_ : Unit) => (app 24 known5 ([r_2] : (List (List Int)))).bind fun us_9 => some us_9) (fun r => some r)) ((m_spec_UndominatedFacts n0 l1 p2 left3).bind fun r_11 => (forS (fun (i_13 : Int) (x_i_13 : Int) (known5 : (List (List Int))) => (m_spec_l28Rest l1 left3 x_i_13).bind fun r_15 => (app 8 ([] : (List Int)) s4).bind fun us_17 => (app 8 us_17 ([x_i_13] : (List Int))).bind fun us_19 => (m_spec_l28Walk u n0 l1 p2 r_15 us_19 known5).bind fun r_21 => some r_21) r_11 0 known5).bind fun (known5 : (List (List Int))) => some known5)
def m_spec_l28All (u : Nat) (n0 : Int) : Option (List Int) :=
  (whileF (R := (List Int)) (fun (l3 : (List Int)) => cond (decide ((l3.length : Int) < n0)) ((app 8 l3 ([(l3.length : Int)] : (List Int))).bind fun us_3 => some (.next us_3)) (some (.brk l3))) u ([] : (List Int))).bind fun O1_ => onS O1_ (fun (l3 : (List Int)) => some l3) (fun r => none)
def m_spec_GreedyRepairs (u : Nat) (n0 : Int) (l1 : (List ConflictEdge)) (p2 : (List ConflictEdge)) : Option (List (List Int)) :=
  ((m_spec_IsValidPreference n0 l1 p2).bind fun r_3 => cond (!r_3) (some true) (some (decide (7 < n0)))).bind fun (t21_1 : Bool) => cond t21_1 (some ([] : (List (List Int)))) ((m_spec_l28All u n0).bind fun r_7 => (m_spec_l28Walk u n0 l1 p2 r_7 ([] : (List Int)) ([] : (List (List Int)))).bind fun r_9 => (forS (fun (i_11 : Int) (x_i_11 : (List Int)) (out7 : (List (List Int))) => (whileF (R := (List (List Int))) (fun (k10 : Int) => (cond (decide (k10 < (out7.length : Int))) ((getI out7 k10).bind fun v_17 => (m_spec_l3Ints u v_17 x_i_11).bind fun r_22 => some (decide (r_22 < 0))) (some false)).bind fun (t52_14 : Bool) => cond t52_14 (some (.next (w64 (k10 + 1)))) (some (.brk k10))) u 0).bind fun O13_ => onS O13_ (fun (k10 : Int) => (cutI out7 k10 (out7.length : Int)).bind fun ys_25 => (app 24 ([x_i_11] : (List (List Int))) ys_25).bind fun us_34 => (cutI out7 0 k10).bind fun ys_36 => (app 24 ([] : (List (List Int))) ys_36).bind fun us_45 => (app 24 us_45 us_34).bind fun us_47 => some us_47) (fun r => none)) r_9 0 ([] : (List (List Int)))).bind fun (out7 : (List (List Int))) => some out7)
def m_laws_toConflictEdge (a0 : ConflictEdge) : Option ConflictEdge :=
  some a0
def m_laws_toConflictEdgeS (a0 : (List ConflictEdge)) : Option (List ConflictEdge) :=
  (mk 16 (a0.length : Int) (default : ConflictEdge)).bind fun us_1 => (forS (fun (i_3 : Int) (x_i_3 : ConflictEdge) (out3 : (List ConflictEdge)) => (m_laws_toConflictEdge x_i_3).bind fun r_5 => (getI out3 (i_3 : Int)).bind fun v_7 => some (out3.set ((i_3 : Int)).toNat r_5)) a0 0 us_1).bind fun (out3 : (List ConflictEdge)) => some out3
def m_impl_within (n0 : Int) (low1 : Int) (high2 : Int) : Option Bool :=
  some ((decide (low1 ≤ n0)) && (decide (n0 ≤ high2)))
def m_impl_AreValidEdges (n0 : Int) (edges1 : (List ConflictEdge)) : Option Bool :=
  (m_impl_within n0 0 14).bind fun r_1 => cond (!r_1) (some false) ((forL (R := Bool) (fun (t_4 : Int) (x_t_4 : ConflictEdge) (_ : Unit) => (cond (decide (x_t_4.a < 0)) (some true) (cond (decide (x_t_4.b ≤ x_t_4.a)) (some true) (cond (decide (n0 ≤ x_t_4.b)) (some true) (cond (decide (0 < (t_4 : Int))) ((getI edges1 ((t_4 : Int) - 1)).bind fun v_12 => cond (decide (x_t_4.a < v_12.a)) (some true) (cond (decide (v_12.a = x_t_4.a)) (some (decide (x_t_4.b ≤ v_12.b))) (some false))) (some false))))).bind fun (t69_6 : Bool) => cond t69_6 (some (.ret false)) (some (.next ()))) edges1 0 ()).bind fun O5_ => onS O5_ (fun (_ : Unit) => some true) (fun r => some r))
def m_slices_Index_Simpl_ConflictEdge_impl_ConflictEdge (s0 : (List ConflictEdge)) (v1 : ConflictEdge) : Option Int :=
  (forL (R := Int) (fun (t_1 : Int) (x_t_1 : ConflictEdge) (_ : Unit) => cond (decide ((v1.a, v1.b) = (x_t_1.a, x_t_1.b))) (some (.ret (t_1 : Int))) (some (.next ()))) s0 0 ()).bind fun O2_ => onS O2_ (fun (_ : Unit) => some (-1)) (fun r => some r)
def m_slices_Contains_Simpl_ConflictEdge_impl_ConflictEdge (s0 : (List ConflictEdge)) (v1 : ConflictEdge) : Option Bool :=
  (m_slices_Index_Simpl_ConflictEdge_impl_ConflictEdge s0 v1).bind fun r_1 => some (decide (0 ≤ r_1))
def m_slices_IndexFunc_Sint_int (s0 : (List Int)) (f1 : (Int → Option Bool)) : Option Int :=
  (forL (R := Int) (fun (t_1 : Int) (x_t_1 : Int) (_ : Unit) => (f1 x_t_1).bind fun r_3 => cond r_3 (some (.ret (t_1 : Int))) (some (.next ()))) s0 0 ()).bind fun O2_ => onS O2_ (fun (_ : Unit) => some (-1)) (fun r => some r)
def m_slices_ContainsFunc_Sint_int (s0 : (List Int)) (f1 : (Int → Option Bool)) : Option Bool :=
  (m_slices_IndexFunc_Sint_int s0 f1).bind fun r_1 => some (decide (0 ≤ r_1))
def m_impl_IsPreferred (preferences0 : (List ConflictEdge)) (a1 : Int) (b2 : Int) : Option Bool :=
  (m_slices_Contains_Simpl_ConflictEdge_impl_ConflictEdge preferences0 ({ a := a1, b := b2 } : ConflictEdge)).bind fun r_1 => some r_1
def m_impl_undominated_1 (a0 : Int) (fv1 : (List ConflictEdge)) (fv2 : Int) : Option Bool :=
  (m_impl_IsPreferred fv1 a0 fv2).bind fun r_1 => some r_1
def m_impl_undominated (preferences0 : (List ConflictEdge)) (left1 : (List Int)) : Option (List Int) :=
  (forS (fun (t_1 : Int) (x_t_1 : Int) (out5 : (List Int)) => (m_slices_ContainsFunc_Sint_int left1 (fun x0 => m_impl_undominated_1 x0 preferences0 x_t_1)).bind fun r_3 => cond (!r_3) ((app 8 out5 ([x_t_1] : (List Int))).bind fun us_6 => some us_6) (some out5)) left1 0 ([] : (List Int))).bind fun (out5 : (List Int)) => some out5
def m_slices_Index_Sint_int (s0 : (List Int)) (v1 : Int) : Option Int :=
  (forL (R := Int) (fun (t_1 : Int) (x_t_1 : Int) (_ : Unit) => cond (decide (v1 = x_t_1)) (some (.ret (t_1 : Int))) (some (.next ()))) s0 0 ()).bind fun O2_ => onS O2_ (fun (_ : Unit) => some (-1)) (fun r => some r)
def m_slices_Contains_Sint_int (s0 : (List Int)) (v1 : Int) : Option Bool :=
  (m_slices_Index_Sint_int s0 v1).bind fun r_1 => some (decide (0 ≤ r_1))
def m_impl_without (a0 : (List Int)) (b1 : (List Int)) : Option (List Int) :=
  (forS (fun (t_1 : Int) (x_t_1 : Int) (out5 : (List Int)) => (m_slices_Contains_Sint_int b1 x_t_1).bind fun r_3 => cond (!r_3) ((app 8 out5 ([x_t_1] : (List Int))).bind fun us_6 => some us_6) (some out5)) a0 0 ([] : (List Int))).bind fun (out5 : (List Int)) => some out5
def m_impl_areAcyclic (u : Nat) (n0 : Int) (preferences1 : (List ConflictEdge)) : Option Bool :=
  (gN n0).bind fun _ => (forM (fun (t_1 : Int) (left5 : (List Int)) => (app 8 left5 ([(t_1 : Int)] : (List Int))).bind fun us_4 => some us_4) (n0 - 0).toNat 0 ([] : (List Int))).bind fun (left5 : (List Int)) => (whileF (R := Bool) (fun (left5 : (List Int)) => cond (decide (0 < (left5.length : Int))) ((m_impl_undominated preferences1 left5).bind fun r_8 => (m_impl_without left5 r_8).bind fun r_10 => cond (decide ((r_10.length : Int) = (left5.length : Int))) (some (.ret false)) (some (.next r_10))) (some (.brk left5))) u left5).bind fun O6_ => onS O6_ (fun (left5 : (List Int)) => some true) (fun r => some r)
def m_impl_IsValidPreference (u : Nat) (n0 : Int) (edges1 : (List ConflictEdge)) (preferences2 : (List ConflictEdge)) : Option Bool :=
  (m_impl_AreValidEdges n0 edges1).bind fun r_1 => cond (!r_1) (some false) ((forL (R := Bool) (fun (t_4 : Int) (x_t_4 : ConflictEdge) (_ : Unit) => ((m_slices_Contains_Simpl_ConflictEdge_impl_ConflictEdge edges1 x_t_4).bind fun r_8 => cond (!r_8) ((m_slices_Contains_Simpl_ConflictEdge_impl_ConflictEdge edges1 ({ a := x_t_4.b, b := x_t_4.a } : ConflictEdge)).bind fun r_11 => some (!r_11)) (some false)).bind fun (t32_6 : Bool) => cond t32_6 (some (.ret false)) (some (.next ()))) preferences2 0 ()).bind fun O5_ => onS O5_ (fun (_ : Unit) => (m_impl_areAcyclic u n0 preferences2).bind fun r_14 => some r_14) (fun r => some r))
def m_slices_Grow_Sint_int_n0 (n1 : Int) : Option (List Int) :=
  cond (decide (n1 < 0)) (none) (cond (decide (0 < (w64 (n1 - (w64 (((0 : Nat) : Int) - ((0 : Nat) : Int))))))) ((apz 8 (w64 (n1 - (w64 (((0 : Nat) : Int) - ((0 : Nat) : Int))))) (0 : Int)).bind fun us_3 => (cutI us_3 0 ((0 : Nat) : Int)).bind fun ys_5 => some ys_5) (some ([] : (List Int))))
def m_slices_Concat_Sint_int (slices0 : (List (List Int))) : Option (List Int) :=
  (forS (fun (t_1 : Int) (x_t_1 : (List Int)) (size3 : Int) => cond (decide ((w64 (size3 + (x_t_1.length : Int))) < 0)) (none) (some (w64 (size3 + (x_t_1.length : Int))))) slices0 0 0).bind fun (size3 : Int) => (m_slices_Grow_Sint_int_n0 size3).bind fun r_4 => (forS (fun (t_6 : Int) (x_t_6 : (List Int)) (newslice6 : (List Int)) => (app 8 newslice6 x_t_6).bind fun us_8 => some us_8) slices0 0 r_4).bind fun (newslice6 : (List Int)) => some newslice6
def m_slices_Sort_Sint_int (s0 : List Int) : Option (Unit × List Int) := if s0.length < 4611686018427387904 then some ((), s0.mergeSort fun x y => decide (x ≤ y)) else none
def m_slices_Compact_Sint_int (s0 : List Int) : Option (List Int) := if s0.length < 4611686018427387904 then some (comp1 s0) else none
def m_impl_union (a0 : (List Int)) (b1 : (List Int)) : Option (List Int) :=
  (m_slices_Concat_Sint_int ([a0, b1] : (List (List Int)))).bind fun r_1 => (m_slices_Sort_Sint_int r_1).bind fun r_3 => (m_slices_Compact_Sint_int r_3.2).bind fun r_7 => some r_7
def m_impl_inConflict (edges0 : (List ConflictEdge)) (a1 : Int) (b2 : Int) : Option Bool :=
  ((m_slices_Contains_Simpl_ConflictEdge_impl_ConflictEdge edges0 ({ a := a1, b := b2 } : ConflictEdge)).bind fun r_3 => cond r_3 (some true) ((m_slices_Contains_Simpl_ConflictEdge_impl_ConflictEdge edges0 ({ a := b2, b := a1 } : ConflictEdge)).bind fun r_6 => some r_6)).bind fun (t6_1 : Bool) => some t6_1
def m_impl_selected (edges0 : (List ConflictEdge)) (left1 : (List Int)) (v2 : Int) : Option (List Int) :=
  (forS (fun (t_1 : Int) (x_t_1 : Int) (out7 : (List Int)) => (cond (decide (x_t_1 ≠ v2)) ((m_impl_inConflict edges0 v2 x_t_1).bind fun r_6 => some (!r_6)) (some false)).bind fun (t26_3 : Bool) => cond t26_3 ((app 8 out7 ([x_t_1] : (List Int))).bind fun us_9 => some us_9) (some out7)) left1 0 ([] : (List Int))).bind fun (out7 : (List Int)) => some out7
def m_slices_Clone_Sint_int (s0 : (List Int)) : Option (List Int) :=
  (app 8 ([] : (List Int)) s0).bind fun us_4 => some us_4
def m_impl_greedy_1 : (u : Nat) → ((List Int)) → ((List Int)) → ((List (List Int))) → ((List ConflictEdge)) → ((List ConflictEdge)) → (Bool) → Option (List (List Int))
  | 0, _, _, _, _, _, _ => none
  | u + 1, left0, chosen1, fv2, fv3, fv5, fv6 =>
    cond (decide ((left0.length : Int) = 0)) ((m_impl_union chosen1 []).bind fun r_2 => (app 24 fv2 ([r_2] : (List (List Int)))).bind fun us_4 => some us_4) ((m_impl_undominated fv3 left0).bind fun r_6 => (forL (R := (List (List Int))) (fun (t_8 : Int) (x_t_8 : Int) (box0 : (List (List Int))) => (m_impl_selected fv5 left0 x_t_8).bind fun r_10 => (m_slices_Clone_Sint_int chosen1).bind fun r_12 => (app 8 r_12 ([x_t_8] : (List Int))).bind fun us_14 => (m_impl_greedy_1 u r_10 us_14 box0 fv3 fv5 fv6).bind fun r_16 => cond (!fv6) (some (.ret r_16)) (some (.next r_16))) r_6 0 fv2).bind fun O9_ => onS O9_ (fun (box0 : (List (List Int))) => some box0) (fun r => some r))

def m_cmp_isNaN_int (x0 : Int) : Option Bool :=
  some (decide (x0 ≠ x0))
def m_cmp_Compare_int (x0 : Int) (y1 : Int) : Option Int :=
  (m_cmp_isNaN_int x0).bind fun r_1 => (m_cmp_isNaN_int y1).bind fun r_3 => cond r_1 (cond r_3 (some 0) (some (-1))) (cond r_3 (some 1) (cond (decide (x0 < y1)) (some (-1)) (cond (decide (y1 < x0)) (some 1) (some 0))))
def m_slices_Compare_Sint_int (s10 : (List Int)) (s21 : (List Int)) : Option Int :=
  (forL (R := Int) (fun (t_1 : Int) (x_t_1 : Int) (_ : Unit) => cond (decide ((s21.length : Int) ≤ (t_1 : Int))) (some (.ret 1)) ((getI s21 (t_1 : Int)).bind fun v_4 => (m_cmp_Compare_int x_t_1 v_4).bind fun r_9 => cond (decide (r_9 ≠ 0)) (some (.ret r_9)) (some (.next ())))) s10 0 ()).bind fun O2_ => onS O2_ (fun (_ : Unit) => cond (decide ((s10.length : Int) < (s21.length : Int))) (some (-1)) (some 0)) (fun r => some r)

def m_slices_Equal_Sint_int (s10 : (List Int)) (s21 : (List Int)) : Option Bool :=
  cond (decide ((s10.length : Int) ≠ (s21.length : Int))) (some false) ((forL (R := Bool) (fun (t_2 : Int) (x_t_2 : Int) (_ : Unit) => (getI s21 (t_2 : Int)).bind fun v_4 => cond (decide (x_t_2 ≠ v_4)) (some (.ret false)) (some (.next ()))) s10 0 ()).bind fun O3_ => onS O3_ (fun (_ : Unit) => some true) (fun r => some r))
noncomputable def m_impl_greedy (u : Nat) (n0 : Int) (edges1 : (List ConflictEdge)) (preferences2 : (List ConflictEdge)) (any3 : Bool) : Option (List (List Int)) :=
  (gN n0).bind fun _ => (forM (fun (t_1 : Int) (left11 : (List Int)) => (app 8 left11 ([(t_1 : Int)] : (List Int))).bind fun us_4 => some us_4) (n0 - 0).toNat 0 ([] : (List Int))).bind fun (left11 : (List Int)) => (m_impl_greedy_1 u left11 [] ([] : (List (List Int))) preferences2 edges1 any3).bind fun r_6 => (sortM (fun x y => m_slices_Compare_Sint_int x y) r_6).bind fun so_8 => (compM (fun x y => m_slices_Equal_Sint_int x y) so_8).bind fun r_11 => some r_11
noncomputable def m_impl_GreedyRepairs (u : Nat) (n0 : Int) (edges1 : (List ConflictEdge)) (preferences2 : (List ConflictEdge)) : Option (List (List Int)) :=
  ((m_impl_IsValidPreference u n0 edges1 preferences2).bind fun r_3 => cond (!r_3) (some true) (some (decide (7 < n0)))).bind fun (t15_1 : Bool) => cond t15_1 (some ([] : (List (List Int)))) ((m_impl_greedy u n0 edges1 preferences2 true).bind fun r_7 => some r_7)
def m_laws_eqIntS (a0 : (List Int)) (b1 : (List Int)) : Option Bool :=
  cond (decide ((a0.length : Int) ≠ (b1.length : Int))) (some false) ((forL (R := Bool) (fun (i_2 : Int) (x_i_2 : Int) (_ : Unit) => (getI b1 (i_2 : Int)).bind fun v_4 => cond (decide (x_i_2 ≠ v_4)) (some (.ret false)) (some (.next ()))) a0 0 ()).bind fun O3_ => onS O3_ (fun (_ : Unit) => some true) (fun r => some r))
def m_laws_eqIntSS (a0 : (List (List Int))) (b1 : (List (List Int))) : Option Bool :=
  cond (decide ((a0.length : Int) ≠ (b1.length : Int))) (some false) ((forL (R := Bool) (fun (i_2 : Int) (x_i_2 : (List Int)) (_ : Unit) => (getI b1 (i_2 : Int)).bind fun v_4 => (m_laws_eqIntS x_i_2 v_4).bind fun r_9 => cond (!r_9) (some (.ret false)) (some (.next ()))) a0 0 ()).bind fun O3_ => onS O3_ (fun (_ : Unit) => some true) (fun r => some r))
def m_laws_eqConflictEdge (a0 : ConflictEdge) (b1 : ConflictEdge) : Option Bool :=
  cond (decide (a0.a ≠ b1.a)) (some false) (cond (decide (a0.b ≠ b1.b)) (some false) (some true))
def m_laws_eqConflictEdgeS (a0 : (List ConflictEdge)) (b1 : (List ConflictEdge)) : Option Bool :=
  cond (decide ((a0.length : Int) ≠ (b1.length : Int))) (some false) ((forL (R := Bool) (fun (i_2 : Int) (x_i_2 : ConflictEdge) (_ : Unit) => (getI b1 (i_2 : Int)).bind fun v_4 => (m_laws_eqConflictEdge x_i_2 v_4).bind fun r_9 => cond (!r_9) (some (.ret false)) (some (.next ()))) a0 0 ()).bind fun O3_ => onS O3_ (fun (_ : Unit) => some true) (fun r => some r))
def m_laws_markConflictEdgeS (a0 : (List ConflictEdge)) (k1 : Int) : Option (Int × (List ConflictEdge)) :=
  (forM (fun (i_1 : Int) (⟨a0m, k1⟩ : (List ConflictEdge) × Int) => (getI a0m (i_1 : Int)).bind fun v_3 => (getI (a0m.set ((i_1 : Int)).toNat ({ a := k1, b := v_3.b } : ConflictEdge)) (i_1 : Int)).bind fun v_8 => some (((a0m.set ((i_1 : Int)).toNat ({ a := k1, b := v_3.b } : ConflictEdge)).set ((i_1 : Int)).toNat ({ a := v_8.a, b := (w64 (k1 + 1)) } : ConflictEdge)), (w64 ((w64 (k1 + 1)) + 1)))) ((a0.length : Int) - 0).toNat 0 (a0, k1)).bind fun (⟨a0m, k1⟩ : (List ConflictEdge) × Int) => some (k1, a0m)
def m_laws_markIntS (a0 : (List Int)) (k1 : Int) : Option (Int × (List Int)) :=
  (forM (fun (i_1 : Int) (⟨a0m, k1⟩ : (List Int) × Int) => (getI a0m (i_1 : Int)).bind fun v_3 => some ((a0m.set ((i_1 : Int)).toNat k1), (w64 (k1 + 1)))) ((a0.length : Int) - 0).toNat 0 (a0, k1)).bind fun (⟨a0m, k1⟩ : (List Int) × Int) => some (k1, a0m)
def m_laws_markIntSS (a0 : (List (List Int))) (k1 : Int) : Option (Int × (List (List Int))) :=
  (forM (fun (i_1 : Int) (⟨a0m, k1⟩ : (List (List Int)) × Int) => (getI a0m (i_1 : Int)).bind fun v_3 => (m_laws_markIntS v_3 k1).bind fun r_8 => some ((a0m.set ((i_1 : Int)).toNat r_8.2), r_8.1)) ((a0.length : Int) - 0).toNat 0 (a0, k1)).bind fun (⟨a0m, k1⟩ : (List (List Int)) × Int) => some (k1, a0m)
def m_laws_heldIntS (a0 : (List Int)) (k1 : Int) : Option Int :=
  (forL (R := Int) (fun (i_1 : Int) (x_i_1 : Int) (k1 : Int) => cond (decide (x_i_1 ≠ k1)) (some (.ret (-1))) (some (.next (w64 (k1 + 1))))) a0 0 k1).bind fun O2_ => onS O2_ (fun (k1 : Int) => some k1) (fun r => some r)
def m_laws_heldIntSS (a0 : (List (List Int))) (k1 : Int) : Option Int :=
  (forL (R := Int) (fun (i_1 : Int) (x_i_1 : (List Int)) (k1 : Int) => (m_laws_heldIntS x_i_1 k1).bind fun r_3 => cond (decide (r_3 < 0)) (some (.ret (-1))) (some (.next r_3))) a0 0 k1).bind fun O2_ => onS O2_ (fun (k1 : Int) => some k1) (fun r => some r)
noncomputable def m_laws_FnExactGreedyRepairs (u : Nat) (aN0 : Int) (aEdges1 : (List ConflictEdge)) (aPreferences2 : (List ConflictEdge)) : Option Bool :=
  (m_laws_szConflictEdgeS aEdges1 1048576).bind fun r_1 => cond (decide (r_1 < 0)) (some true) ((m_laws_szConflictEdgeS aPreferences2 r_1).bind fun r_4 => cond (decide (r_4 < 0)) (some true) ((m_laws_toConflictEdgeS aEdges1).bind fun r_7 => (m_laws_toConflictEdgeS aPreferences2).bind fun r_9 => (m_spec_GreedyRepairs u aN0 r_7 r_9).bind fun r_11 => (m_laws_toConflictEdgeS aEdges1).bind fun r_13 => (m_laws_toConflictEdgeS aPreferences2).bind fun r_15 => (m_impl_GreedyRepairs u aN0 r_13 r_15).bind fun r_17 => (m_laws_eqIntSS r_17 r_11).bind fun r_19 => cond (!r_19) (some false) ((m_laws_toConflictEdgeS aEdges1).bind fun r_22 => (m_laws_eqConflictEdgeS r_13 r_22).bind fun r_24 => cond (!r_24) (some false) ((m_laws_toConflictEdgeS aPreferences2).bind fun r_27 => (m_laws_eqConflictEdgeS r_15 r_27).bind fun r_29 => cond (!r_29) (some false) ((m_laws_markConflictEdgeS r_13 1).bind fun r_32 => (m_laws_markConflictEdgeS r_15 r_32.1).bind fun r_36 => (cond (decide (r_36.1 < 0)) (some true) ((m_laws_eqIntSS r_17 r_11).bind fun r_43 => some (!r_43))).bind fun (t67_40 : Bool) => cond t67_40 (some false) ((m_laws_markIntSS r_17 1).bind fun r_46 => (m_laws_heldIntSS r_46.2 1).bind fun r_50 => cond (decide (r_50 < 0)) (some false) (cond (decide (r_50 ≠ r_46.1)) (some false) ((m_laws_toConflictEdgeS aEdges1).bind fun r_54 => (m_laws_toConflictEdgeS aPreferences2).bind fun r_56 => (m_impl_GreedyRepairs u aN0 r_54 r_56).bind fun r_58 => (m_laws_eqIntSS r_58 r_11).bind fun r_60 => cond (!r_60) (some false) ((m_laws_heldIntSS r_46.2 1).bind fun r_63 => cond (decide (r_63 < 0)) (some false) (cond (decide (r_63 ≠ r_46.1)) (some false) (some true)))))))))))
def m_laws_szRelation (a0 : Relation) (left1 : Int) : Option Int :=
  cond (decide ((w64 (left1 - (a0.name.size : Int))) < 0)) (some (-1)) (some (w64 (left1 - (a0.name.size : Int))))
def m_laws_szRelationS (a0 : (List Relation)) (left1 : Int) : Option Int :=
  cond (decide ((w64 (left1 - (a0.length : Int))) < 0)) (some (-1)) ((forL (R := Int) (fun (i_2 : Int) (x_i_2 : Relation) (left1 : Int) => (m_laws_szRelation x_i_2 left1).bind fun r_4 => cond (decide (r_4 < 0)) (some (.ret (-1))) (some (.next r_4))) a0 0 (w64 (left1 - (a0.length : Int)))).bind fun O3_ => onS O3_ (fun (left1 : Int) => some left1) (fun r => some r))
def m_laws_szIntS (a0 : (List Int)) (left1 : Int) : Option Int :=
  cond (decide ((w64 (left1 - (a0.length : Int))) < 0)) (some (-1)) (some (w64 (left1 - (a0.length : Int))))
def m_laws_szFact (a0 : Fact) (left1 : Int) : Option Int :=
  (m_laws_szIntS a0.values left1).bind fun r_1 => cond (decide (r_1 < 0)) (some (-1)) (some r_1)
def m_laws_szFactS (a0 : (List Fact)) (left1 : Int) : Option Int :=
  cond (decide ((w64 (left1 - (a0.length : Int))) < 0)) (some (-1)) ((forL (R := Int) (fun (i_2 : Int) (x_i_2 : Fact) (left1 : Int) => (m_laws_szFact x_i_2 left1).bind fun r_4 => cond (decide (r_4 < 0)) (some (.ret (-1))) (some (.next r_4))) a0 0 (w64 (left1 - (a0.length : Int)))).bind fun O3_ => onS O3_ (fun (left1 : Int) => some left1) (fun r => some r))
def m_laws_szDatabase (a0 : Database) (left1 : Int) : Option Int :=
  (m_laws_szRelationS a0.relations left1).bind fun r_1 => cond (decide (r_1 < 0)) (some (-1)) ((m_laws_szFactS a0.facts r_1).bind fun r_4 => cond (decide (r_4 < 0)) (some (-1)) (some r_4))
def m_spec_CompareFacts (u : Nat) (a0 : Fact) (b1 : Fact) : Option Int :=
  cond (decide (a0.relation < b1.relation)) (some (-1)) (cond (decide (b1.relation < a0.relation)) (some 1) ((m_spec_l3Ints u a0.values b1.values).bind fun r_3 => some r_3))
def m_spec_IsValidRelation (s0 : Relation) : Option Bool :=
  (cond (decide ((s0.name.size : Int) = 1)) ((getB s0.name 0).bind fun b_4 => cond (decide (97 ≤ b_4)) ((getB s0.name 0).bind fun b_7 => cond (decide (b_7 ≤ 122)) ((m_spec_l1In s0.arity 1 3).bind fun r_10 => cond r_10 ((m_spec_l1In s0.keyLength 0 s0.arity).bind fun r_13 => some r_13) (some false)) (some false)) (some false)) (some false)).bind fun (t2_1 : Bool) => some t2_1
def m_spec_AreValidRelations (l0 : (List Relation)) : Option Bool :=
  (forL (R := Bool) (fun (i_1 : Int) (x_i_1 : Relation) (_ : Unit) => ((m_spec_IsValidRelation x_i_1).bind fun r_5 => cond (!r_5) (some true) (cond (decide (0 < (i_1 : Int))) ((getI l0 ((i_1 : Int) - 1)).bind fun v_9 => some (!ltS v_9.name x_i_1.name)) (some false))).bind fun (t33_3 : Bool) => cond t33_3 (some (.ret false)) (some (.next ()))) l0 0 ()).bind fun O2_ => onS O2_ (fun (_ : Unit) => some (decide ((l0.length : Int) ≤ 4))) (fun r => some r)
def m_spec_IsValidFact (u : Nat) (l0 : (List Relation)) (f1 : Fact) : Option Bool :=
  ((m_spec_AreValidRelations l0).bind fun r_3 => cond (!r_3) (some true) ((m_spec_l1In f1.relation 0 ((l0.length : Int) - 1)).bind fun r_7 => cond (!r_7) (some true) ((getI l0 f1.relation).bind fun v_10 => some (decide ((f1.values.length : Int) ≠ v_10.arity))))).bind fun (t29_1 : Bool) => cond t29_1 (some false) ((whileF (R := Bool) (fun (i5 : Int) => cond (decide (i5 < (f1.values.length : Int))) ((getI f1.values i5).bind fun v_18 => (m_spec_l1In v_18 0 9).bind fun r_23 => cond (!r_23) (some (.ret false)) (some (.next (w64 (i5 + 1))))) (some (.brk i5))) u 0).bind fun O16_ => onS O16_ (fun (i5 : Int) => some true) (fun r => some r))
def m_spec_IsValidDatabase (u : Nat) (d0 : Database) : Option Bool :=
  (whileF (R := Bool) (fun (i3 : Int) => cond (decide (i3 < (d0.facts.length : Int))) (((getI d0.facts i3).bind fun v_5 => (m_spec_IsValidFact u d0.relations v_5).bind fun r_10 => cond (!r_10) (some true) (cond (decide (0 < i3)) ((getI d0.facts (w64 (i3 - 1))).bind fun v_14 => (m_spec_CompareFacts u v_14 v_5).bind fun r_19 => some (decide (0 ≤ r_19))) (some false))).bind fun (t38_3 : Bool) => cond t38_3 (some (.ret false)) (some (.next (w64 (i3 + 1))))) (some (.brk i3))) u 0).bind fun O1_ => onS O1_ (fun (i3 : Int) => ((m_spec_AreValidRelations d0.relations).bind fun r_24 => cond r_24 (some (decide ((d0.facts.length : Int) ≤ 14))) (some false)).bind fun (t2_22 : Bool) => some t2_22) (fun r => some r)
def m_laws_toRelation (a0 : Relation) : Option Relation :=
  some a0
def m_laws_toRelationS (a0 : (List Relation)) : Option (List Relation) :=
  (mk 32 (a0.length : Int) (default : Relation)).bind fun us_1 => (forS (fun (i_3 : Int) (x_i_3 : Relation) (out3 : (List Relation)) => (m_laws_toRelation x_i_3).bind fun r_5 => (getI out3 (i_3 : Int)).bind fun v_7 => some (out3.set ((i_3 : Int)).toNat r_5)) a0 0 us_1).bind fun (out3 : (List Relation)) => some out3
def m_laws_toIntS (a0 : (List Int)) : Option (List Int) :=
  (mk 8 (a0.length : Int) (0 : Int)).bind fun us_1 => (forS (fun (i_3 : Int) (x_i_3 : Int) (out3 : (List Int)) => (getI out3 (i_3 : Int)).bind fun v_5 => some (out3.set ((i_3 : Int)).toNat x_i_3)) a0 0 us_1).bind fun (out3 : (List Int)) => some out3
def m_laws_toFact (a0 : Fact) : Option Fact :=
  (m_laws_toIntS a0.values).bind fun r_1 => some ({ relation := a0.relation, values := r_1 } : Fact)
def m_laws_toFactS (a0 : (List Fact)) : Option (List Fact) :=
  (mk 32 (a0.length : Int) (default : Fact)).bind fun us_1 => (forS (fun (i_3 : Int) (x_i_3 : Fact) (out3 : (List Fact)) => (m_laws_toFact x_i_3).bind fun r_5 => (getI out3 (i_3 : Int)).bind fun v_7 => some (out3.set ((i_3 : Int)).toNat r_5)) a0 0 us_1).bind fun (out3 : (List Fact)) => some out3
def m_laws_toDatabase (a0 : Database) : Option Database :=
  (m_laws_toRelationS a0.relations).bind fun r_1 => (m_laws_toFactS a0.facts).bind fun r_3 => some ({ relations := r_1, facts := r_3 } : Database)
def m_impl_compare (a0 : Int) (b1 : Int) : Option Int :=
  cond (decide (a0 < b1)) (some (-1)) (cond (decide (b1 < a0)) (some 1) (some 0))
def m_impl_CompareFacts (a0 : Fact) (b1 : Fact) : Option Int :=
  cond (decide (a0.relation ≠ b1.relation)) ((m_impl_compare a0.relation b1.relation).bind fun r_2 => some r_2) ((m_slices_Compare_Sint_int a0.values b1.values).bind fun r_4 => some r_4)
def m_impl_IsValidRelation (relation0 : Relation) : Option Bool :=
  (cond (decide ((relation0.name.size : Int) = 1)) ((getB relation0.name 0).bind fun b_4 => cond (decide (97 ≤ b_4)) ((getB relation0.name 0).bind fun b_7 => cond (decide (b_7 ≤ 122)) ((m_impl_within relation0.arity 1 3).bind fun r_10 => cond r_10 ((m_impl_within relation0.keyLength 0 relation0.arity).bind fun r_13 => some r_13) (some false)) (some false)) (some false)) (some false)).bind fun (t2_1 : Bool) => some t2_1
def m_impl_AreValidRelations (relations0 : (List Relation)) : Option Bool :=
  (forL (R := Bool) (fun (t_1 : Int) (x_t_1 : Relation) (_ : Unit) => ((m_impl_IsValidRelation x_t_1).bind fun r_5 => cond (!r_5) (some true) (cond (decide (0 < (t_1 : Int))) ((getI relations0 ((t_1 : Int) - 1)).bind fun v_9 => some (!ltS v_9.name x_t_1.name)) (some false))).bind fun (t29_3 : Bool) => cond t29_3 (some (.ret false)) (some (.next ()))) relations0 0 ()).bind fun O2_ => onS O2_ (fun (_ : Unit) => some (decide ((relations0.length : Int) ≤ 4))) (fun r => some r)
def m_impl_areValues_1 (v0 : Int) : Option Bool :=
  (m_impl_within v0 0 9).bind fun r_1 => some (!r_1)
def m_impl_areValues (list0 : (List Int)) : Option Bool :=
  (m_slices_ContainsFunc_Sint_int list0 (fun x0 => m_impl_areValues_1 x0)).bind fun r_1 => some (!r_1)
def m_impl_isFact (relations0 : (List Relation)) (fact1 : Fact) : Option Bool :=
  ((m_impl_within fact1.relation 0 ((relations0.length : Int) - 1)).bind fun r_4 => cond r_4 ((getI relations0 fact1.relation).bind fun v_7 => cond (decide ((fact1.values.length : Int) = v_7.arity)) ((m_impl_areValues fact1.values).bind fun r_13 => some r_13) (some false)) (some false)).bind fun (t4_1 : Bool) => some t4_1
def m_impl_IsValidDatabase (db0 : Database) : Option Bool :=
  ((m_impl_AreValidRelations db0.relations).bind fun r_3 => cond (!r_3) (some true) (some (decide (14 < (db0.facts.length : Int))))).bind fun (t14_1 : Bool) => cond t14_1 (some false) ((forL (R := Bool) (fun (t_7 : Int) (x_t_7 : Fact) (_ : Unit) => ((m_impl_isFact db0.relations x_t_7).bind fun r_11 => cond (!r_11) (some true) (cond (decide (0 < (t_7 : Int))) ((getI db0.facts ((t_7 : Int) - 1)).bind fun v_15 => (m_impl_CompareFacts v_15 x_t_7).bind fun r_20 => some (decide (0 ≤ r_20))) (some false))).bind fun (t42_9 : Bool) => cond t42_9 (some (.ret false)) (some (.next ()))) db0.facts 0 ()).bind fun O8_ => onS O8_ (fun (_ : Unit) => some true) (fun r => some r))
def m_laws_eqRelation (a0 : Relation) (b1 : Relation) : Option Bool :=
  cond (decide (a0.name ≠ b1.name)) (some false) (cond (decide (a0.arity ≠ b1.arity)) (some false) (cond (decide (a0.keyLength ≠ b1.keyLength)) (some false) (some true)))
def m_laws_eqRelationS (a0 : (List Relation)) (b1 : (List Relation)) : Option Bool :=
  cond (decide ((a0.length : Int) ≠ (b1.length : Int))) (some false) ((forL (R := Bool) (fun (i_2 : Int) (x_i_2 : Relation) (_ : Unit) => (getI b1 (i_2 : Int)).bind fun v_4 => (m_laws_eqRelation x_i_2 v_4).bind fun r_9 => cond (!r_9) (some (.ret false)) (some (.next ()))) a0 0 ()).bind fun O3_ => onS O3_ (fun (_ : Unit) => some true) (fun r => some r))
def m_laws_eqFact (a0 : Fact) (b1 : Fact) : Option Bool :=
  cond (decide (a0.relation ≠ b1.relation)) (some false) ((m_laws_eqIntS a0.values b1.values).bind fun r_2 => cond (!r_2) (some false) (some true))
def m_laws_eqFactS (a0 : (List Fact)) (b1 : (List Fact)) : Option Bool :=
  cond (decide ((a0.length : Int) ≠ (b1.length : Int))) (some false) ((forL (R := Bool) (fun (i_2 : Int) (x_i_2 : Fact) (_ : Unit) => (getI b1 (i_2 : Int)).bind fun v_4 => (m_laws_eqFact x_i_2 v_4).bind fun r_9 => cond (!r_9) (some (.ret false)) (some (.next ()))) a0 0 ()).bind fun O3_ => onS O3_ (fun (_ : Unit) => some true) (fun r => some r))
def m_laws_eqDatabase (a0 : Database) (b1 : Database) : Option Bool :=
  (m_laws_eqRelationS a0.relations b1.relations).bind fun r_1 => cond (!r_1) (some false) ((m_laws_eqFactS a0.facts b1.facts).bind fun r_4 => cond (!r_4) (some false) (some true))
def m_spec_EqualDatabases (u : Nat) (a0 : Database) (b1 : Database) : Option Bool :=
  cond ((decide ((a0.relations.length : Int) ≠ (b1.relations.length : Int))) || (decide ((a0.facts.length : Int) ≠ (b1.facts.length : Int)))) (some false) ((whileF (R := Bool) (fun (i5 : Int) => cond (decide (i5 < (a0.relations.length : Int))) ((getI a0.relations i5).bind fun v_7 => (getI b1.relations i5).bind fun v_12 => cond (!(cmpSc [.s v_7.name v_12.name, .i v_7.arity v_12.arity, .i v_7.keyLength v_12.keyLength])) (some (.ret false)) (some (.next (w64 (i5 + 1))))) (some (.brk i5))) u 0).bind fun O5_ => onS O5_ (fun (i5 : Int) => (whileF (R := Bool) (fun (i6 : Int) => cond (decide (i6 < (a0.facts.length : Int))) ((getI a0.facts i6).bind fun v_20 => (getI b1.facts i6).bind fun v_25 => (m_spec_CompareFacts u v_20 v_25).bind fun r_30 => cond (decide (r_30 ≠ 0)) (some (.ret false)) (some (.next (w64 (i6 + 1))))) (some (.brk i6))) u 0).bind fun O18_ => onS O18_ (fun (i6 : Int) => some true) (fun r => some r)) (fun r => some r))
end Go.Proofs.Ytmecnecfkgneoaa

/- The functions, as plain Lean. -/
import Derived.Test.YtglgcncmjnjfgaaCRC
set_option linter.unusedVariables false
set_option maxRecDepth 4000
namespace Go.Proofs.Ytglgcncmjnjfgaa
open Go Go.Proofs Go.Sep
structure ConflictEdge where
  a : Int
  b : Int
instance : Inhabited ConflictEdge := ⟨⟨default, default⟩⟩
instance : DecidableEq ConflictEdge := fun a b => decidable_of_iff (a.a = b.a ∧ a.b = b.b) (by cases a; cases b; simp)
def RdConflictEdge (x : ConflictEdge) : Prop := (-9223372036854775808 ≤ x.a ∧ x.a ≤ 9223372036854775807) ∧ (-9223372036854775808 ≤ x.b ∧ x.b ≤ 9223372036854775807)
def tConflictEdge : Ty ConflictEdge := tAs (fun x => (x.a, x.b)) (tP tInt tInt)
structure l1Cur where
  b : (List Int)
  i : Int
  h : Int
instance : Inhabited l1Cur := ⟨⟨default, default, default⟩⟩
instance : DecidableEq l1Cur := fun a b => decidable_of_iff (a.b = b.b ∧ a.i = b.i ∧ a.h = b.h) (by cases a; cases b; simp)
def Rdl1Cur (x : l1Cur) : Prop := (x.b.length ≤ 9223372036854775807 ∧ ∀ yxb ∈ x.b, (0 ≤ yxb ∧ yxb ≤ 255)) ∧ ((-9223372036854775808 ≤ x.i ∧ x.i ≤ 9223372036854775807) ∧ (-9223372036854775808 ≤ x.h ∧ x.h ≤ 9223372036854775807))
def tl1Cur : Ty l1Cur := tAs (fun x => (x.b, (x.i, x.h))) (tP (tSl (tI .u8)) (tP tInt tInt))
/-- spec.IsPreferred -/
def m_spec_IsPreferred (p0 : (List ConflictEdge)) (a1 : Int) (b2 : Int) : Option Bool :=
  (forL (R := Bool) (fun (i_1 : Int) (x_i_1 : ConflictEdge) (_ : Unit) => cond ((decide (x_i_1.a = a1)) && (decide (x_i_1.b = b2))) (some (.ret true)) (some (.next ()))) p0 0 ()).bind fun O2_ => onS O2_ (fun (_ : Unit) => some false) (fun r => some r)
/-- impl.ConflictEdge] -/
def m_slices_Index_Simpl_ConflictEdge_impl_ConflictEdge (s0 : (List ConflictEdge)) (v1 : ConflictEdge) : Option Int :=
  (forL (R := Int) (fun (t_1 : Int) (x_t_1 : ConflictEdge) (_ : Unit) => cond (decide ((v1.a, v1.b) = (x_t_1.a, x_t_1.b))) (some (.ret (t_1 : Int))) (some (.next ()))) s0 0 ()).bind fun O2_ => onS O2_ (fun (_ : Unit) => some (-1)) (fun r => some r)
/-- impl.ConflictEdge] -/
def m_slices_Contains_Simpl_ConflictEdge_impl_ConflictEdge (s0 : (List ConflictEdge)) (v1 : ConflictEdge) : Option Bool :=
  (m_slices_Index_Simpl_ConflictEdge_impl_ConflictEdge s0 v1).bind fun r_1 => some (decide (0 ≤ r_1))
/-- impl.IsPreferred -/
def m_impl_IsPreferred (preferences0 : (List ConflictEdge)) (a1 : Int) (b2 : Int) : Option Bool :=
  (m_slices_Contains_Simpl_ConflictEdge_impl_ConflictEdge preferences0 ({ a := a1, b := b2 } : ConflictEdge)).bind fun r_1 => some r_1
/-- spec.l1In -/
def m_spec_l1In (x0 : Int) (low1 : Int) (high2 : Int) : Option Bool :=
  some ((decide (low1 ≤ x0)) && (decide (x0 ≤ high2)))
/-- spec.AreValidEdges -/
def m_spec_AreValidEdges (n0 : Int) (l1 : (List ConflictEdge)) : Option Bool :=
  (forL (R := Bool) (fun (i_1 : Int) (x_i_1 : ConflictEdge) (_ : Unit) => ((m_spec_l1In x_i_1.a 0 (w64 (x_i_1.b - 1))).bind fun r_5 => cond (!r_5) (some true) ((m_spec_l1In x_i_1.b 0 (w64 (n0 - 1))).bind fun r_8 => cond (!r_8) (some true) (cond (decide (0 < (i_1 : Int))) ((getI l1 ((i_1 : Int) - 1)).bind fun v_12 => cond (decide (x_i_1.a < v_12.a)) (some true) (cond (decide (x_i_1.a = v_12.a)) (some (decide (x_i_1.b ≤ v_12.b))) (some false))) (some false)))).bind fun (t81_3 : Bool) => cond t81_3 (some (.ret false)) (some (.next ()))) l1 0 ()).bind fun O2_ => onS O2_ (fun (_ : Unit) => (m_spec_l1In n0 0 14).bind fun r_20 => some r_20) (fun r => some r)
/-- spec.l28Edge -/
def m_spec_l28Edge (l0 : (List ConflictEdge)) (a1 : Int) (b2 : Int) : Option Bool :=
  (forL (R := Bool) (fun (i_1 : Int) (x_i_1 : ConflictEdge) (_ : Unit) => cond ((decide (x_i_1.a = (if b2 < a1 then b2 else a1))) && (decide (x_i_1.b = (if a1 < b2 then b2 else a1)))) (some (.ret true)) (some (.next ()))) l0 0 ()).bind fun O2_ => onS O2_ (fun (_ : Unit) => some false) (fun r => some r)
/-- spec.IsValidPreference -/
def m_spec_IsValidPreference (n0 : Int) (l1 : (List ConflictEdge)) (p2 : (List ConflictEdge)) : Option Bool :=
  (m_spec_AreValidEdges n0 l1).bind fun r_1 => cond (!r_1) (some false) ((forL (R := Bool) (fun (i_4 : Int) (x_i_4 : ConflictEdge) (_ : Unit) => (cond (decide (x_i_4.a = x_i_4.b)) (some true) ((m_spec_l28Edge l1 x_i_4.a x_i_4.b).bind fun r_9 => some (!r_9))).bind fun (t49_6 : Bool) => cond t49_6 (some (.ret false)) (some (.next ()))) p2 0 ()).bind fun O5_ => onS O5_ (fun (_ : Unit) => (mk 1 n0 false).bind fun us_12 => (gN n0).bind fun _ => (forM (fun (k_14 : Int) (gone8 : (List Bool)) => (gN n0).bind fun _ => (forM (fun (x_17 : Int) (gone8 : (List Bool)) => (forS (fun (i_20 : Int) (x_i_20 : ConflictEdge) (free11 : Bool) => cond free11 (cond (decide (x_i_20.b ≠ (x_17 : Int))) (some true) ((getI gone8 x_i_20.a).bind fun v_24 => some v_24)) (some false)) p2 0 true).bind fun (free11 : Bool) => cond free11 ((getI gone8 (x_17 : Int)).bind fun v_30 => some (gone8.set ((x_17 : Int)).toNat true)) (some gone8)) (n0 - 0).toNat 0 gone8).bind fun (gone8 : (List Bool)) => some gone8) (n0 - 0).toNat 0 us_12).bind fun (gone8 : (List Bool)) => (gN n0).bind fun _ => (forN (R := Bool) (fun (x_35 : Int) (_ : Unit) => (getI gone8 (x_35 : Int)).bind fun v_38 => cond (!v_38) (some (.ret false)) (some (.next ()))) (n0 - 0).toNat 0 ()).bind fun O36_ => onS O36_ (fun (_ : Unit) => some true) (fun r => some r)) (fun r => some r))
/-- spec.l8Set -/
def m_spec_l8Set (n0 : Int) (s1 : (List Int)) : Option Bool :=
  (forL (R := Bool) (fun (i_1 : Int) (x_i_1 : Int) (_ : Unit) => ((m_spec_l1In x_i_1 0 (w64 (n0 - 1))).bind fun r_5 => cond (!r_5) (some true) (cond (decide (0 < (i_1 : Int))) ((getI s1 ((i_1 : Int) - 1)).bind fun v_9 => some (decide (x_i_1 ≤ v_9))) (some false))).bind fun (t35_3 : Bool) => cond t35_3 (some (.ret false)) (some (.next ()))) s1 0 ()).bind fun O2_ => onS O2_ (fun (_ : Unit) => some true) (fun r => some r)
/-- spec.UndominatedFacts -/
def m_spec_UndominatedFacts (n0 : Int) (l1 : (List ConflictEdge)) (p2 : (List ConflictEdge)) (left3 : (List Int)) : Option (List Int) :=
  ((m_spec_IsValidPreference n0 l1 p2).bind fun r_3 => cond (!r_3) (some true) ((m_spec_l8Set n0 left3).bind fun r_6 => some (!r_6))).bind fun (t24_1 : Bool) => cond t24_1 (some ([] : (List Int))) ((forS (fun (i_9 : Int) (x_i_9 : Int) (out9 : (List Int)) => (forS (fun (k_11 : Int) (x_k_11 : Int) (top11 : Bool) => cond top11 ((m_spec_IsPreferred p2 x_k_11 x_i_9).bind fun r_14 => some (!r_14)) (some false)) left3 0 true).bind fun (top11 : Bool) => cond top11 ((app 8 out9 ([x_i_9] : (List Int))).bind fun us_17 => some us_17) (some out9)) left3 0 ([] : (List Int))).bind fun (out9 : (List Int)) => some out9)
/-- impl.within -/
def m_impl_within (n0 : Int) (low1 : Int) (high2 : Int) : Option Bool :=
  some ((decide (low1 ≤ n0)) && (decide (n0 ≤ high2)))
/-- impl.AreValidEdges -/
def m_impl_AreValidEdges (n0 : Int) (edges1 : (List ConflictEdge)) : Option Bool :=
  (m_impl_within n0 0 14).bind fun r_1 => cond (!r_1) (some false) ((forL (R := Bool) (fun (t_4 : Int) (x_t_4 : ConflictEdge) (_ : Unit) => (cond (decide (x_t_4.a < 0)) (some true) (cond (decide (x_t_4.b ≤ x_t_4.a)) (some true) (cond (decide (n0 ≤ x_t_4.b)) (some true) (cond (decide (0 < (t_4 : Int))) ((getI edges1 ((t_4 : Int) - 1)).bind fun v_12 => cond (decide (x_t_4.a < v_12.a)) (some true) (cond (decide (v_12.a = x_t_4.a)) (some (decide (x_t_4.b ≤ v_12.b))) (some false))) (some false))))).bind fun (t69_6 : Bool) => cond t69_6 (some (.ret false)) (some (.next ()))) edges1 0 ()).bind fun O5_ => onS O5_ (fun (_ : Unit) => some true) (fun r => some r))
/-- slices.IndexFunc[[]int,int] -/
def m_slices_IndexFunc_Sint_int (s0 : (List Int)) (f1 : (Int → Option Bool)) : Option Int :=
  (forL (R := Int) (fun (t_1 : Int) (x_t_1 : Int) (_ : Unit) => (f1 x_t_1).bind fun r_3 => cond r_3 (some (.ret (t_1 : Int))) (some (.next ()))) s0 0 ()).bind fun O2_ => onS O2_ (fun (_ : Unit) => some (-1)) (fun r => some r)
/-- slices.ContainsFunc[[]int,int] -/
def m_slices_ContainsFunc_Sint_int (s0 : (List Int)) (f1 : (Int → Option Bool)) : Option Bool :=
  (m_slices_IndexFunc_Sint_int s0 f1).bind fun r_1 => some (decide (0 ≤ r_1))
/-- impl.undominated$1 -/
def m_impl_undominated_1 (a0 : Int) (fv1 : (List ConflictEdge)) (fv2 : Int) : Option Bool :=
  (m_impl_IsPreferred fv1 a0 fv2).bind fun r_1 => some r_1
/-- impl.undominated -/
def m_impl_undominated (preferences0 : (List ConflictEdge)) (left1 : (List Int)) : Option (List Int) :=
  (forS (fun (t_1 : Int) (x_t_1 : Int) (out5 : (List Int)) => (m_slices_ContainsFunc_Sint_int left1 (fun x0 => m_impl_undominated_1 x0 preferences0 x_t_1)).bind fun r_3 => cond (!r_3) ((app 8 out5 ([x_t_1] : (List Int))).bind fun us_6 => some us_6) (some out5)) left1 0 ([] : (List Int))).bind fun (out5 : (List Int)) => some out5
/-- slices.Index[[]int,int] -/
def m_slices_Index_Sint_int (s0 : (List Int)) (v1 : Int) : Option Int :=
  (forL (R := Int) (fun (t_1 : Int) (x_t_1 : Int) (_ : Unit) => cond (decide (v1 = x_t_1)) (some (.ret (t_1 : Int))) (some (.next ()))) s0 0 ()).bind fun O2_ => onS O2_ (fun (_ : Unit) => some (-1)) (fun r => some r)
/-- slices.Contains[[]int,int] -/
def m_slices_Contains_Sint_int (s0 : (List Int)) (v1 : Int) : Option Bool :=
  (m_slices_Index_Sint_int s0 v1).bind fun r_1 => some (decide (0 ≤ r_1))
/-- impl.without -/
def m_impl_without (a0 : (List Int)) (b1 : (List Int)) : Option (List Int) :=
  (forS (fun (t_1 : Int) (x_t_1 : Int) (out5 : (List Int)) => (m_slices_Contains_Sint_int b1 x_t_1).bind fun r_3 => cond (!r_3) ((app 8 out5 ([x_t_1] : (List Int))).bind fun us_6 => some us_6) (some out5)) a0 0 ([] : (List Int))).bind fun (out5 : (List Int)) => some out5
/-- impl.areAcyclic -/
def m_impl_areAcyclic (u : Nat) (n0 : Int) (preferences1 : (List ConflictEdge)) : Option Bool :=
  (gN n0).bind fun _ => (forM (fun (t_1 : Int) (left5 : (List Int)) => (app 8 left5 ([(t_1 : Int)] : (List Int))).bind fun us_4 => some us_4) (n0 - 0).toNat 0 ([] : (List Int))).bind fun (left5 : (List Int)) => (whileF (R := Bool) (fun (left5 : (List Int)) => cond (decide (0 < (left5.length : Int))) ((m_impl_undominated preferences1 left5).bind fun r_8 => (m_impl_without left5 r_8).bind fun r_10 => cond (decide ((r_10.length : Int) = (left5.length : Int))) (some (.ret false)) (some (.next r_10))) (some (.brk left5))) u left5).bind fun O6_ => onS O6_ (fun (left5 : (List Int)) => some true) (fun r => some r)
/-- impl.IsValidPreference -/
def m_impl_IsValidPreference (u : Nat) (n0 : Int) (edges1 : (List ConflictEdge)) (preferences2 : (List ConflictEdge)) : Option Bool :=
  (m_impl_AreValidEdges n0 edges1).bind fun r_1 => cond (!r_1) (some false) ((forL (R := Bool) (fun (t_4 : Int) (x_t_4 : ConflictEdge) (_ : Unit) => ((m_slices_Contains_Simpl_ConflictEdge_impl_ConflictEdge edges1 x_t_4).bind fun r_8 => cond (!r_8) ((m_slices_Contains_Simpl_ConflictEdge_impl_ConflictEdge edges1 ({ a := x_t_4.b, b := x_t_4.a } : ConflictEdge)).bind fun r_11 => some (!r_11)) (some false)).bind fun (t32_6 : Bool) => cond t32_6 (some (.ret false)) (some (.next ()))) preferences2 0 ()).bind fun O5_ => onS O5_ (fun (_ : Unit) => (m_impl_areAcyclic u n0 preferences2).bind fun r_14 => some r_14) (fun r => some r))
/-- impl.areIndices -/
def m_impl_areIndices (indices0 : (List Int)) (n1 : Int) : Option Bool :=
  (forL (R := Bool) (fun (t_1 : Int) (x_t_1 : Int) (_ : Unit) => ((m_impl_within x_t_1 0 (w64 (n1 - 1))).bind fun r_5 => cond (!r_5) (some true) (cond (decide (0 < (t_1 : Int))) ((getI indices0 ((t_1 : Int) - 1)).bind fun v_9 => some (decide (x_t_1 ≤ v_9))) (some false))).bind fun (t31_3 : Bool) => cond t31_3 (some (.ret false)) (some (.next ()))) indices0 0 ()).bind fun O2_ => onS O2_ (fun (_ : Unit) => some true) (fun r => some r)
/-- impl.UndominatedFacts -/
def m_impl_UndominatedFacts (u : Nat) (n0 : Int) (edges1 : (List ConflictEdge)) (preferences2 : (List ConflictEdge)) (left3 : (List Int)) : Option (List Int) :=
  ((m_impl_IsValidPreference u n0 edges1 preferences2).bind fun r_3 => cond (!r_3) (some true) ((m_impl_areIndices left3 n0).bind fun r_6 => some (!r_6))).bind fun (t19_1 : Bool) => cond t19_1 (some ([] : (List Int))) ((m_impl_undominated preferences2 left3).bind fun r_9 => some r_9)
/-- spec.l7Has -/
def m_spec_l7Has (l0 : (List Int)) (x1 : Int) : Option Bool :=
  (forL (R := Bool) (fun (i_1 : Int) (x_i_1 : Int) (_ : Unit) => cond (decide (x_i_1 = x1)) (some (.ret true)) (some (.next ()))) l0 0 ()).bind fun O2_ => onS O2_ (fun (_ : Unit) => some false) (fun r => some r)
/-- spec.IsIndependent -/
def m_spec_IsIndependent (l0 : (List ConflictEdge)) (s1 : (List Int)) : Option Bool :=
  (forL (R := Bool) (fun (i_1 : Int) (x_i_1 : ConflictEdge) (_ : Unit) => ((m_spec_l7Has s1 x_i_1.a).bind fun r_5 => cond r_5 ((m_spec_l7Has s1 x_i_1.b).bind fun r_8 => some r_8) (some false)).bind fun (t27_3 : Bool) => cond t27_3 (some (.ret false)) (some (.next ()))) l0 0 ()).bind fun O2_ => onS O2_ (fun (_ : Unit) => some true) (fun r => some r)
/-- spec.l8Fits -/
def m_spec_l8Fits (l0 : (List ConflictEdge)) (s1 : (List Int)) (x2 : Int) : Option Bool :=
  ((m_spec_l7Has s1 x2).bind fun r_3 => cond (!r_3) ((app 8 ([] : (List Int)) s1).bind fun us_6 => (app 8 us_6 ([x2] : (List Int))).bind fun us_8 => (m_spec_IsIndependent l0 us_8).bind fun r_10 => some r_10) (some false)).bind fun (t6_1 : Bool) => some t6_1
/-- spec.IsMaximalIndependent -/
def m_spec_IsMaximalIndependent (n0 : Int) (l1 : (List ConflictEdge)) (s2 : (List Int)) : Option Bool :=
  ((m_spec_AreValidEdges n0 l1).bind fun r_3 => cond (!r_3) (some true) ((m_spec_l8Set n0 s2).bind fun r_6 => cond (!r_6) (some true) ((m_spec_IsIndependent l1 s2).bind fun r_9 => some (!r_9)))).bind fun (t23_1 : Bool) => cond t23_1 (some false) ((gN n0).bind fun _ => (forN (R := Bool) (fun (x_12 : Int) (_ : Unit) => (m_spec_l8Fits l1 s2 (x_12 : Int)).bind fun r_15 => cond r_15 (some (.ret false)) (some (.next ()))) (n0 - 0).toNat 0 ()).bind fun O13_ => onS O13_ (fun (_ : Unit) => some true) (fun r => some r))
/-- spec.IsParetoOptimal -/
def m_spec_IsParetoOptimal (n0 : Int) (l1 : (List ConflictEdge)) (p2 : (List ConflictEdge)) (s3 : (List Int)) : Option Bool :=
  ((m_spec_IsValidPreference n0 l1 p2).bind fun r_3 => cond (!r_3) (some true) ((m_spec_IsMaximalIndependent n0 l1 s3).bind fun r_6 => some (!r_6))).bind fun (t23_1 : Bool) => cond t23_1 (some false) ((gN n0).bind fun _ => (forN (R := Bool) (fun (x_9 : Int) (_ : Unit) => (m_spec_l7Has s3 (x_9 : Int)).bind fun r_12 => cond r_12 (some (.next ())) ((forS (fun (i_15 : Int) (x_i_15 : Int) (all10 : Bool) => cond all10 ((m_spec_l28Edge l1 (x_9 : Int) x_i_15).bind fun r_18 => cond (!r_18) (some true) ((m_spec_IsPreferred p2 (x_9 : Int) x_i_15).bind fun r_21 => some r_21)) (some false)) s3 0 true).bind fun (all10 : Bool) => cond all10 (some (.ret false)) (some (.next ())))) (n0 - 0).toNat 0 ()).bind fun O10_ => onS O10_ (fun (_ : Unit) => some true) (fun r => some r))
/-- impl.ConflictEdge] -/
def m_slices_IndexFunc_Simpl_ConflictEdge_impl_ConflictEdge (s0 : (List ConflictEdge)) (f1 : (ConflictEdge → Option Bool)) : Option Int :=
  (forL (R := Int) (fun (t_1 : Int) (x_t_1 : ConflictEdge) (_ : Unit) => (f1 x_t_1).bind fun r_3 => cond r_3 (some (.ret (t_1 : Int))) (some (.next ()))) s0 0 ()).bind fun O2_ => onS O2_ (fun (_ : Unit) => some (-1)) (fun r => some r)
/-- impl.ConflictEdge] -/
def m_slices_ContainsFunc_Simpl_ConflictEdge_impl_ConflictEdge (s0 : (List ConflictEdge)) (f1 : (ConflictEdge → Option Bool)) : Option Bool :=
  (m_slices_IndexFunc_Simpl_ConflictEdge_impl_ConflictEdge s0 f1).bind fun r_1 => some (decide (0 ≤ r_1))
/-- impl.IsIndependent$1 -/
def m_impl_IsIndependent_1 (e0 : ConflictEdge) (fv1 : (List Int)) : Option Bool :=
  ((m_slices_Contains_Sint_int fv1 e0.a).bind fun r_3 => cond r_3 ((m_slices_Contains_Sint_int fv1 e0.b).bind fun r_6 => some r_6) (some false)).bind fun (t3_1 : Bool) => some t3_1
/-- impl.IsIndependent -/
def m_impl_IsIndependent (edges0 : (List ConflictEdge)) (set1 : (List Int)) : Option Bool :=
  (m_slices_ContainsFunc_Simpl_ConflictEdge_impl_ConflictEdge edges0 (fun x0 => m_impl_IsIndependent_1 x0 set1)).bind fun r_1 => some (!r_1)
/-- impl.isIndependentSet -/
def m_impl_isIndependentSet (n0 : Int) (edges1 : (List ConflictEdge)) (set2 : (List Int)) : Option Bool :=
  ((m_impl_AreValidEdges n0 edges1).bind fun r_3 => cond r_3 ((m_impl_areIndices set2 n0).bind fun r_6 => cond r_6 ((m_impl_IsIndependent edges1 set2).bind fun r_9 => some r_9) (some false)) (some false)).bind fun (t6_1 : Bool) => some t6_1
/-- slices.Clone[[]int,int] -/
def m_slices_Clone_Sint_int (s0 : (List Int)) : Option (List Int) :=
  (app 8 ([] : (List Int)) s0).bind fun us_4 => some us_4
/-- impl.IsMaximalIndependent -/
def m_impl_IsMaximalIndependent (n0 : Int) (edges1 : (List ConflictEdge)) (set2 : (List Int)) : Option Bool :=
  (m_impl_isIndependentSet n0 edges1 set2).bind fun r_1 => cond (!r_1) (some false) ((gN n0).bind fun _ => (forN (R := Bool) (fun (t_4 : Int) (_ : Unit) => ((m_slices_Contains_Sint_int set2 (t_4 : Int)).bind fun r_9 => cond (!r_9) ((m_slices_Clone_Sint_int set2).bind fun r_12 => (app 8 r_12 ([(t_4 : Int)] : (List Int))).bind fun us_14 => (m_impl_IsIndependent edges1 us_14).bind fun r_16 => some r_16) (some false)).bind fun (t29_7 : Bool) => cond t29_7 (some (.ret false)) (some (.next ()))) (n0 - 0).toNat 0 ()).bind fun O5_ => onS O5_ (fun (_ : Unit) => some true) (fun r => some r))
/-- impl.inConflict -/
def m_impl_inConflict (edges0 : (List ConflictEdge)) (a1 : Int) (b2 : Int) : Option Bool :=
  ((m_slices_Contains_Simpl_ConflictEdge_impl_ConflictEdge edges0 ({ a := a1, b := b2 } : ConflictEdge)).bind fun r_3 => cond r_3 (some true) ((m_slices_Contains_Simpl_ConflictEdge_impl_ConflictEdge edges0 ({ a := b2, b := a1 } : ConflictEdge)).bind fun r_6 => some r_6)).bind fun (t6_1 : Bool) => some t6_1
/-- impl.IsParetoOptimal$1 -/
def m_impl_IsParetoOptimal_1 (own0 : Int) (fv1 : (List ConflictEdge)) (fv2 : Int) (fv3 : (List ConflictEdge)) : Option Bool :=
  ((m_impl_inConflict fv1 fv2 own0).bind fun r_3 => cond r_3 ((m_impl_IsPreferred fv3 fv2 own0).bind fun r_6 => some (!r_6)) (some false)).bind fun (t5_1 : Bool) => some t5_1
/-- impl.IsParetoOptimal -/
def m_impl_IsParetoOptimal (u : Nat) (n0 : Int) (edges1 : (List ConflictEdge)) (preferences2 : (List ConflictEdge)) (set3 : (List Int)) : Option Bool :=
  ((m_impl_IsValidPreference u n0 edges1 preferences2).bind fun r_3 => cond (!r_3) (some true) ((m_impl_IsMaximalIndependent n0 edges1 set3).bind fun r_6 => some (!r_6))).bind fun (t21_1 : Bool) => cond t21_1 (some false) ((gN n0).bind fun _ => (forN (R := Bool) (fun (t_9 : Int) (_ : Unit) => ((m_slices_Contains_Sint_int set3 (t_9 : Int)).bind fun r_14 => cond (!r_14) ((m_slices_ContainsFunc_Sint_int set3 (fun x0 => m_impl_IsParetoOptimal_1 x0 edges1 (t_9 : Int) preferences2)).bind fun r_17 => some (!r_17)) (some false)).bind fun (t35_12 : Bool) => cond t35_12 (some (.ret false)) (some (.next ()))) (n0 - 0).toNat 0 ()).bind fun O10_ => onS O10_ (fun (_ : Unit) => some true) (fun r => some r))
/-- laws.big -/
def m_laws_big (code0 : (List Int)) : Option Bool :=
  some (decide (1048576 < (code0.length : Int)))
/-- spec.l1New -/
def m_spec_l1New (u : Nat) (code0 : (List Int)) : Option l1Cur :=
  (whileF (R := l1Cur) (fun (⟨h3, i4⟩ : Int × Int) => cond ((decide (i4 < (code0.length : Int))) && (decide (i4 < 4000))) ((getI code0 i4).bind fun v_6 => some (.next ((bitI .and .i64 (w64 ((w64 ((w64 (h3 * 131)) + (w64 v_6))) + 7)) 1073741823), (w64 (i4 + 1))))) (some (.brk (h3, i4)))) u ((w64 (10101 + (code0.length : Int))), 0)).bind fun O1_ => onS O1_ (fun (⟨h3, i4⟩ : Int × Int) => some ({ b := code0, i := 0, h := h3 } : l1Cur)) (fun r => none)
/-- spec.l1Byte -/
def m_spec_l1Byte (c0 : l1Cur) : Option (Int × l1Cur) :=
  cond (decide (c0.i < (c0.b.length : Int))) ((getI c0.b c0.i).bind fun v_2 => some ((bitI .and .i64 (w64 ((bitI .and .i64 (bitI .xor .i64 (shrI .i64 (w64 ((w64 (c0.h * 6364136223846793005)) + 1442695040888963407)) 33) (shrI .i64 (w64 ((w64 (c0.h * 6364136223846793005)) + 1442695040888963407)) 45)) 255) + (w64 v_2))) 255), ({ b := c0.b, i := (w64 (c0.i + 1)), h := (w64 ((w64 (c0.h * 6364136223846793005)) + 1442695040888963407)) } : l1Cur))) (some ((bitI .and .i64 (bitI .xor .i64 (shrI .i64 (w64 ((w64 (c0.h * 6364136223846793005)) + 1442695040888963407)) 33) (shrI .i64 (w64 ((w64 (c0.h * 6364136223846793005)) + 1442695040888963407)) 45)) 255), ({ b := c0.b, i := c0.i, h := (w64 ((w64 (c0.h * 6364136223846793005)) + 1442695040888963407)) } : l1Cur)))
/-- spec.l1Below -/
def m_spec_l1Below (c0 : l1Cur) (n1 : Int) : Option (Int × l1Cur) :=
  cond (decide (n1 ≤ 0)) (some (0, c0)) (cond (decide (n1 ≤ 256)) ((m_spec_l1Byte c0).bind fun r_3 => (gD n1).bind fun _u => some ((r_3.1.tmod n1), r_3.2)) ((m_spec_l1Byte c0).bind fun r_6 => (m_spec_l1Byte r_6.2).bind fun r_8 => (m_spec_l1Byte r_8.2).bind fun r_10 => (m_spec_l1Byte r_10.2).bind fun r_12 => (gD n1).bind fun _u => some (((w64 ((w64 ((w64 ((w64 (r_6.1 * 16777216)) + (w64 (r_8.1 * 65536)))) + (w64 (r_10.1 * 256)))) + r_12.1)).tmod n1), r_12.2)))
/-- spec.l1Once -/
def m_spec_l1Once (c0 : l1Cur) (n1 : Int) : Option (Bool × l1Cur) :=
  (m_spec_l1Below c0 n1).bind fun r_1 => some (decide (r_1.1 = 0), r_1.2)
/-- spec.l8Edges -/
def m_spec_l8Edges (c0 : l1Cur) : Option ((Int × (List ConflictEdge)) × l1Cur) :=
  (m_spec_l1Below c0 9).bind fun r_1 => (m_spec_l1Below r_1.2 4).bind fun r_3 => (gN r_1.1).bind fun _ => (forM (fun (i_5 : Int) (⟨l5, box0⟩ : (List ConflictEdge) × l1Cur) => (gN r_1.1).bind fun _ => (forM (fun (k_8 : Int) (⟨l5, box0⟩ : (List ConflictEdge) × l1Cur) => (m_spec_l1Once box0 (w64 (2 + r_3.1))).bind fun r_11 => cond r_11.1 ((app 16 l5 ([({ a := (i_5 : Int), b := (k_8 : Int) } : ConflictEdge)] : (List ConflictEdge))).bind fun us_14 => some (us_14, r_11.2)) (some (l5, r_11.2))) (r_1.1 - ((i_5 : Int) + 1)).toNat ((i_5 : Int) + 1) (l5, box0)).bind fun (⟨l5, box0⟩ : (List ConflictEdge) × l1Cur) => some (l5, box0)) (r_1.1 - 0).toNat 0 (([] : (List ConflictEdge)), r_3.2)).bind fun (⟨l5, box0⟩ : (List ConflictEdge) × l1Cur) => (cond (decide (0 < (l5.length : Int))) ((m_spec_l1Once box0 12).bind fun r_19 => some (r_19.1, r_19.2)) (some (false, box0))).bind fun (t42_16, box0_16) => cond t42_16 ((m_spec_l1Below box0_16 (l5.length : Int)).bind fun r_22 => (m_spec_l1Below r_22.2 (w64 (r_1.1 + 2))).bind fun r_24 => (getI l5 r_22.1).bind fun v_26 => some ((r_1.1, (l5.set (r_22.1).toNat ({ a := v_26.a, b := (w64 (r_24.1 - 1)) } : ConflictEdge))), r_24.2)) (some ((r_1.1, l5), box0_16))
/-- spec.l28Draw -/
def m_spec_l28Draw (c0 : l1Cur) (most1 : Int) : Option ((Int × (List ConflictEdge) × (List ConflictEdge)) × l1Cur) :=
  (m_spec_l8Edges c0).bind fun r_1 => cond (decide (most1 < r_1.1.1)) ((forS (fun (i_4 : Int) (x_i_4 : ConflictEdge) (keep9 : (List ConflictEdge)) => cond (decide (x_i_4.b < most1)) ((app 16 keep9 ([x_i_4] : (List ConflictEdge))).bind fun us_7 => some us_7) (some keep9)) r_1.1.2 0 ([] : (List ConflictEdge))).bind fun (keep9 : (List ConflictEdge)) => (forS (fun (i_9 : Int) (x_i_9 : ConflictEdge) (⟨p11, box0⟩ : (List ConflictEdge) × l1Cur) => (m_spec_l1Below box0 3).bind fun r_11 => cond (decide (r_11.1 = 0)) ((app 16 p11 ([x_i_9] : (List ConflictEdge))).bind fun us_14 => some (us_14, r_11.2)) (cond (decide (r_11.1 = 1)) ((m_spec_l1Once r_11.2 4).bind fun r_17 => cond r_17.1 ((app 16 p11 ([({ a := x_i_9.b, b := x_i_9.a } : ConflictEdge)] : (List ConflictEdge))).bind fun us_20 => some (us_20, r_17.2)) (some (p11, r_17.2))) (some (p11, r_11.2)))) keep9 0 (([] : (List ConflictEdge)), r_1.2)).bind fun (⟨p11, box0⟩ : (List ConflictEdge) × l1Cur) => (m_spec_l1Once box0 14).bind fun r_22 => cond r_22.1 ((m_spec_l1Below r_22.2 4).bind fun r_25 => (m_spec_l1Below r_25.2 4).bind fun r_27 => (app 16 p11 ([({ a := r_25.1, b := r_27.1 } : ConflictEdge)] : (List ConflictEdge))).bind fun us_29 => some ((most1, keep9, us_29), r_27.2)) (some ((most1, keep9, p11), r_22.2))) ((forS (fun (i_31 : Int) (x_i_31 : ConflictEdge) (⟨p11, box0⟩ : (List ConflictEdge) × l1Cur) => (m_spec_l1Below box0 3).bind fun r_33 => cond (decide (r_33.1 = 0)) ((app 16 p11 ([x_i_31] : (List ConflictEdge))).bind fun us_36 => some (us_36, r_33.2)) (cond (decide (r_33.1 = 1)) ((m_spec_l1Once r_33.2 4).bind fun r_39 => cond r_39.1 ((app 16 p11 ([({ a := x_i_31.b, b := x_i_31.a } : ConflictEdge)] : (List ConflictEdge))).bind fun us_42 => some (us_42, r_39.2)) (some (p11, r_39.2))) (some (p11, r_33.2)))) r_1.1.2 0 (([] : (List ConflictEdge)), r_1.2)).bind fun (⟨p11, box0⟩ : (List ConflictEdge) × l1Cur) => (m_spec_l1Once box0 14).bind fun r_44 => cond r_44.1 ((m_spec_l1Below r_44.2 4).bind fun r_47 => (m_spec_l1Below r_47.2 4).bind fun r_49 => (app 16 p11 ([({ a := r_47.1, b := r_49.1 } : ConflictEdge)] : (List ConflictEdge))).bind fun us_51 => some ((r_1.1.1, r_1.1.2, us_51), r_49.2)) (some ((r_1.1.1, r_1.1.2, p11), r_44.2)))
/-- spec.l8Some -/
def m_spec_l8Some (c0 : l1Cur) (n1 : Int) (l2 : (List ConflictEdge)) : Option ((List Int) × l1Cur) :=
  (gN n1).bind fun _ => (forM (fun (x_1 : Int) (⟨s7, box0⟩ : (List Int) × l1Cur) => ((m_spec_l1Once box0 2).bind fun r_6 => cond r_6.1 ((m_spec_l1Once r_6.2 8).bind fun r_9 => cond r_9.1 (some (true, r_9.2)) ((m_spec_l8Fits l2 s7 (x_1 : Int)).bind fun r_12 => some (r_12, r_9.2))) (some (false, r_6.2))).bind fun (t26_4, box0_4) => cond t26_4 ((app 8 s7 ([(x_1 : Int)] : (List Int))).bind fun us_15 => some (us_15, box0_4)) (some (s7, box0_4))) (n1 - 0).toNat 0 (([] : (List Int)), c0)).bind fun (⟨s7, box0⟩ : (List Int) × l1Cur) => (m_spec_l1Once box0 12).bind fun r_17 => cond r_17.1 ((app 8 s7 ([n1] : (List Int))).bind fun us_20 => some (us_20, r_17.2)) (some (s7, r_17.2))
/-- spec.DrawUndominatedFacts -/
def m_spec_DrawUndominatedFacts (u : Nat) (code0 : (List Int)) : Option (Int × (List ConflictEdge) × (List ConflictEdge) × (List Int)) :=
  (m_spec_l1New u code0).bind fun r_1 => (m_spec_l28Draw r_1 8).bind fun r_3 => (m_spec_l8Some r_3.2 r_3.1.1 []).bind fun r_5 => some (r_3.1.1, r_3.1.2.1, r_3.1.2.2, r_5.1)
/-- spec.DrawIsPreferred -/
def m_spec_DrawIsPreferred (u : Nat) (code0 : (List Int)) : Option ((List ConflictEdge) × Int × Int) :=
  (m_spec_l1New u code0).bind fun r_1 => (m_spec_l28Draw r_1 8).bind fun r_3 => (cond (decide (0 < (r_3.1.2.2.length : Int))) ((m_spec_l1Once r_3.2 2).bind fun r_8 => some (r_8.1, r_8.2)) (some (false, r_3.2))).bind fun (t23_5, box0_5) => cond t23_5 ((getI r_3.1.2.2 0).bind fun v_11 => some (r_3.1.2.2, v_11.a, v_11.b)) ((m_spec_l1Below box0_5 5).bind fun r_16 => (m_spec_l1Below r_16.2 5).bind fun r_18 => some (r_3.1.2.2, r_16.1, r_18.1))
/-- spec.l28All -/
def m_spec_l28All (u : Nat) (n0 : Int) : Option (List Int) :=
  (whileF (R := (List Int)) (fun (l3 : (List Int)) => cond (decide ((l3.length : Int) < n0)) ((app 8 l3 ([(l3.length : Int)] : (List Int))).bind fun us_3 => some (.next us_3)) (some (.brk l3))) u ([] : (List Int))).bind fun O1_ => onS O1_ (fun (l3 : (List Int)) => some l3) (fun r => none)
/-- spec.l28Rest -/
def m_spec_l28Rest (l0 : (List ConflictEdge)) (left1 : (List Int)) (x2 : Int) : Option (List Int) :=
  (forS (fun (i_1 : Int) (x_i_1 : Int) (out7 : (List Int)) => (cond (decide (x_i_1 ≠ x2)) ((m_spec_l28Edge l0 x_i_1 x2).bind fun r_6 => some (!r_6)) (some false)).bind fun (t31_3 : Bool) => cond t31_3 ((app 8 out7 ([x_i_1] : (List Int))).bind fun us_9 => some us_9) (some out7)) left1 0 ([] : (List Int))).bind fun (out7 : (List Int)) => some out7
/-- spec.l7Sorted -/
def m_spec_l7Sorted (u : Nat) (l0 : (List Int)) : Option (List Int) :=
  (forS (fun (i_1 : Int) (x_i_1 : Int) (out3 : (List Int)) => (whileF (R := (List Int)) (fun (k5 : Int) => (cond (decide (0 < k5)) ((getI out3 (w64 (k5 - 1))).bind fun v_7 => some (decide (x_i_1 < v_7))) (some false)).bind fun (t28_4 : Bool) => cond t28_4 (some (.next (w64 (k5 - 1)))) (some (.brk k5))) u (out3.length : Int)).bind fun O3_ => onS O3_ (fun (k5 : Int) => (cutI out3 0 k5).bind fun ys_13 => (app 8 ([] : (List Int)) ys_13).bind fun us_22 => (app 8 us_22 ([x_i_1] : (List Int))).bind fun us_24 => (cutI out3 k5 (out3.length : Int)).bind fun ys_26 => (app 8 us_24 ys_26).bind fun us_35 => some us_35) (fun r => none)) l0 0 ([] : (List Int))).bind fun (out3 : (List Int)) => some out3
/-- spec.GreedyRepair -/
def m_spec_GreedyRepair (u : Nat) (n0 : Int) (l1 : (List ConflictEdge)) (p2 : (List ConflictEdge)) : Option (List Int) :=
  (m_spec_IsValidPreference n0 l1 p2).bind fun r_1 => cond (!r_1) (some ([] : (List Int))) ((m_spec_l28All u n0).bind fun r_4 => (whileF (R := (List Int)) (fun (⟨out7, left8⟩ : (List Int) × (List Int)) => cond (decide (0 < (left8.length : Int))) ((m_spec_UndominatedFacts n0 l1 p2 left8).bind fun r_8 => (getI r_8 0).bind fun v_10 => (app 8 out7 ([v_10] : (List Int))).bind fun us_15 => (m_spec_l28Rest l1 left8 v_10).bind fun r_17 => some (.next (us_15, r_17))) (some (.brk (out7, left8)))) u (([] : (List Int)), r_4)).bind fun O6_ => onS O6_ (fun (⟨out7, left8⟩ : (List Int) × (List Int)) => (m_spec_l7Sorted u out7).bind fun r_19 => some r_19) (fun r => none))
/-- spec.ExtendToMaximal -/
def m_spec_ExtendToMaximal (u : Nat) (n0 : Int) (l1 : (List ConflictEdge)) (s2 : (List Int)) : Option ((List Int) × Bool) :=
  ((m_spec_AreValidEdges n0 l1).bind fun r_3 => cond (!r_3) (some true) ((m_spec_l8Set n0 s2).bind fun r_6 => cond (!r_6) (some true) ((m_spec_IsIndependent l1 s2).bind fun r_9 => some (!r_9)))).bind fun (t25_1 : Bool) => cond t25_1 (some (([] : (List Int)), false)) ((app 8 ([] : (List Int)) s2).bind fun us_12 => (gN n0).bind fun _ => (forM (fun (x_14 : Int) (out8 : (List Int)) => (m_spec_l8Fits l1 out8 (x_14 : Int)).bind fun r_17 => cond r_17 ((app 8 out8 ([(x_14 : Int)] : (List Int))).bind fun us_20 => some us_20) (some out8)) (n0 - 0).toNat 0 us_12).bind fun (out8 : (List Int)) => (m_spec_l7Sorted u out8).bind fun r_22 => some (r_22, true))
/-- spec.DrawIsParetoOptimal -/
def m_spec_DrawIsParetoOptimal (u : Nat) (code0 : (List Int)) : Option (Int × (List ConflictEdge) × (List ConflictEdge) × (List Int)) :=
  (m_spec_l1New u code0).bind fun r_1 => (m_spec_l28Draw r_1 8).bind fun r_3 => (m_spec_l1Once r_3.2 3).bind fun r_5 => cond r_5.1 ((m_spec_GreedyRepair u r_3.1.1 r_3.1.2.1 r_3.1.2.2).bind fun r_8 => some (r_3.1.1, r_3.1.2.1, r_3.1.2.2, r_8)) ((m_spec_ExtendToMaximal u r_3.1.1 r_3.1.2.1 ([] : (List Int))).bind fun r_10 => (cond (!r_10.2) (some (true, r_5.2)) ((m_spec_l1Once r_5.2 3).bind fun r_15 => some (r_15.1, r_15.2))).bind fun (t41_12, box0_12) => cond t41_12 ((m_spec_l8Some box0_12 r_3.1.1 r_3.1.2.1).bind fun r_18 => some (r_3.1.1, r_3.1.2.1, r_3.1.2.2, r_18.1)) (some (r_3.1.1, r_3.1.2.1, r_3.1.2.2, r_10.1)))
/-- laws.sameInts -/
def m_laws_sameInts (a0 : (List Int)) (b1 : (List Int)) : Option Bool :=
  cond (decide ((a0.length : Int) ≠ (b1.length : Int))) (some false) ((forL (R := Bool) (fun (i_2 : Int) (x_i_2 : Int) (_ : Unit) => (getI b1 (i_2 : Int)).bind fun v_4 => cond (decide (x_i_2 ≠ v_4)) (some (.ret false)) (some (.next ()))) a0 0 ()).bind fun O3_ => onS O3_ (fun (_ : Unit) => some true) (fun r => some r))
/-- laws.FnUndominatedFacts -/
def m_laws_FnUndominatedFacts (u : Nat) (code0 : (List Int)) : Option Bool :=
  (m_laws_big code0).bind fun r_1 => cond r_1 (some true) ((m_spec_DrawUndominatedFacts u code0).bind fun r_4 => (m_impl_UndominatedFacts u r_4.1 r_4.2.1 r_4.2.2.1 r_4.2.2.2).bind fun r_6 => (m_spec_DrawIsPreferred u code0).bind fun r_8 => (m_spec_DrawIsParetoOptimal u code0).bind fun r_10 => ((m_spec_UndominatedFacts r_4.1 r_4.2.1 r_4.2.2.1 r_4.2.2.2).bind fun r_14 => (m_laws_sameInts r_6 r_14).bind fun r_16 => cond (!r_16) (some true) ((m_impl_IsPreferred r_8.1 r_8.2.1 r_8.2.2).bind fun r_19 => (m_spec_IsPreferred r_8.1 r_8.2.1 r_8.2.2).bind fun r_21 => cond (r_19 != r_21) (some true) ((m_impl_IsParetoOptimal u r_10.1 r_10.2.1 r_10.2.2.1 r_10.2.2.2).bind fun r_24 => (m_spec_IsParetoOptimal r_10.1 r_10.2.1 r_10.2.2.1 r_10.2.2.2).bind fun r_26 => some (r_24 != r_26)))).bind fun (t75_12 : Bool) => cond t75_12 (some false) ((forL (R := Bool) (fun (i_29 : Int) (x_i_29 : Int) (_ : Unit) => (forL (R := Bool) (fun (k_31 : Int) (x_k_31 : Int) (_ : Unit) => (m_impl_IsPreferred r_4.2.2.1 x_k_31 x_i_29).bind fun r_33 => cond r_33 (some (.ret false)) (some (.next ()))) r_4.2.2.2 0 ()).bind fun O32_ => onS O32_ (fun (_ : Unit) => some (.next ())) (fun r => some (.ret r))) r_6 0 ()).bind fun O30_ => onS O30_ (fun (_ : Unit) => ((m_impl_IsParetoOptimal u r_10.1 r_10.2.1 r_10.2.2.1 r_10.2.2.2).bind fun r_38 => cond (!r_38) (some true) ((m_impl_IsMaximalIndependent r_10.1 r_10.2.1 r_10.2.2.2).bind fun r_41 => some r_41)).bind fun (t2_36 : Bool) => some t2_36) (fun r => some r)))
end Go.Proofs.Ytglgcncmjnjfgaa

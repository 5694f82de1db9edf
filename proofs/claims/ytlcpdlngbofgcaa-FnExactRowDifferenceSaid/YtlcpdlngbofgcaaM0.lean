/- The functions, as plain Lean. -/
import Derived.Test.YtlcpdlngbofgcaaCX
set_option linter.unusedVariables false
set_option maxRecDepth 4000
namespace Go.Proofs.Ytlcpdlngbofgcaa
open Go Go.Proofs Go.Sep
/-- laws.szIntS -/
def m_laws_szIntS (a0 : (List Int)) (left1 : Int) : Option Int :=
  cond (decide ((w64 (left1 - (a0.length : Int))) < 0)) (some (-1)) (some (w64 (left1 - (a0.length : Int))))
/-- laws.szIntSS -/
def m_laws_szIntSS (a0 : (List (List Int))) (left1 : Int) : Option Int :=
  cond (decide ((w64 (left1 - (a0.length : Int))) < 0)) (some (-1)) ((forL (R := Int) (fun (i_2 : Int) (x_i_2 : (List Int)) (left1 : Int) => (m_laws_szIntS x_i_2 left1).bind fun r_4 => cond (decide (r_4 < 0)) (some (.ret (-1))) (some (.next r_4))) a0 0 (w64 (left1 - (a0.length : Int)))).bind fun O3_ => onS O3_ (fun (left1 : Int) => some left1) (fun r => some r))
/-- spec.l3Ints -/
def m_spec_l3Ints (u : Nat) (a0 : (List Int)) (b1 : (List Int)) : Option Int :=
  (whileF (R := Int) (fun (i5 : Int) => cond ((decide (i5 < (a0.length : Int))) && (decide (i5 < (b1.length : Int)))) ((getI a0 i5).bind fun v_6 => (getI b1 i5).bind fun v_11 => cond (decide (v_6 < v_11)) (some (.ret (-1))) (cond (decide (v_11 < v_6)) (some (.ret 1)) (some (.next (w64 (i5 + 1)))))) (some (.brk i5))) u 0).bind fun O1_ => onS O1_ (fun (i5 : Int) => cond (decide ((a0.length : Int) < (b1.length : Int))) (some (-1)) (cond (decide ((b1.length : Int) < (a0.length : Int))) (some 1) (some 0))) (fun r => some r)
/-- spec.RowDifference -/
def m_spec_RowDifference (u : Nat) (a0 : (List (List Int))) (b1 : (List (List Int))) : Option (List (List Int)) :=
  (forS (fun (i_1 : Int) (x_i_1 : (List Int)) (out5 : (List (List Int))) => (forS (fun (k_3 : Int) (x_k_3 : (List Int)) (met7 : Bool) => cond met7 (some true) ((m_spec_l3Ints u x_i_1 x_k_3).bind fun r_6 => some (decide (r_6 = 0)))) b1 0 false).bind fun (met7 : Bool) => cond (!met7) ((app 8 ([] : (List Int)) x_i_1).bind fun us_9 => (app 24 out5 ([us_9] : (List (List Int)))).bind fun us_11 => some us_11) (some out5)) a0 0 ([] : (List (List Int)))).bind fun (out5 : (List (List Int))) => some out5
/-- laws.toIntS -/
def m_laws_toIntS (a0 : (List Int)) : Option (List Int) :=
  (mk 8 (a0.length : Int) (0 : Int)).bind fun us_1 => (forS (fun (i_3 : Int) (x_i_3 : Int) (out3 : (List Int)) => (getI out3 (i_3 : Int)).bind fun v_5 => some (out3.set ((i_3 : Int)).toNat x_i_3)) a0 0 us_1).bind fun (out3 : (List Int)) => some out3
/-- laws.toIntSS -/
def m_laws_toIntSS (a0 : (List (List Int))) : Option (List (List Int)) :=
  (mk 24 (a0.length : Int) []).bind fun us_1 => (forS (fun (i_3 : Int) (x_i_3 : (List Int)) (out3 : (List (List Int))) => (m_laws_toIntS x_i_3).bind fun r_5 => (getI out3 (i_3 : Int)).bind fun v_7 => some (out3.set ((i_3 : Int)).toNat r_5)) a0 0 us_1).bind fun (out3 : (List (List Int))) => some out3
/-- slices.IndexFunc[[][]int,[]int] -/
def m_slices_IndexFunc_int_int (s0 : (List (List Int))) (f1 : ((List Int) → Option Bool)) : Option Int :=
  (forL (R := Int) (fun (t_1 : Int) (x_t_1 : (List Int)) (_ : Unit) => (f1 x_t_1).bind fun r_3 => cond r_3 (some (.ret (t_1 : Int))) (some (.next ()))) s0 0 ()).bind fun O2_ => onS O2_ (fun (_ : Unit) => some (-1)) (fun r => some r)
/-- slices.ContainsFunc[[][]int,[]int] -/
def m_slices_ContainsFunc_int_int (s0 : (List (List Int))) (f1 : ((List Int) → Option Bool)) : Option Bool :=
  (m_slices_IndexFunc_int_int s0 f1).bind fun r_1 => some (decide (0 ≤ r_1))
/-- slices.Equal[[]int,int] -/
def m_slices_Equal_int_int (s10 : (List Int)) (s21 : (List Int)) : Option Bool :=
  cond (decide ((s10.length : Int) ≠ (s21.length : Int))) (some false) ((forL (R := Bool) (fun (t_2 : Int) (x_t_2 : Int) (_ : Unit) => (getI s21 (t_2 : Int)).bind fun v_4 => cond (decide (x_t_2 ≠ v_4)) (some (.ret false)) (some (.next ()))) s10 0 ()).bind fun O3_ => onS O3_ (fun (_ : Unit) => some true) (fun r => some r))
/-- impl.RowDifference$1 -/
def m_impl_RowDifference_1 (own0 : (List Int)) (fv1 : (List Int)) : Option Bool :=
  (m_slices_Equal_int_int own0 fv1).bind fun r_1 => some r_1
/-- impl.RowDifference -/
def m_impl_RowDifference (a0 : (List (List Int))) (b1 : (List (List Int))) : Option (List (List Int)) :=
  (forS (fun (t_1 : Int) (x_t_1 : (List Int)) (out5 : (List (List Int))) => (m_slices_ContainsFunc_int_int b1 (fun x0 => m_impl_RowDifference_1 x0 x_t_1)).bind fun r_3 => cond (!r_3) ((app 8 ([] : (List Int)) x_t_1).bind fun us_6 => (app 24 out5 ([us_6] : (List (List Int)))).bind fun us_8 => some us_8) (some out5)) a0 0 ([] : (List (List Int)))).bind fun (out5 : (List (List Int))) => some out5
/-- laws.eqIntS -/
def m_laws_eqIntS (a0 : (List Int)) (b1 : (List Int)) : Option Bool :=
  cond (decide ((a0.length : Int) ≠ (b1.length : Int))) (some false) ((forL (R := Bool) (fun (i_2 : Int) (x_i_2 : Int) (_ : Unit) => (getI b1 (i_2 : Int)).bind fun v_4 => cond (decide (x_i_2 ≠ v_4)) (some (.ret false)) (some (.next ()))) a0 0 ()).bind fun O3_ => onS O3_ (fun (_ : Unit) => some true) (fun r => some r))
/-- laws.eqIntSS -/
def m_laws_eqIntSS (a0 : (List (List Int))) (b1 : (List (List Int))) : Option Bool :=
  cond (decide ((a0.length : Int) ≠ (b1.length : Int))) (some false) ((forL (R := Bool) (fun (i_2 : Int) (x_i_2 : (List Int)) (_ : Unit) => (getI b1 (i_2 : Int)).bind fun v_4 => (m_laws_eqIntS x_i_2 v_4).bind fun r_9 => cond (!r_9) (some (.ret false)) (some (.next ()))) a0 0 ()).bind fun O3_ => onS O3_ (fun (_ : Unit) => some true) (fun r => some r))
/-- laws.markIntS -/
def m_laws_markIntS (a0 : (List Int)) (k1 : Int) : Option (Int × (List Int)) :=
  (forM (fun (i_1 : Int) (⟨a0m, k1⟩ : (List Int) × Int) => (getI a0m (i_1 : Int)).bind fun v_3 => some ((a0m.set ((i_1 : Int)).toNat k1), (w64 (k1 + 1)))) ((a0.length : Int) - 0).toNat 0 (a0, k1)).bind fun (⟨a0m, k1⟩ : (List Int) × Int) => some (k1, a0m)
/-- laws.markIntSS -/
def m_laws_markIntSS (a0 : (List (List Int))) (k1 : Int) : Option (Int × (List (List Int))) :=
  (forM (fun (i_1 : Int) (⟨a0m, k1⟩ : (List (List Int)) × Int) => (getI a0m (i_1 : Int)).bind fun v_3 => (m_laws_markIntS v_3 k1).bind fun r_8 => some ((a0m.set ((i_1 : Int)).toNat r_8.2), r_8.1)) ((a0.length : Int) - 0).toNat 0 (a0, k1)).bind fun (⟨a0m, k1⟩ : (List (List Int)) × Int) => some (k1, a0m)
/-- laws.heldIntS -/
def m_laws_heldIntS (a0 : (List Int)) (k1 : Int) : Option Int :=
  (forL (R := Int) (fun (i_1 : Int) (x_i_1 : Int) (k1 : Int) => cond (decide (x_i_1 ≠ k1)) (some (.ret (-1))) (some (.next (w64 (k1 + 1))))) a0 0 k1).bind fun O2_ => onS O2_ (fun (k1 : Int) => some k1) (fun r => some r)
/-- laws.heldIntSS -/
def m_laws_heldIntSS (a0 : (List (List Int))) (k1 : Int) : Option Int :=
  (forL (R := Int) (fun (i_1 : Int) (x_i_1 : (List Int)) (k1 : Int) => (m_laws_heldIntS x_i_1 k1).bind fun r_3 => cond (decide (r_3 < 0)) (some (.ret (-1))) (some (.next r_3))) a0 0 k1).bind fun O2_ => onS O2_ (fun (k1 : Int) => some k1) (fun r => some r)
/-- laws.FnExactRowDifference -/
def m_laws_FnExactRowDifference (u : Nat) (aA0 : (List (List Int))) (aB1 : (List (List Int))) : Option Bool :=
  (m_laws_szIntSS aA0 1048576).bind fun r_1 => cond (decide (r_1 < 0)) (some true) ((m_laws_szIntSS aB1 r_1).bind fun r_4 => cond (decide (r_4 < 0)) (some true) ((m_laws_toIntSS aA0).bind fun r_7 => (m_laws_toIntSS aB1).bind fun r_9 => (m_spec_RowDifference u r_7 r_9).bind fun r_11 => (m_laws_toIntSS aA0).bind fun r_13 => (m_laws_toIntSS aB1).bind fun r_15 => (m_impl_RowDifference r_13 r_15).bind fun r_17 => (m_laws_eqIntSS r_17 r_11).bind fun r_19 => cond (!r_19) (some false) ((m_laws_toIntSS aA0).bind fun r_22 => (m_laws_eqIntSS r_13 r_22).bind fun r_24 => cond (!r_24) (some false) ((m_laws_toIntSS aB1).bind fun r_27 => (m_laws_eqIntSS r_15 r_27).bind fun r_29 => cond (!r_29) (some false) ((m_laws_markIntSS r_13 1).bind fun r_32 => (m_laws_markIntSS r_15 r_32.1).bind fun r_36 => (cond (decide (r_36.1 < 0)) (some true) ((m_laws_eqIntSS r_17 r_11).bind fun r_43 => some (!r_43))).bind fun (t63 : Bool) => cond t63 (some false) ((m_laws_markIntSS r_17 1).bind fun r_46 => (m_laws_heldIntSS r_46.2 1).bind fun r_50 => cond (decide (r_50 < 0)) (some false) (cond (decide (r_50 ≠ r_46.1)) (some false) ((m_laws_toIntSS aA0).bind fun r_54 => (m_laws_toIntSS aB1).bind fun r_56 => (m_impl_RowDifference r_54 r_56).bind fun r_58 => (m_laws_eqIntSS r_58 r_11).bind fun r_60 => cond (!r_60) (some false) ((m_laws_heldIntSS r_46.2 1).bind fun r_63 => cond (decide (r_63 < 0)) (some false) (cond (decide (r_63 ≠ r_46.1)) (some false) (some true)))))))))))
end Go.Proofs.Ytlcpdlngbofgcaa

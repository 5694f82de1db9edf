import Derived.Test.YtaadmoaanhdboaaDoorCRD
set_option linter.unusedVariables false
set_option maxRecDepth 4000
namespace Go.Proofs.YtaadmoaanhdboaaDoor
open Go Go.Proofs Go.Sep
structure Fraction where
  numerator : Int
  denominator : Int
instance : Inhabited Fraction := ⟨⟨default, default⟩⟩
instance : DecidableEq Fraction := fun a b => decidable_of_iff (a.numerator = b.numerator ∧ a.denominator = b.denominator) (by cases a; cases b; simp)
def RdFraction (x : Fraction) : Prop := (-9223372036854775808 ≤ x.numerator ∧ x.numerator ≤ 9223372036854775807) ∧ (-9223372036854775808 ≤ x.denominator ∧ x.denominator ≤ 9223372036854775807)
def tFraction : Ty Fraction := tAs (fun x => (x.numerator, x.denominator)) (tP tInt tInt)
def m_spec_FormatInt (u : Nat) (n0 : Int) : Option ByteArray :=
  cond (decide (n0 = 0)) (some (⟨#[48]⟩ : ByteArray)) ((whileF (R := ByteArray) (fun (⟨n0z, out3⟩ : Int × ByteArray) => cond (decide (n0z ≠ 0)) (cond (decide ((n0z.tmod 10) < 0)) ((catS (strOf ([(IntKind.wrap .u8 (w64 (48 + (w64 (-(n0z.tmod 10))))))] : (List Int))) out3).bind fun cat_5 => some (.next ((w64 (n0z.tdiv 10)), cat_5))) ((catS (strOf ([(IntKind.wrap .u8 (w64 (48 + (n0z.tmod 10))))] : (List Int))) out3).bind fun cat_7 => some (.next ((w64 (n0z.tdiv 10)), cat_7)))) (some (.brk (n0z, out3)))) u (n0, (⟨#[]⟩ : ByteArray))).bind fun O2_ => onS O2_ (fun (⟨n0z, out3⟩ : Int × ByteArray) => cond (decide (n0 < 0)) ((catS (⟨#[45]⟩ : ByteArray) out3).bind fun cat_10 => some cat_10) (some out3)) (fun r => none))
def m_spec_FormatFraction (u : Nat) (s0 : Fraction) : Option ByteArray :=
  (m_spec_FormatInt u s0.numerator).bind fun r_1 => (catS r_1 (⟨#[47]⟩ : ByteArray)).bind fun cat_3 => (m_spec_FormatInt u s0.denominator).bind fun r_5 => (catS cat_3 r_5).bind fun cat_7 => some cat_7
def m_laws_toFraction (a0 : Fraction) : Option Fraction :=
  some a0
def m_strconv_Itoa (v0 : Int) : Option ByteArray := if -9223372036854775808 ≤ v0 ∧ v0 ≤ 9223372036854775807 then some ⟨(Go.Lib.itoa v0).toArray⟩ else none
def m_impl_FormatInt (n0 : Int) : Option ByteArray :=
  (m_strconv_Itoa n0).bind fun r_1 => some r_1
def m_impl_FormatFraction (fraction0 : Fraction) : Option ByteArray :=
  (m_impl_FormatInt fraction0.numerator).bind fun r_1 => (catS r_1 (⟨#[47]⟩ : ByteArray)).bind fun cat_3 => (m_impl_FormatInt fraction0.denominator).bind fun r_5 => (catS cat_3 r_5).bind fun cat_7 => some cat_7
def m_laws_FnExactFormatFraction (u : Nat) (aFraction0 : Fraction) : Option Bool :=
  (m_laws_toFraction aFraction0).bind fun r_1 => (m_spec_FormatFraction u r_1).bind fun r_3 => (m_laws_toFraction aFraction0).bind fun r_5 => (m_impl_FormatFraction r_5).bind fun r_7 => cond (decide (r_7 ≠ r_3)) (some false) (some true)
end Go.Proofs.YtaadmoaanhdboaaDoor

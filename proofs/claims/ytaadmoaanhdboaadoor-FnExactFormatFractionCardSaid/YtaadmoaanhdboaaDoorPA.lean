import Derived.Test.YtaadmoaanhdboaaDoorM0
import Derived.Test.YtaadmoaanhdboaaDoorCRC
import Derived.Lib.ItoaLen
set_option linter.unusedVariables false
set_option linter.unusedSimpArgs false
namespace Go.Proofs.YtaadmoaanhdboaaDoor
open Go Go.Proofs Go.Sep
theorem bytes_ext {x y : ByteArray} (h : x.data.toList = y.data.toList) : x = y := by
 cases x; cases y; simp at h; subst h; rfl
theorem bytes_app (x y : ByteArray) : (x ++ y).data.toList = x.data.toList ++ y.data.toList := by
 rw [ByteArray.data_append, Array.toList_append]
theorem str_one (z : Int) (h0 : 0 ≤ z) (h1 : z < 256) : strOf [IntKind.wrap .u8 z] = ⟨#[UInt8.ofNat z.toNat]⟩ := by
 have : IntKind.wrap .u8 z = z := by simp [IntKind.wrap, IntKind.bits, IntKind.signed]; omega
 rw [this]
 rfl
theorem tmod10 (n : Int) : n.tmod 10 = if 0 ≤ n then ((n.natAbs % 10 : Nat) : Int) else -((n.natAbs % 10 : Nat) : Int) := by
 obtain ⟨m, rfl | rfl⟩ := Int.eq_nat_or_neg n
 ·rw [if_pos (by omega), Int.natAbs_natCast]; exact (Int.ofNat_tmod m 10).symm
 ·rw [Int.natAbs_neg, Int.natAbs_natCast, Int.neg_tmod]
  have : (m : Int).tmod 10 = ((m % 10 : Nat) : Int) := (Int.ofNat_tmod m 10).symm
  rw [this]
  split
  ·omega
  ·rfl
theorem digit_neg (n : Int) (hn : n.tmod 10 < 0) : strOf ([(IntKind.wrap .u8 (w64 (48 + (w64 (-(n.tmod 10))))))] : (List Int)) = ⟨#[UInt8.ofNat (48 + n.natAbs % 10)]⟩ := by
 have h1 := tmod10 n
 have h3 : n.tmod 10 = -((n.natAbs % 10 : Nat) : Int) := by
  split at h1 <;> omega
 have h2 : n.natAbs % 10 < 10 := Nat.mod_lt _ (by decide)
 rw [h3, w64_eq (x := - -((n.natAbs % 10 : Nat) : Int)) (by omega) (by omega), w64_eq (by omega) (by omega), str_one _ (by omega) (by omega), show (48 + - -((n.natAbs % 10 : Nat) : Int)).toNat = 48 + n.natAbs % 10 by omega]
theorem digit_pos (n : Int) (hn : ¬ n.tmod 10 < 0) : strOf ([(IntKind.wrap .u8 (w64 (48 + (n.tmod 10))))] : (List Int)) = ⟨#[UInt8.ofNat (48 + n.natAbs % 10)]⟩ := by
 have h1 := tmod10 n
 have h3 : n.tmod 10 = ((n.natAbs % 10 : Nat) : Int) := by
  split at h1 <;> omega
 have h2 : n.natAbs % 10 < 10 := Nat.mod_lt _ (by decide)
 rw [h3, w64_eq (by omega) (by omega), str_one _ (by omega) (by omega), show (48 + ((n.natAbs % 10 : Nat) : Int)).toNat = 48 + n.natAbs % 10 by omega]
def digs (m : Nat) : List UInt8 := if m = 0 then [] else Go.Lib.decDigits m
theorem digs_step (m : Nat) (h : m ≠ 0) : digs m = digs (m / 10) ++ [UInt8.ofNat (48 + m % 10)] := by
 unfold digs
 rw [if_neg h, Go.Lib.decDigits]
 by_cases h1 : m < 10
 ·rw [dif_pos h1, if_pos (by omega), Nat.mod_eq_of_lt h1]; rfl
 ·rw [dif_neg h1, if_neg (by omega)]
theorem int_loop : ∀ (j f : Nat) (n : Int) (acc : ByteArray), j < f → n.natAbs < 10 ^ j → -9223372036854775808 ≤ n → n ≤ 9223372036854775807 → acc.size + j ≤ 1000 →
  whileF (R := ByteArray) (fun (⟨n0z, out3⟩ : Int × ByteArray) => cond (decide (n0z ≠ 0)) (cond (decide ((n0z.tmod 10) < 0)) ((catS (strOf ([(IntKind.wrap .u8 (w64 (48 + (w64 (-(n0z.tmod 10))))))] : (List Int))) out3).bind fun cat_5 => some (.next ((w64 (n0z.tdiv 10)), cat_5))) ((catS (strOf ([(IntKind.wrap .u8 (w64 (48 + (n0z.tmod 10))))] : (List Int))) out3).bind fun cat_7 => some (.next ((w64 (n0z.tdiv 10)), cat_7)))) (some (.brk (n0z, out3)))) f (n, acc) = some (.inl (0, ⟨(digs n.natAbs).toArray⟩ ++ acc))
 | j, f + 1, n, acc, hj, hm, h0, h1, ha => by
  unfold whileF
  by_cases hn : n = 0
  ·subst hn
   simp only [ne_eq, not_true_eq_false, decide_false, cond_false, Option.bind_some]
   have e : (⟨(digs (Int.natAbs 0)).toArray⟩ : ByteArray) ++ acc = acc := bytes_ext (by rw [bytes_app]; rfl)
   rw [e]
  ·have hj0 : 0 < j := by
    rcases j with _ | j
    ·simp at hm; omega
    ·omega
   obtain ⟨j, rfl⟩ : ∃ i, j = i + 1 := ⟨j - 1, by omega⟩
   have hq : (n.tdiv 10).natAbs = n.natAbs / 10 := by rw [Int.natAbs_tdiv]; rfl
   have hb0 : -9223372036854775808 ≤ n.tdiv 10 ∧ n.tdiv 10 ≤ 9223372036854775807 := by omega
   have key : ∀ s : ByteArray, s = ⟨#[UInt8.ofNat (48 + n.natAbs % 10)]⟩ → (catS s acc).bind (fun c => some (Ctl.next (R := ByteArray) ((w64 (n.tdiv 10)), c))) = some (.next (n.tdiv 10, s ++ acc)) := fun s hs => by
    have hz : s.size = 1 := by subst hs; rfl
    rw [catS_ok (by rw [hz]; omega), w64_eq hb0.1 hb0.2]; rfl
   have end_ : ∀ s : ByteArray, s = ⟨#[UInt8.ofNat (48 + n.natAbs % 10)]⟩ → (⟨(digs (n.tdiv 10).natAbs).toArray⟩ : ByteArray) ++ (s ++ acc) = ⟨(digs n.natAbs).toArray⟩ ++ acc := fun s hs => by
    refine bytes_ext ?_
    rw [bytes_app, bytes_app, bytes_app, digs_step n.natAbs (by omega), hq, hs]
    simp
   have ih := fun s (hs : s = (⟨#[UInt8.ofNat (48 + n.natAbs % 10)]⟩ : ByteArray)) => int_loop j f (n.tdiv 10) (s ++ acc) (by omega) (by rw [hq]; rw [Nat.pow_succ] at hm; omega) hb0.1 hb0.2 (by
    rw [ByteArray.size_append, hs]
    show 1 + acc.size + j ≤ 1000
    omega)
   simp only [ne_eq, hn, not_false_eq_true, decide_true, cond_true]
   by_cases hd : n.tmod 10 < 0
   ·have e := digit_neg n hd
    simp only [hd, decide_true, cond_true]
    rw [key _ e]
    simp only [Option.bind_some]
    rw [ih _ e, end_ _ e]
   ·have e := digit_pos n hd
    simp only [hd, decide_false, cond_false]
    rw [key _ e]
    simp only [Option.bind_some]
    rw [ih _ e, end_ _ e]
def itoaB (n : Int) : ByteArray := ⟨(Go.Lib.itoa n).toArray⟩
theorem impl_FormatInt_eq (n : Int) (h0 : -9223372036854775808 ≤ n) (h1 : n ≤ 9223372036854775807) : m_impl_FormatInt n = some (itoaB n) := by
 unfold m_impl_FormatInt m_strconv_Itoa
 rw [if_pos ⟨h0, h1⟩]; rfl
theorem itoaB_size (n : Int) (h0 : -9223372036854775808 ≤ n) (h1 : n ≤ 9223372036854775807) : (itoaB n).size ≤ 21 := by
 have := Go.Lib.itoa_length_le n h0 h1
 show (Go.Lib.itoa n).toArray.size ≤ 21
 simpa using this
theorem spec_FormatInt_eq (n : Int) (h0 : -9223372036854775808 ≤ n) (h1 : n ≤ 9223372036854775807) : m_spec_FormatInt 1048578 n = some (itoaB n) := by
 unfold m_spec_FormatInt itoaB Go.Lib.itoa
 by_cases hn : n = 0
 ·subst hn
  simp only [decide_true, cond_true]
  rw [if_neg (by omega)]
  congr 2
  rw [show (0 : Int).toNat = 0 from rfl, Go.Lib.decDigits, dif_pos (by decide)]
  rfl
 ·simp only [hn, decide_false, cond_false]
  rw [int_loop 19 1048578 n _ (by omega) (by omega) h0 h1 (by decide)]
  simp only [Option.bind_some, onS]
  have hm : n.natAbs ≠ 0 := by omega
  by_cases hs : n < 0
  ·simp only [hs, decide_true, cond_true]
   have hd : (digs n.natAbs).length ≤ 21 := by
    have := Go.Lib.itoa_length_le n h0 h1
    unfold Go.Lib.itoa at this
    rw [if_pos hs] at this
    unfold digs; rw [if_neg hm]
    simp at this; omega
   rw [catS_ok (by
    rw [ByteArray.size_append]
    show 1 + ((digs n.natAbs).toArray.size + 0) ≤ _
    simp; omega)]
   simp only [Option.bind_some, if_true]
   congr 1
   refine bytes_ext ?_
   rw [bytes_app, bytes_app]
   unfold digs; rw [if_neg hm]
   simp
  ·simp only [hs, decide_false, cond_false, if_false]
   congr 1
   refine bytes_ext ?_
   rw [bytes_app]
   unfold digs; rw [if_neg hm, show n.natAbs = n.toNat by omega]
   simp
end Go.Proofs.YtaadmoaanhdboaaDoor
set_option linter.unusedVariables false
set_option linter.unusedSimpArgs false
namespace Go.Proofs.YtaadmoaanhdboaaDoor
open Go Go.Proofs Go.Sep
theorem frac_cat (x y : ByteArray) (hx : x.size ≤ 21) (hy : y.size ≤ 21) : (catS x (⟨#[47]⟩ : ByteArray)).bind (fun c => (catS c y).bind fun d => some d) = some (x ++ (⟨#[47]⟩ : ByteArray) ++ y) := by
 have e3 : (⟨#[47]⟩ : ByteArray).size = 1 := rfl
 generalize (⟨#[47]⟩ : ByteArray) = z at e3 ⊢
 rw [catS_ok (by omega), Option.bind_some, catS_ok (by rw [ByteArray.size_append]; omega), Option.bind_some]
theorem spec_frac (u : Nat) (hu : ∀ n : Int, -9223372036854775808 ≤ n → n ≤ 9223372036854775807 → m_spec_FormatInt u n = some (itoaB n)) (a : Fraction) (ha : RdFraction a) : m_spec_FormatFraction u a = some (itoaB a.numerator ++ (⟨#[47]⟩ : ByteArray) ++ itoaB a.denominator) := by
 have h := frac_cat _ _ (itoaB_size _ ha.1.1 ha.1.2) (itoaB_size _ ha.2.1 ha.2.2)
 rw [← h]
 unfold m_spec_FormatFraction
 rw [hu _ ha.1.1 ha.1.2, hu _ ha.2.1 ha.2.2, Option.bind_some]
 congr 1
theorem impl_frac (a : Fraction) (ha : RdFraction a) : m_impl_FormatFraction a = some (itoaB a.numerator ++ (⟨#[47]⟩ : ByteArray) ++ itoaB a.denominator) := by
 have h := frac_cat _ _ (itoaB_size _ ha.1.1 ha.1.2) (itoaB_size _ ha.2.1 ha.2.2)
 rw [← h]
 unfold m_impl_FormatFraction
 rw [impl_FormatInt_eq _ ha.1.1 ha.1.2, impl_FormatInt_eq _ ha.2.1 ha.2.2, Option.bind_some]
 congr 1
theorem fraction_gen (u : Nat) (hu : ∀ n : Int, -9223372036854775808 ≤ n → n ≤ 9223372036854775807 → m_spec_FormatInt u n = some (itoaB n)) (a : Fraction) (ha : RdFraction a) : m_laws_FnExactFormatFraction u a = some true := by
 unfold m_laws_FnExactFormatFraction m_laws_toFraction
 rw [Option.bind_some, spec_frac u hu a ha, Option.bind_some, Option.bind_some, impl_frac a ha, Option.bind_some, decide_eq_false (fun h => h rfl)]
 rfl
theorem law_FormatFraction (a : Fraction) (ha : RdFraction a) : m_laws_FnExactFormatFraction 1048578 a = some true := fraction_gen _ spec_FormatInt_eq a ha
end Go.Proofs.YtaadmoaanhdboaaDoor

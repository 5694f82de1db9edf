import Derived.Test.YtaadmoaanhdboaaDoorM0
import Derived.Test.YtaadmoaanhdboaaDoorCRC
import Derived.Lib.ItoaLen
set_option linter.unusedVariables false
set_option linter.unusedSimpArgs false
namespace Go.Proofs.YtaadmoaanhdboaaDoor
open Go Go.Proofs Go.Sep
theorem bytes_ext {x y : ByteArray} (h : x.data.toList = y.data.toList) : x = y := by
 cases x; cases y; simp at h; subst h; rfl
theorem bytes_app (x y : ByteArray) : (x ++ y).data.toList = x.data.toList ++ y.data.toList := by
 rw [ByteArray.data_append, Array.toList_append]
theorem str_one (z : Int) (h0 : 0 ≤ z) (h1 : z < 256) : strOf [IntKind.wrap .u8 z] = ⟨#[UInt8.ofNat z.toNat]⟩ := by
 have : IntKind.wrap .u8 z = z := by simp [IntKind.wrap, IntKind.bits, IntKind.signed]; omega
 rw [this]
 rfl
theorem tmod10 (n : Int) : n.tmod 10 = if 0 ≤ n then ((n.natAbs % 10 : Nat) : Int) else -((n.natAbs % 10 : Nat) : Int) := by
 obtain ⟨m, rfl | rfl⟩ := Int.eq_nat_or_neg n
 ·rw [if_pos (by omega), Int.natAbs_natCast]; exact (Int.ofNat_tmod m 10).symm
 ·rw [Int.natAbs_neg, Int.natAbs_natCast, Int.neg_tmod]
  have : (m : Int).tmod 10 = ((m % 10 : Nat) : Int) := (Int.ofNat_tmod m 10).symm
  rw [this]
  split
  ·omega
  ·rfl
theorem digit_neg (n : Int) (hn : n.tmod 10 < 0) : strOf ([(IntKind.wrap .u8 (w64 (48 + (w64 (-(n.tmod 10))))))] : (List Int)) = ⟨#[UInt8.ofNat (48 + n.natAbs % 10)]⟩ := by
 have h1 := tmod10 n
 have h3 : n.tmod 10 = -((n.natAbs % 10 : Nat) : Int) := by
  split at h1 <;> omega
 have h2 : n.natAbs % 10 < 10 := Nat.mod_lt _ (by decide)
 rw [h3, w64_eq (x := - -((n.natAbs % 10 : Nat) : Int)) (by omega) (by omega), w64_eq (by omega) (by omega), str_one _ (by omega) (by omega), show (48 + - -((n.natAbs % 10 : Nat) : Int)).toNat = 48 + n.natAbs % 10 by omega]
theorem digit_pos (n : Int) (hn : ¬ n.tmod 10 < 0) : strOf ([(IntKind.wrap .u8 (w64 (48 + (n.tmod 10))))] : (List Int)) = ⟨#[UInt8.ofNat (48 + n.natAbs % 10)]⟩ := by
 have h1 := tmod10 n
 have h3 : n.tmod 10 = ((n.natAbs % 10 : Nat) : Int) := by
  split at h1 <;> omega
 have h2 : n.natAbs % 10 < 10 := Nat.mod_lt _ (by decide)
 rw [h3, w64_eq (by omega) (by omega), str_one _ (by omega) (by omega), show (48 + ((n.natAbs % 10 : Nat) : Int)).toNat = 48 + n.natAbs % 10 by omega]
def digs (m : Nat) : List UInt8 := if m = 0 then [] else Go.Lib.decDigits m
theorem digs_step (m : Nat) (h : m ≠ 0) : digs m = digs (m / 10) ++ [UInt8.ofNat (48 + m % 10)] := by
 unfold digs
 rw [if_neg h, Go.Lib.decDigits]
 by_cases h1 : m < 10
 ·rw [dif_pos h1, if_pos (by omega), Nat.mod_eq_of_lt h1]; rfl
 ·rw [dif_neg h1, if_neg (by omega)]
theorem int_loop : ∀ (j f : Nat) (n : Int) (acc : ByteArray), j < f → n.natAbs < 10 ^ j → -9223372036854775808 ≤ n → n ≤ 9223372036854775807 → acc.size + j ≤ 1000 →
  whileF (R := ByteArray) (fun (⟨n0z, out3⟩ : Int × ByteArray) => cond (decide (n0z ≠ 0)) (cond (decide ((n0z.tmod 10) < 0)) ((catS (strOf ([(IntKind.wrap .u8 (w64 (48 + (w64 (-(n0z.tmod 10))))))] : (List Int))) out3).bind fun cat_5 => some (.next ((w64 (n0z.tdiv 10)), cat_5))) ((catS (strOf ([(IntKind.wrap .u8 (w64 (48 + (n0z.tmod 10))))] : (List Int))) out3).bind fun cat_7 => some (.next ((w64 (n0z.tdiv 10)), cat_7)))) (some (.brk (n0z, out3)))) f (n, acc) = some (.inl (0, ⟨(digs n.natAbs).toArray⟩ ++ acc))
 | j, f + 1, n, acc, hj, hm, h0, h1, ha => by
  unfold whileF
  by_cases hn : n = 0
  ·subst hn
   simp only [ne_eq, not_true_eq_false, decide_false, cond_false, Option.bind_some]
   have e : (⟨(digs (Int.natAbs 0)).toArray⟩ : ByteArray) ++ acc = acc := bytes_ext (by rw [bytes_app]; rfl)
   rw [e]
  ·have hj0 : 0 < j := by
    rcases j with _ | j
    ·simp at hm; omega
    ·omega
   obtain ⟨j, rfl⟩ : ∃ i, j = i + 1 := ⟨j - 1, by omega⟩
   have hq : (n.tdiv 10).natAbs = n.natAbs / 10 := by rw [Int.natAbs_tdiv]; rfl
   have hb0 : -9223372036854775808 ≤ n.tdiv 10 ∧ n.tdiv 10 ≤ 9223372036854775807 := by omega
   have key : ∀ s : ByteArray, s = ⟨#[UInt8.ofNat (48 + n.natAbs % 10)]⟩ → (catS s acc).bind (fun c => some (Ctl.next (R := ByteArray) ((w64 (n.tdiv 10)), c))) = some (.next (n.tdiv 10, s ++ acc)) := fun s hs => by
    have hz : s.size = 1 := by subst hs; rfl
    rw [catS_ok (by rw [hz]; omega), w64_eq hb0.1 hb0.2]; rfl
   have end_ : ∀ s : ByteArray, s = ⟨#[UInt8.ofNat (48 + n.natAbs % 10)]⟩ → (⟨(digs (n.tdiv 10).natAbs).toArray⟩ : ByteArray) ++ (s ++ acc) = ⟨(digs n.natAbs).toArray⟩ ++ acc := fun s hs => by
    refine bytes_ext ?_
    rw [bytes_app, bytes_app, bytes_app, digs_step n.natAbs (by omega), hq, hs]
    simp
   have ih := fun s (hs : s = (⟨#[UInt8.ofNat (48 + n.natAbs % 10)]⟩ : ByteArray)) => int_loop j f (n.tdiv 10) (s ++ acc) (by omega) (by rw [hq]; rw [Nat.pow_succ] at hm; omega) hb0.1 hb0.2 (by
    rw [ByteArray.size_append, hs]
    show 1 + acc.size + j ≤ 1000
    omega)
   simp only [ne_eq, hn, not_false_eq_true, decide_true, cond_true]
   by_cases hd : n.tmod 10 < 0
   ·have e := digit_neg n hd
    simp only [hd, decide_true, cond_true]
    rw [key _ e]
    simp only [Option.bind_some]
    rw [ih _ e, end_ _ e]
   ·have e := digit_pos n hd
    simp only [hd, decide_false, cond_false]
    rw [key _ e]
    simp only [Option.bind_some]
    rw [ih _ e, end_ _ e]
def itoaB (n : Int) : ByteArray := ⟨(Go.Lib.itoa n).toArray⟩
theorem impl_FormatInt_eq (n : Int) (h0 : -9223372036854775808 ≤ n) (h1 : n ≤ 9223372036854775807) : m_impl_FormatInt n = some (itoaB n) := by
 unfold m_impl_FormatInt m_strconv_Itoa
 rw [if_pos ⟨h0, h1⟩]; rfl
theorem spec_FormatInt_eq (n : Int) (h0 : -9223372036854775808 ≤ n) (h1 : n ≤ 9223372036854775807) : m_spec_FormatInt 1048578 n = some (itoaB n) := by
 unfold m_spec_FormatInt itoaB Go.Lib.itoa
 by_cases hn : n = 0
 ·subst hn
  simp only [decide_true, cond_true]
  rw [if_neg (by omega)]
  congr 2
  rw [show (0 : Int).toNat = 0 from rfl, Go.Lib.decDigits, dif_pos (by decide)]
  rfl
 ·simp only [hn, decide_false, cond_false]
  rw [int_loop 19 1048578 n _ (by omega) (by omega) h0 h1 (by decide)]
  simp only [Option.bind_some, onS]
  have hm : n.natAbs ≠ 0 := by omega
  by_cases hs : n < 0
  ·simp only [hs, decide_true, cond_true]
   have hd : (digs n.natAbs).length ≤ 21 := by
    have := Go.Lib.itoa_length_le n h0 h1
    unfold Go.Lib.itoa at this
    rw [if_pos hs] at this
    unfold digs; rw [if_neg hm]
    simp at this; omega
   rw [catS_ok (by
    rw [ByteArray.size_append]
    show 1 + ((digs n.natAbs).toArray.size + 0) ≤ _
    simp; omega)]
   simp only [Option.bind_some, if_true]
   congr 1
   refine bytes_ext ?_
   rw [bytes_app, bytes_app]
   unfold digs; rw [if_neg hm]
   simp
  ·simp only [hs, decide_false, cond_false, if_false]
   congr 1
   refine bytes_ext ?_
   rw [bytes_app]
   unfold digs; rw [if_neg hm, show n.natAbs = n.toNat by omega]
   simp
end Go.Proofs.YtaadmoaanhdboaaDoor
set_option linter.unusedVariables false
set_option linter.unusedSimpArgs false
namespace Go.Proofs.YtaadmoaanhdboaaDoor
open Go Go.Proofs Go.Sep
theorem szIntS_b (a : List Int) (hl : a.length ≤ 9223372036854775807) (left : Int) (h0 : 0 ≤ left) (h1 : left ≤ 1048576) : ∃ r, m_laws_szIntS a left = some r ∧ (r = -1 ∨ (0 ≤ r ∧ r ≤ left ∧ a.length ≤ 1048576)) := by
 unfold m_laws_szIntS
 rw [w64_id (by omega)]
 by_cases h : left < a.length
 ·rw [cond_T' (by simp; omega)]; exact ⟨_, rfl, .inl rfl⟩
 ·rw [cond_F' (by simp; omega)]; exact ⟨_, rfl, .inr ⟨by omega, by omega, by omega⟩⟩
theorem toIntS_id (a : List Int) (hl : a.length ≤ 1048576) : m_laws_toIntS a = some a := by
 unfold m_laws_toIntS
 rw [mk_ok (by omega) (by omega), Option.bind_some, forS_fill (fun x => x) (by simp) fun n x zs hx hz => ?_]
 ·simp
 ·have hn : n < zs.length := by have := (List.getElem?_eq_some_iff.1 hx).1; omega
  rw [getI_lt hn]; simp
theorem eqIntS_self (a : List Int) : m_laws_eqIntS a a = some true := by
 unfold m_laws_eqIntS
 rw [cond_F' (by simp)]
 obtain ⟨o, h1, h2⟩ := forL_ok (xs := a) (s := ()) (f := fun (i_2 : Int) (x_i_2 : Int) (_ : Unit) => (getI a (i_2 : Int)).bind fun v_4 => cond (decide (x_i_2 ≠ v_4)) (some (.ret false)) (some (.next ())))
  (fun _ _ => True) (fun _ => False) (fun (_ : Bool) => False) trivial fun n x s hx _ => by
   rw [getI_nat, hx, Option.bind_some, cond_F' (by simp)]
   exact ⟨_, rfl, trivial⟩
 rw [h1, Option.bind_some]
 rcases o with s | r
 ·rfl
 ·exact h2.elim
def RowsM (l : List (List Int)) : Prop := l.length ≤ 9223372036854775807 ∧ ∀ r ∈ l, r.length ≤ 9223372036854775807
def RowsS (l : List (List Int)) : Prop := l.length ≤ 1048576 ∧ ∀ r ∈ l, r.length ≤ 1048576
theorem szIntSS_b (a : List (List Int)) (ha : RowsM a) (left : Int) (h0 : 0 ≤ left) (h1 : left ≤ 1048576) : ∃ r, m_laws_szIntSS a left = some r ∧ (r = -1 ∨ (0 ≤ r ∧ r ≤ left ∧ RowsS a)) := by
 obtain ⟨r1, h2, h3⟩ := sz_loop (fun l : List Int => l.length ≤ 1048576) (a := a) (fun x hx l => szIntS_b x (ha.2 x hx) l) h0 h1 ha.1
 refine ⟨r1, h2, ?_⟩
 rcases h3 with h3 | ⟨h3, h4, h5⟩
 ·exact .inl h3
 ·exact .inr ⟨h3, by omega, by omega, h5⟩
theorem toIntSS_id (a : List (List Int)) (ha : RowsS a) : m_laws_toIntSS a = some a := by
 have := to_loop (b := 24) (z := ([] : List Int)) (g := m_laws_toIntS) (fun x => x) (a := a) (fun x hx => toIntS_id x (ha.2 x hx)) ha.1 (by omega)
 rw [List.map_id'] at this; exact this
theorem eqIntSS_self (a : List (List Int)) : m_laws_eqIntSS a a = some true := eq_loop (fun x _ => eqIntS_self x)
end Go.Proofs.YtaadmoaanhdboaaDoor
set_option linter.unusedVariables false
set_option linter.unusedSimpArgs false
namespace Go.Proofs.YtaadmoaanhdboaaDoor
open Go Go.Proofs Go.Sep
def pcs {α : Type} (sep : UInt8) (g : α → List UInt8) : Nat → List α → List UInt8
 | _, [] => []
 | k, x :: xs => (if k = 0 then [] else [sep]) ++ g x ++ pcs sep g (k + 1) xs
theorem pcs_tail {α : Type} (sep : UInt8) (g : α → List UInt8) : ∀ (xs : List α) (k : Nat), k ≠ 0 → pcs sep g k xs = Go.Lib.joinTail [sep] (xs.map g)
 | [], _, _ => rfl
 | x :: xs, k, hk => by
  unfold pcs
  rw [if_neg hk, pcs_tail sep g xs (k + 1) (by omega)]
  simp [Go.Lib.joinTail]
theorem pcs_join {α : Type} (sep : UInt8) (g : α → List UInt8) (xs : List α) : pcs sep g 0 xs = Go.Lib.join (xs.map g) [sep] := by
 cases xs with
 | nil => rfl
 | cons x xs =>
  unfold pcs
  rw [if_pos rfl, pcs_tail sep g xs 1 (by omega), List.map_cons, Go.Lib.join_cons]
  rfl
theorem pcs_len {α : Type} (sep : UInt8) (g : α → List UInt8) (L : Nat) : ∀ (xs : List α) (k : Nat), (∀ x ∈ xs, (g x).length ≤ L) → (pcs sep g k xs).length ≤ xs.length * (L + 1)
 | [], _, _ => by simp [pcs]
 | x :: xs, k, h => by
  have ih := pcs_len sep g L xs (k + 1) fun y hy => h y (List.mem_cons_of_mem _ hy)
  have h1 := h x (List.mem_cons_self ..)
  unfold pcs
  simp only [List.length_append, List.length_cons]
  rw [Nat.add_mul]
  split <;> simp <;> omega
def I64 (n : Int) : Prop := -9223372036854775808 ≤ n ∧ n ≤ 9223372036854775807
def bs (l : List UInt8) : ByteArray := ⟨l.toArray⟩
theorem bs_size (l : List UInt8) : (bs l).size = l.length := by show l.toArray.size = _; simp
theorem bs_app (x y : List UInt8) : bs x ++ bs y = bs (x ++ y) := bytes_ext (by rw [bytes_app]; simp [bs])
theorem cat_bs (x y : List UInt8) (h : x.length + y.length ≤ 9223372036854775807) : catS (bs x) (bs y) = some (bs (x ++ y)) := by
 rw [catS_ok (by rw [bs_size, bs_size]; exact h), bs_app]
theorem cat_c (x : List UInt8) (c : UInt8) (h : x.length + 1 ≤ 9223372036854775807) : catS (bs x) (⟨#[c]⟩ : ByteArray) = some (bs (x ++ [c])) := cat_bs x [c] h
theorem itoa_len (n : Int) (h : I64 n) : (Go.Lib.itoa n).length ≤ 21 := Go.Lib.itoa_length_le n h.1 h.2
theorem app_map {α : Type} (f : α → Option ByteArray) (g : α → ByteArray) : ∀ (xs : List α) (i : Int) (acc : List ByteArray), (∀ x ∈ xs, f x = some (g x)) → (acc.length + xs.length) * 16 ≤ 140737488355328 →
  forS (fun (_ : Int) (x : α) (out : List ByteArray) => (f x).bind fun r => (app 16 out ([r] : List ByteArray)).bind fun us => some us) xs i acc = some (acc ++ xs.map g)
 | [], i, acc, _, _ => by simp [forS]
 | x :: xs, i, acc, h, hb => by
  unfold forS
  simp only [List.length_cons] at hb
  rw [h x (List.mem_cons_self ..), Option.bind_some, app_ok (by simp only [List.length_cons, List.length_nil]; omega), Option.bind_some, Option.bind_some, app_map f g xs (i + 1) _ (fun y hy => h y (List.mem_cons_of_mem _ hy)) (by simp only [List.length_append, List.length_cons, List.length_nil]; omega)]
  simp
def rowL (r : List Int) : List UInt8 := [40] ++ Go.Lib.join (r.map Go.Lib.itoa) [44] ++ [41]
theorem join_row_len (r : List Int) (hr : r.length ≤ 1048576) (hi : ∀ n ∈ r, I64 n) : (Go.Lib.join (r.map Go.Lib.itoa) [44]).length ≤ 23068672 := by
 rw [← pcs_join]
 have := pcs_len 44 Go.Lib.itoa 21 r 0 fun n hn => itoa_len n (hi n hn)
 omega
theorem rowL_len (r : List Int) (hr : r.length ≤ 1048576) (hi : ∀ n ∈ r, I64 n) : (rowL r).length ≤ 23068674 := by
 have := join_row_len r hr hi
 unfold rowL
 simp only [List.length_append, List.length_cons, List.length_nil]; omega
theorem data_itoaB (r : List Int) : (r.map itoaB).map (·.data.toList) = r.map Go.Lib.itoa := by
 rw [List.map_map]
 refine List.map_congr_left fun n _ => ?_
 simp [itoaB]
theorem join_eq (s : List ByteArray) (sep : UInt8) (h1 : s.length ≤ 140737488355328) (h2 : (Go.Lib.join (s.map (·.data.toList)) [sep]).length ≤ 140737488355328) : m_strings_Join s (⟨#[sep]⟩ : ByteArray) = some (bs (Go.Lib.join (s.map (·.data.toList)) [sep])) := by
 unfold m_strings_Join
 exact if_pos ⟨h1, h2⟩
theorem map_bs (rows : List (List Int)) : (rows.map fun r => bs (rowL r)).map (·.data.toList) = rows.map rowL := by
 rw [List.map_map]
 refine List.map_congr_left fun n _ => ?_
 simp [bs]
theorem rows_len (rows : List (List Int)) (hr : RowsS rows) (hi : ∀ r ∈ rows, ∀ n ∈ r, I64 n) (k : Nat) : (pcs 32 rowL k rows).length ≤ 24189259776000 := by
 have h := pcs_len 32 rowL 23068674 rows k fun r h => rowL_len r (hr.2 r h) (hi r h)
 have := hr.1
 omega
theorem impl_FormatRows_eq (rows : List (List Int)) (hr : RowsS rows) (hi : ∀ r ∈ rows, ∀ n ∈ r, I64 n) : m_impl_FormatRows rows = some (bs (Go.Lib.join (rows.map rowL) [32])) := by
 have h0 := hr.1
 have hl := rows_len rows hr hi 0
 rw [pcs_join] at hl
 unfold m_impl_FormatRows
 have e := app_map (fun r : List Int => (forS (fun (t_3 : Int) (x_t_3 : Int) (values6 : (List ByteArray)) => (m_impl_FormatInt x_t_3).bind fun r_5 => (app 16 values6 ([r_5] : (List ByteArray))).bind fun us_7 => some us_7) r 0 ([] : (List ByteArray))).bind fun (values6 : (List ByteArray)) => (m_strings_Join values6 (⟨#[44]⟩ : ByteArray)).bind fun r_9 => (catS (⟨#[40]⟩ : ByteArray) r_9).bind fun cat_11 => (catS cat_11 (⟨#[41]⟩ : ByteArray))) (fun r => bs (rowL r)) rows 0 [] (fun r h => by
  have hl := join_row_len r (hr.2 r h) (hi r h)
  rw [app_map m_impl_FormatInt itoaB r 0 [] (fun n hn => impl_FormatInt_eq n (hi r h n hn).1 (hi r h n hn).2) (by simp only [List.length_nil]; have := hr.2 r h; omega), Option.bind_some, List.nil_append]
  have := hr.2 r h
  rw [join_eq _ _ (by rw [List.length_map]; omega) (by rw [data_itoaB]; omega), data_itoaB, Option.bind_some]
  rw [show (⟨#[40]⟩ : ByteArray) = bs [40] from rfl, show (⟨#[41]⟩ : ByteArray) = bs [41] from rfl, cat_bs _ _ (by simp only [List.length_cons, List.length_nil]; omega), Option.bind_some, cat_bs _ _ (by simp only [List.length_append, List.length_cons, List.length_nil]; omega)]
  rfl) (by simp only [List.length_nil]; omega)
 rw [List.nil_append] at e
 simp only [Option.bind_assoc] at e
 rw [e, Option.bind_some, join_eq _ _ (by rw [List.length_map]; omega) (by rw [map_bs]; omega), map_bs]
 rfl
theorem spec_row (u : Nat) (hu : ∀ n : Int, -9223372036854775808 ≤ n → n ≤ 9223372036854775807 → m_spec_FormatInt u n = some (itoaB n)) (r : List Int) (hr : r.length ≤ 1048576) (hi : ∀ n ∈ r, I64 n) : ∀ (d f k : Nat) (s : List UInt8), d < f → k + d = r.length → s.length + (pcs 44 Go.Lib.itoa k (r.drop k)).length ≤ 9223372036854775807 →
  whileF (R := ByteArray) (fun (⟨s3, k5⟩ : ByteArray × Int) => cond (decide (k5 < (r.length : Int))) (cond (decide (0 < k5)) ((catS s3 (⟨#[44]⟩ : ByteArray)).bind fun cat_11 => (getI r k5).bind fun v_13 => (m_spec_FormatInt u v_13).bind fun r_18 => (catS cat_11 r_18).bind fun cat_20 => some (.next (cat_20, (w64 (k5 + 1))))) ((getI r k5).bind fun v_22 => (m_spec_FormatInt u v_22).bind fun r_27 => (catS s3 r_27).bind fun cat_29 => some (.next (cat_29, (w64 (k5 + 1)))))) (some (.brk (s3, k5)))) f (bs s, (k : Int)) = some (.inl (bs (s ++ pcs 44 Go.Lib.itoa k (r.drop k)), (r.length : Int)))
 | 0, f + 1, k, s, _, hk, hb => by
  have hk : k = r.length := by omega
  subst hk
  unfold whileF
  simp only [Int.lt_irrefl, decide_false, cond_false, Option.bind_some, List.drop_length, pcs, List.append_nil]
 | d + 1, f + 1, k, s, hf, hk, hb => by
  have hkl : k < r.length := by omega
  have hc : r.drop k = r[k] :: r.drop (k + 1) := List.drop_eq_getElem_cons hkl
  rw [hc] at hb ⊢
  unfold pcs at hb ⊢
  have hn := hi r[k] (List.getElem_mem hkl)
  have hF := hu r[k] hn.1 hn.2
  have hw : w64 ((k : Int) + 1) = ((k + 1 : Nat) : Int) := by rw [w64_eq (by omega) (by omega)]; omega
  simp only [List.length_append] at hb
  unfold whileF
  simp only [show ((k : Int) < (r.length : Int)) = True from eq_true (by omega), decide_true, cond_true]
  by_cases h0 : k = 0
  ·subst h0
   simp only [if_true, List.nil_append] at hb ⊢
   rw [show decide ((0 : Int) < ((0 : Nat) : Int)) = false from rfl, cond_false, getI_lt hkl, Option.bind_some, hF, Option.bind_some, show itoaB r[0] = bs (Go.Lib.itoa r[0]) from rfl, cat_bs _ _ (by omega), Option.bind_some, Option.bind_some, hw]
   simp only
   rw [spec_row u hu r hr hi d f 1 _ (by omega) (by omega) (by simp only [List.length_append]; simp only [Nat.zero_add] at hb; omega)]
   simp only [List.append_assoc, Nat.zero_add]
  ·simp only [if_neg h0, List.length_cons, List.length_nil] at hb ⊢
   rw [show decide ((0 : Int) < (k : Int)) = true from decide_eq_true (by omega), cond_true, cat_c _ _ (by omega), Option.bind_some, getI_lt hkl, Option.bind_some, hF, Option.bind_some, show itoaB r[k] = bs (Go.Lib.itoa r[k]) from rfl, cat_bs _ _ (by simp only [List.length_append, List.length_cons, List.length_nil]; omega), Option.bind_some, Option.bind_some, hw]
   simp only
   rw [spec_row u hu r hr hi d f (k + 1) _ (by omega) (by omega) (by simp only [List.length_append, List.length_cons, List.length_nil]; omega)]
   simp only [List.append_assoc]
theorem bind_to {α β : Type} {x : Option α} {a : α} {f : α → Option β} {r : Option β} (h : x = some a) (k : f a = r) : x.bind f = r := by rw [h]; exact k
theorem spec_row0 (u : Nat) (hu : ∀ n : Int, -9223372036854775808 ≤ n → n ≤ 9223372036854775807 → m_spec_FormatInt u n = some (itoaB n)) (r : List Int) (hr : r.length ≤ 1048576) (hi : ∀ n ∈ r, I64 n) (f : Nat) (hf : r.length < f) (s : List UInt8) (hb : s.length ≤ 9223372000000000000) :
  whileF (R := ByteArray) (fun (⟨s3, k5⟩ : ByteArray × Int) => cond (decide (k5 < (r.length : Int))) (cond (decide (0 < k5)) ((catS s3 (⟨#[44]⟩ : ByteArray)).bind fun cat_11 => (getI r k5).bind fun v_13 => (m_spec_FormatInt u v_13).bind fun r_18 => (catS cat_11 r_18).bind fun cat_20 => some (.next (cat_20, (w64 (k5 + 1))))) ((getI r k5).bind fun v_22 => (m_spec_FormatInt u v_22).bind fun r_27 => (catS s3 r_27).bind fun cat_29 => some (.next (cat_29, (w64 (k5 + 1)))))) (some (.brk (s3, k5)))) f (bs s, 0) = some (.inl (bs (s ++ Go.Lib.join (r.map Go.Lib.itoa) [44]), (r.length : Int))) := by
 have hl := join_row_len r hr hi
 have h := spec_row u hu r hr hi r.length f 0 s hf (by omega) (by rw [List.drop_zero, pcs_join]; omega)
 rw [List.drop_zero, pcs_join] at h
 exact h
theorem end_row (c : ByteArray → Option ByteArray) (s : ByteArray) (k : Int) : onS (R := ByteArray) (Sum.inl (s, k)) (fun (⟨s3, k5⟩ : ByteArray × Int) => (c s3).bind fun cat => some cat) (fun r => none) = c s := by
 show (c s).bind some = c s
 cases c s <;> rfl
theorem spec_rows (u : Nat) (hu : ∀ n : Int, -9223372036854775808 ≤ n → n ≤ 9223372036854775807 → m_spec_FormatInt u n = some (itoaB n)) (hu2 : 1048576 < u) : ∀ (rows : List (List Int)) (k : Nat) (s : List UInt8), RowsS rows → (∀ r ∈ rows, ∀ n ∈ r, I64 n) → k + rows.length ≤ 1048576 → s.length + (pcs 32 rowL k rows).length ≤ 9223372000000000000 →
  forS (fun (i_1 : Int) (x_i_1 : (List Int)) (s3 : ByteArray) => cond (decide (0 < (i_1 : Int))) ((catS s3 (⟨#[32]⟩ : ByteArray)).bind fun cat_4 => (catS cat_4 (⟨#[40]⟩ : ByteArray)).bind fun cat_6 => (whileF (R := ByteArray) (fun (⟨s3, k5⟩ : ByteArray × Int) => cond (decide (k5 < (x_i_1.length : Int))) (cond (decide (0 < k5)) ((catS s3 (⟨#[44]⟩ : ByteArray)).bind fun cat_11 => (getI x_i_1 k5).bind fun v_13 => (m_spec_FormatInt u v_13).bind fun r_18 => (catS cat_11 r_18).bind fun cat_20 => some (.next (cat_20, (w64 (k5 + 1))))) ((getI x_i_1 k5).bind fun v_22 => (m_spec_FormatInt u v_22).bind fun r_27 => (catS s3 r_27).bind fun cat_29 => some (.next (cat_29, (w64 (k5 + 1)))))) (some (.brk (s3, k5)))) u (cat_6, 0)).bind fun O8_ => onS O8_ (fun (⟨s3, k5⟩ : ByteArray × Int) => (catS s3 (⟨#[41]⟩ : ByteArray)).bind fun cat_31 => some cat_31) (fun r => none)) ((catS s3 (⟨#[40]⟩ : ByteArray)).bind fun cat_33 => (whileF (R := ByteArray) (fun (⟨s3, k5⟩ : ByteArray × Int) => cond (decide (k5 < (x_i_1.length : Int))) (cond (decide (0 < k5)) ((catS s3 (⟨#[44]⟩ : ByteArray)).bind fun cat_38 => (getI x_i_1 k5).bind fun v_40 => (m_spec_FormatInt u v_40).bind fun r_45 => (catS cat_38 r_45).bind fun cat_47 => some (.next (cat_47, (w64 (k5 + 1))))) ((getI x_i_1 k5).bind fun v_49 => (m_spec_FormatInt u v_49).bind fun r_54 => (catS s3 r_54).bind fun cat_56 => some (.next (cat_56, (w64 (k5 + 1)))))) (some (.brk (s3, k5)))) u (cat_33, 0)).bind fun O35_ => onS O35_ (fun (⟨s3, k5⟩ : ByteArray × Int) => (catS s3 (⟨#[41]⟩ : ByteArray)).bind fun cat_58 => some cat_58) (fun r => none))) rows (k : Int) (bs s) = some (bs (s ++ pcs 32 rowL k rows))
 | [], k, s, _, _, _, _ => by simp [forS, pcs]
 | r :: rows, k, s, hr, hi, hk, hb => by
  have hr1 := hr.2 r (List.mem_cons_self ..)
  have hi1 := hi r (List.mem_cons_self ..)
  have hl := join_row_len r hr1 hi1
  simp only [List.length_cons] at hk
  unfold pcs at hb ⊢
  have hrl : (rowL r).length = (Go.Lib.join (r.map Go.Lib.itoa) [44]).length + 2 := by unfold rowL; simp only [List.length_append, List.length_cons, List.length_nil]; omega
  have ih := fun s' h => spec_rows u hu hu2 rows (k + 1) s' ⟨by have := hr.1; simp only [List.length_cons] at this; omega, fun x hx => hr.2 x (List.mem_cons_of_mem _ hx)⟩ (fun x hx => hi x (List.mem_cons_of_mem _ hx)) (by omega) h
  have hcast : ((k : Int) + 1) = ((k + 1 : Nat) : Int) := by omega
  unfold forS
  by_cases h0 : k = 0
  ·subst h0
   simp only [if_true, List.nil_append, List.length_append] at hb ⊢
   rw [show decide ((0 : Int) < ((0 : Nat) : Int)) = false from rfl, cond_false, cat_c _ _ (by omega), Option.bind_some, spec_row0 u hu r hr1 hi1 u (by omega) _ (by simp only [List.length_append, List.length_cons, List.length_nil]; omega), Option.bind_some]
   refine bind_to (a := bs (s ++  rowL r)) ?_ ?_
   ·refine (end_row (fun s3 => catS s3 (⟨#[41]⟩ : ByteArray)) _ _).trans ?_
    rw [cat_c _ _ (by simp only [List.length_append, List.length_cons, List.length_nil]; omega)]
    unfold rowL
    simp only [List.append_assoc]
   ·show forS _ rows ((((0 : Nat) : Int) : Int) + 1) (bs (s ++  rowL r)) = _
    rw [hcast]
    refine (ih _ (by simp only [List.length_append, List.length_cons, List.length_nil]; omega)).trans ?_
    simp only [List.append_assoc]
  ·simp only [if_neg h0, List.length_append, List.length_cons, List.length_nil] at hb ⊢
   rw [show decide ((0 : Int) < (k : Int)) = true from decide_eq_true (by omega), cond_true, cat_c _ _ (by omega), Option.bind_some, cat_c _ _ (by simp only [List.length_append, List.length_cons, List.length_nil]; omega), Option.bind_some, spec_row0 u hu r hr1 hi1 u (by omega) _ (by simp only [List.length_append, List.length_cons, List.length_nil]; omega), Option.bind_some]
   refine bind_to (a := bs (s ++ [32] ++ rowL r)) ?_ ?_
   ·refine (end_row (fun s3 => catS s3 (⟨#[41]⟩ : ByteArray)) _ _).trans ?_
    rw [cat_c _ _ (by simp only [List.length_append, List.length_cons, List.length_nil]; omega)]
    unfold rowL
    simp only [List.append_assoc]
   ·show forS _ rows (((k : Int) : Int) + 1) (bs (s ++ [32] ++ rowL r)) = _
    rw [hcast]
    refine (ih _ (by simp only [List.length_append, List.length_cons, List.length_nil]; omega)).trans ?_
    simp only [List.append_assoc]
theorem spec_FormatRows_eq (u : Nat) (hu : ∀ n : Int, -9223372036854775808 ≤ n → n ≤ 9223372036854775807 → m_spec_FormatInt u n = some (itoaB n)) (hu2 : 1048576 < u) (rows : List (List Int)) (hr : RowsS rows) (hi : ∀ r ∈ rows, ∀ n ∈ r, I64 n) : m_spec_FormatRows u rows = some (bs (Go.Lib.join (rows.map rowL) [32])) := by
 have hl := rows_len rows hr hi 0
 have h := spec_rows u hu hu2 rows 0 [] hr hi (by have := hr.1; omega) (by simp only [List.length_nil]; omega)
 rw [List.nil_append, pcs_join] at h
 unfold m_spec_FormatRows
 exact (congrArg (Option.bind · _) h).trans rfl
theorem rows_gen (u : Nat) (hu : ∀ n : Int, -9223372036854775808 ≤ n → n ≤ 9223372036854775807 → m_spec_FormatInt u n = some (itoaB n)) (hu2 : 1048576 < u) (a : List (List Int)) (ha : a.length ≤ 9223372036854775807 ∧ ∀ r ∈ a, r.length ≤ 9223372036854775807 ∧ ∀ n ∈ r, I64 n) : m_laws_FnExactFormatRows u a = some true := by
 obtain ⟨r, h1, h2⟩ := szIntSS_b a ⟨ha.1, fun r hr => (ha.2 r hr).1⟩ 1048576 (by omega) (by omega)
 unfold m_laws_FnExactFormatRows
 rw [h1, Option.bind_some]
 rcases h2 with rfl | ⟨h2, h3, h4⟩
 ·rfl
 ·have hi : ∀ r ∈ a, ∀ n ∈ r, I64 n := fun r hr => (ha.2 r hr).2
  rw [cond_F' (by simp; omega), toIntSS_id _ h4, Option.bind_some, spec_FormatRows_eq u hu hu2 a h4 hi, Option.bind_some, Option.bind_some, impl_FormatRows_eq a h4 hi, Option.bind_some, cond_F' (decide_eq_false fun h => h rfl), Option.bind_some, eqIntSS_self, Option.bind_some]
  rfl
theorem law_FormatRows (a : List (List Int)) (ha : a.length ≤ 9223372036854775807 ∧ ∀ r ∈ a, r.length ≤ 9223372036854775807 ∧ ∀ n ∈ r, I64 n) : m_laws_FnExactFormatRows 1048578 a = some true := rows_gen _ spec_FormatInt_eq (by omega) a ha
end Go.Proofs.YtaadmoaanhdboaaDoor

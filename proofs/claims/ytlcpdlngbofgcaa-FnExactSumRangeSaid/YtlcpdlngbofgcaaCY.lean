/- Loops of the models, by what holds round after round. -/
import Derived.Test.YtlcpdlngbofgcaaCX
set_option linter.unusedVariables false
set_option linter.unusedSimpArgs false
namespace Go.Sep
open Go
def CtlP {S R : Type} (I B : S → Prop) (Q : R → Prop) : Ctl S R → Prop
  | .next s => I s
  | .brk s => B s
  | .ret r => Q r
def SumP {S R : Type} (I : S → Prop) (Q : R → Prop) : S ⊕ R → Prop
  | .inl s => I s
  | .inr r => Q r
theorem forS_from {α S : Type} {f : Int → α → S → Option S} (I : Nat → S → Prop) {xs : List α} (h : ∀ (n : Nat) x s, xs[n]? = some x → I n s → ∃ s', f (n : Int) x s = some s' ∧ I (n + 1) s') : ∀ (k i : Nat) (s : S), i + k = xs.length → I i s → ∃ s', forS f (xs.drop i) (i : Int) s = some s' ∧ I xs.length s'
  | 0, i, s, hk, h0 => by
    rw [List.drop_eq_nil_of_le (by omega)]
    exact ⟨s, rfl, by rwa [← hk]⟩
  | k + 1, i, s, hk, h0 => by
    have hi : i < xs.length := by omega
    rw [List.drop_eq_getElem_cons hi]
    obtain ⟨s1, h1, h2⟩ := h i xs[i] s (List.getElem?_eq_getElem hi) h0
    obtain ⟨s2, h3, h4⟩ := forS_from I h k (i + 1) s1 (by omega) h2
    refine ⟨s2, ?_, h4⟩
    simp only [forS, h1, Option.bind_some]
    exact h3
theorem forS_ok {α S : Type} {f : Int → α → S → Option S} (I : Nat → S → Prop) {xs : List α} {s : S} (h0 : I 0 s) (h : ∀ (n : Nat) x s, xs[n]? = some x → I n s → ∃ s', f (n : Int) x s = some s' ∧ I (n + 1) s') : ∃ s', forS f xs 0 s = some s' ∧ I xs.length s' := by
  have := forS_from I h xs.length 0 s (by omega) h0
  simpa using this
theorem forL_from {α S R : Type} {f : Int → α → S → Option (Ctl S R)} (I : Nat → S → Prop) (B : S → Prop) (Q : R → Prop) {xs : List α} (h : ∀ (n : Nat) x s, xs[n]? = some x → I n s → ∃ c, f (n : Int) x s = some c ∧ CtlP (I (n + 1)) B Q c) : ∀ (k i : Nat) (s : S), i + k = xs.length → I i s → ∃ o, forL f (xs.drop i) (i : Int) s = some o ∧ SumP (fun s => I xs.length s ∨ B s) Q o
  | 0, i, s, hk, h0 => by
    rw [List.drop_eq_nil_of_le (by omega)]
    exact ⟨.inl s, rfl, .inl (by rwa [← hk])⟩
  | k + 1, i, s, hk, h0 => by
    have hi : i < xs.length := by omega
    rw [List.drop_eq_getElem_cons hi]
    obtain ⟨c, h1, h2⟩ := h i xs[i] s (List.getElem?_eq_getElem hi) h0
    simp only [forL, h1, Option.bind_some]
    cases c with
    | next s1 => exact forL_from I B Q h k (i + 1) s1 (by omega) h2
    | brk s1 => exact ⟨_, rfl, .inr h2⟩
    | ret r => exact ⟨_, rfl, h2⟩
theorem forL_ok {α S R : Type} {f : Int → α → S → Option (Ctl S R)} (I : Nat → S → Prop) (B : S → Prop) (Q : R → Prop) {xs : List α} {s : S} (h0 : I 0 s) (h : ∀ (n : Nat) x s, xs[n]? = some x → I n s → ∃ c, f (n : Int) x s = some c ∧ CtlP (I (n + 1)) B Q c) : ∃ o, forL f xs 0 s = some o ∧ SumP (fun s => I xs.length s ∨ B s) Q o := by
  have := forL_from I B Q h xs.length 0 s (by omega) h0
  simpa using this
theorem forM_from {S : Type} {f : Int → S → Option S} (I : Nat → S → Prop) {m : Nat} (h : ∀ (n : Nat) s, n < m → I n s → ∃ s', f (n : Int) s = some s' ∧ I (n + 1) s') : ∀ (k i : Nat) (s : S), i + k = m → I i s → ∃ s', forM f k (i : Int) s = some s' ∧ I m s'
  | 0, i, s, hk, h0 => ⟨s, rfl, by rwa [← hk]⟩
  | k + 1, i, s, hk, h0 => by
    obtain ⟨s1, h1, h2⟩ := h i s (by omega) h0
    obtain ⟨s2, h3, h4⟩ := forM_from I h k (i + 1) s1 (by omega) h2
    refine ⟨s2, ?_, h4⟩
    simp only [forM, h1, Option.bind_some]
    exact h3
theorem forM_ok {S : Type} {f : Int → S → Option S} (I : Nat → S → Prop) {m : Nat} {s : S} (h0 : I 0 s) (h : ∀ (n : Nat) s, n < m → I n s → ∃ s', f (n : Int) s = some s' ∧ I (n + 1) s') : ∃ s', forM f ((m : Int) - 0).toNat 0 s = some s' ∧ I m s' := by
  have := forM_from I h m 0 s (by omega) h0
  simpa using this
theorem forN_from {S R : Type} {f : Int → S → Option (Ctl S R)} (I : Nat → S → Prop) (B : S → Prop) (Q : R → Prop) {m : Nat} (h : ∀ (n : Nat) s, n < m → I n s → ∃ c, f (n : Int) s = some c ∧ CtlP (I (n + 1)) B Q c) : ∀ (k i : Nat) (s : S), i + k = m → I i s → ∃ o, forN f k (i : Int) s = some o ∧ SumP (fun s => I m s ∨ B s) Q o
  | 0, i, s, hk, h0 => ⟨.inl s, rfl, .inl (by rwa [← hk])⟩
  | k + 1, i, s, hk, h0 => by
    obtain ⟨c, h1, h2⟩ := h i s (by omega) h0
    simp only [forN, h1, Option.bind_some]
    cases c with
    | next s1 => exact forN_from I B Q h k (i + 1) s1 (by omega) h2
    | brk s1 => exact ⟨_, rfl, .inr h2⟩
    | ret r => exact ⟨_, rfl, h2⟩
theorem forN_ok {S R : Type} {f : Int → S → Option (Ctl S R)} (I : Nat → S → Prop) (B : S → Prop) (Q : R → Prop) {m : Nat} {s : S} (h0 : I 0 s) (h : ∀ (n : Nat) s, n < m → I n s → ∃ c, f (n : Int) s = some c ∧ CtlP (I (n + 1)) B Q c) : ∃ o, forN f ((m : Int) - 0).toNat 0 s = some o ∧ SumP (fun s => I m s ∨ B s) Q o := by
  have := forN_from I B Q h m 0 s (by omega) h0
  simpa using this
/-- A loop of which no more than so many rounds are left (μ), with fuel enough. -/
theorem while_ok {S R : Type} {f : S → Option (Ctl S R)} (I : S → Prop) (μ : S → Nat) (B : S → Prop) (Q : R → Prop) (h : ∀ s, I s → ∃ c, f s = some c ∧ CtlP (fun s' => I s' ∧ μ s' < μ s) B Q c) : ∀ (u : Nat) (s : S), μ s < u → I s → ∃ o, whileF f u s = some o ∧ SumP B Q o
  | 0, s, hu, _ => by omega
  | u + 1, s, hu, hI => by
    obtain ⟨c, h1, h2⟩ := h s hI
    simp only [whileF, h1, Option.bind_some]
    cases c with
    | next s1 => exact while_ok I μ B Q h u s1 (by have := h2.2; omega) h2.1
    | brk s1 => exact ⟨_, rfl, h2⟩
    | ret r => exact ⟨_, rfl, h2⟩
/-! ### loops that look -/
/-- A loop that hands back r at the first element where p does not hold. -/
theorem forL_all {α R : Type} {f : Int → α → Unit → Option (Ctl Unit R)} {xs : List α} {r : R} (p : Nat → α → Bool) (h : ∀ (n : Nat) x, xs[n]? = some x → f (n : Int) x () = some (if p n x then .next () else .ret r)) :
    ∃ o, forL f xs 0 () = some o ∧ ((o = .inl () ∧ ∀ (n : Nat) x, xs[n]? = some x → p n x = true) ∨ (o = .inr r ∧ ∃ (n : Nat) (x : α), xs[n]? = some x ∧ p n x = false)) := by
  obtain ⟨o, h1, h2⟩ := forL_ok (f := f) (xs := xs) (s := ()) (fun n _ => ∀ (j : Nat) x, j < n → xs[j]? = some x → p j x = true) (fun _ => False) (fun r' => r' = r ∧ ∃ (n : Nat) (x : α), xs[n]? = some x ∧ p n x = false) (fun j x hj => by omega) fun n x s hx hI => by
    refine ⟨_, h n x hx, ?_⟩
    cases hp : p n x with
    | true =>
      simp only [if_true, CtlP]
      intro j y hj hy
      by_cases e : j = n
      · subst e; rw [hx] at hy; cases hy; exact hp
      · exact hI j y (by omega) hy
    | false => exact ⟨rfl, n, x, hx, hp⟩
  refine ⟨o, h1, ?_⟩
  cases o with
  | inl s => exact .inl ⟨rfl, fun n x hx => (h2.resolve_right id) n x (List.getElem?_eq_some_iff.1 hx).1 hx⟩
  | inr r' => exact .inr ⟨by rw [h2.1], h2.2⟩
theorem cond_T' {α : Type} {b : Bool} {x y : α} (h : b = true) : cond b x y = x := by subst h; rfl
theorem cond_F' {α : Type} {b : Bool} {x y : α} (h : b = false) : cond b x y = y := by subst h; rfl
/-- A loop that keeps what p says. -/
theorem forS_filter {α : Type} {f : Int → α → List α → Option (List α)} {xs : List α} (p : α → Bool) (h : ∀ (n : Nat) x ys, xs[n]? = some x → ys.length ≤ n → f (n : Int) x ys = some (if p x then ys ++ [x] else ys)) :
    forS f xs 0 [] = some (xs.filter p) := by
  obtain ⟨s, h1, h2⟩ := forS_ok (f := f) (xs := xs) (s := []) (fun n s => s = (xs.take n).filter p) (by simp) fun n x s hx hI => by
    have hn : n < xs.length := (List.getElem?_eq_some_iff.1 hx).1
    refine ⟨_, h n x s hx (by subst hI; exact Nat.le_trans (List.length_filter_le ..) (by simp; omega)), ?_⟩
    rw [List.take_add_one, hx]
    subst hI
    simp only [Option.toList_some, List.filter_append, List.filter_cons, List.filter_nil]
    split <;> simp
  rw [h1, h2, List.take_length]
/-- A loop that fills a list of as many cells. -/
theorem forS_fill {α β : Type} {f : Int → α → List β → Option (List β)} {xs : List α} {ys : List β} (g : α → β) (hl : ys.length = xs.length) (h : ∀ (n : Nat) x (zs : List β), xs[n]? = some x → zs.length = xs.length → f (n : Int) x zs = some (zs.set n (g x))) :
    forS f xs 0 ys = some (xs.map g) := by
  obtain ⟨s, h1, h2⟩ := forS_ok (f := f) (xs := xs) (s := ys) (fun n s => s = (xs.take n).map g ++ ys.drop n) (by simp) fun n x s hx hI => by
    have hn : n < xs.length := (List.getElem?_eq_some_iff.1 hx).1
    refine ⟨_, h n x s hx (by subst hI; simp; omega), ?_⟩
    subst hI
    rw [List.take_add_one, hx]
    simp only [Option.toList_some, List.map_append, List.map_cons, List.map_nil]
    rw [List.set_append_right _ _ (by simp; omega)]
    have : n - ((xs.take n).map g).length = 0 := by simp; omega
    have e : ys.drop n = ys[n] :: ys.drop (n + 1) := List.drop_eq_getElem_cons (by omega)
    rw [this, e, List.set_cons_zero, List.append_assoc]; rfl
  rw [h1, h2, List.take_length, List.drop_eq_nil_of_le (by omega)]; simp
/-- A loop of integers that counts down what is left. -/
theorem w64_id {x : Int} (h : -9223372036854775808 ≤ x ∧ x ≤ 9223372036854775807) : w64 x = x := w64_eq h.1 h.2
/-! ### the laws' helpers: sizes, copies, comparisons -/
theorem sz_loop {α : Type} {g : α → Int → Option Int} (Bd : α → Prop) {a : List α} (hg : ∀ x ∈ a, ∀ left : Int, 0 ≤ left → left ≤ 1048576 → ∃ r, g x left = some r ∧ (r = -1 ∨ (0 ≤ r ∧ r ≤ left ∧ Bd x))) {left : Int} (h0 : 0 ≤ left) (h1 : left ≤ 1048576) (hl : a.length ≤ 9223372036854775807) :
    ∃ r, cond (decide ((w64 (left - (a.length : Int))) < 0)) (some (-1)) ((forL (R := Int) (fun (i_2 : Int) (x : α) (left1 : Int) => (g x left1).bind fun r_4 => cond (decide (r_4 < 0)) (some (.ret (-1))) (some (.next r_4))) a 0 (w64 (left - (a.length : Int)))).bind fun O3_ => onS O3_ (fun (left1 : Int) => some left1) (fun r => some r)) = some r ∧ (r = -1 ∨ (0 ≤ r ∧ r + a.length ≤ left ∧ ∀ x ∈ a, Bd x)) := by
  rw [w64_id (by omega)]
  by_cases h : left < a.length
  · rw [cond_T' (by simp; omega)]; exact ⟨-1, rfl, .inl rfl⟩
  · rw [cond_F' (by simp; omega)]
    obtain ⟨o, h2, h3⟩ := forL_ok (xs := a) (s := left - a.length) (f := fun (i_2 : Int) (x : α) (left1 : Int) => (g x left1).bind fun r_4 => cond (decide (r_4 < 0)) (some (.ret (-1))) (some (.next r_4)))
      (fun n s => 0 ≤ s ∧ s + a.length ≤ left ∧ ∀ (j : Nat) x, j < n → a[j]? = some x → Bd x) (fun _ => False) (fun r => r = -1) ⟨by omega, by omega, fun j x hj => by omega⟩ fun n x s hx ⟨hI0, hI, hB⟩ => by
        obtain ⟨r, h4, h5⟩ := hg x (List.mem_of_getElem? hx) s hI0 (by omega)
        rw [h4, Option.bind_some]
        rcases h5 with rfl | ⟨h5, h6, h7⟩
        · rw [cond_T' (by simp)]; exact ⟨_, rfl, rfl⟩
        · rw [cond_F' (by simp; omega)]
          refine ⟨_, rfl, h5, by omega, fun j y hj hy => ?_⟩
          by_cases e : j = n
          · subst e; rw [hx] at hy; cases hy; exact h7
          · exact hB j y (by omega) hy
    rw [h2, Option.bind_some]
    cases o with
    | inl s =>
      obtain ⟨h4, h5, h6⟩ := h3.resolve_right id
      exact ⟨s, rfl, .inr ⟨h4, h5, fun x hx => by obtain ⟨j, hj⟩ := List.getElem?_of_mem hx; exact h6 j x (List.getElem?_eq_some_iff.1 hj).1 hj⟩⟩
    | inr r => exact ⟨r, rfl, .inl h3⟩
theorem to_loop {α β : Type} {b : Nat} {z : β} {g : α → Option β} (f : α → β) {a : List α} (hg : ∀ x ∈ a, g x = some (f x)) (hl : a.length ≤ 1048576) (hb : b ≤ 1048576) :
    ((mk b (a.length : Int) z).bind fun us_1 => (forS (fun (i_3 : Int) (x : α) (out3 : (List β)) => (g x).bind fun r_5 => (getI out3 (i_3 : Int)).bind fun v_7 => some (out3.set ((i_3 : Int)).toNat r_5)) a 0 us_1).bind fun (out3 : (List β)) => some out3) = some (a.map f) := by
  have : b * a.length ≤ 1048576 * 1048576 := Nat.mul_le_mul hb hl
  rw [mk_ok (by omega) (by omega), Option.bind_some, forS_fill f (by simp) fun n x zs hx hz => ?_]
  · rfl
  · have hn : n < zs.length := by have := (List.getElem?_eq_some_iff.1 hx).1; omega
    rw [hg x (List.mem_of_getElem? hx), Option.bind_some, getI_lt hn]; simp
theorem eq_loop {α : Type} {g : α → α → Option Bool} {a : List α} (hg : ∀ x ∈ a, g x x = some true) :
    cond (decide ((a.length : Int) ≠ (a.length : Int))) (some false) ((forL (R := Bool) (fun (i_2 : Int) (x : α) (_ : Unit) => (getI a (i_2 : Int)).bind fun v_4 => (g x v_4).bind fun r_9 => cond (!r_9) (some (.ret false)) (some (.next ()))) a 0 ()).bind fun O3_ => onS O3_ (fun (_ : Unit) => some true) (fun r => some r)) = some true := by
  rw [cond_F' (by simp)]
  obtain ⟨o, h1, h2⟩ := forL_ok (xs := a) (s := ()) (f := fun (i_2 : Int) (x : α) (_ : Unit) => (getI a (i_2 : Int)).bind fun v_4 => (g x v_4).bind fun r_9 => cond (!r_9) (some (.ret false)) (some (.next ())))
    (fun _ _ => True) (fun _ => False) (fun (_ : Bool) => False) trivial fun n x s hx _ => by
      rw [getI_nat, hx, Option.bind_some, hg x (List.mem_of_getElem? hx), Option.bind_some]
      exact ⟨_, rfl, trivial⟩
  rw [h1, Option.bind_some]
  cases o with
  | inl s => rfl
  | inr r => exact h2.elim
/-- Two lists of integers, compared. -/
def cmpL : List Int → List Int → Int
  | [], [] => 0
  | [], _ :: _ => -1
  | _ :: _, [] => 1
  | x :: xs, y :: ys => if x < y then -1 else if y < x then 1 else cmpL xs ys
end Go.Sep

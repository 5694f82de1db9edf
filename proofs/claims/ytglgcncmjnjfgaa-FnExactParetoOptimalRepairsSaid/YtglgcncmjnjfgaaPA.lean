import Derived.Test.YtglgcncmjnjfgaaCRC
import Derived.Test.YtglgcncmjnjfgaaM0
set_option linter.unusedVariables false
set_option linter.unusedSimpArgs false
namespace Go.Proofs.Ytglgcncmjnjfgaa
open Go Go.Proofs Go.Sep
theorem contains_eq (l : List Int) (v : Int) : m_slices_Contains_Sint_int l v = some (decide (v ∈ l)) := by
 unfold m_slices_Contains_Sint_int m_slices_Index_Sint_int
 refine (Ok.bind (P := fun z => decide (0 ≤ z) = decide (v ∈ l)) (Ok.forL (fun n _ => ∀ (j : Nat), j < n → l[j]? ≠ some v) (fun _ => False) (fun z => 0 ≤ z ∧ v ∈ l) (fun j hj => by omega) (fun n x s hx hI => ?_) (fun s hs => .ret ?_) (fun z hz => .ret ?_)) fun z hz => ⟨_, rfl, hz⟩).to
 ·refine .cond (fun h => .out ⟨by omega, ?_⟩) fun h => .next fun j hj hjv => ?_
  ·rw [of_decide_eq_true h]; exact List.mem_of_getElem? hx
  ·by_cases e : j = n
   ·subst e; rw [hx] at hjv; cases hjv; exact (of_decide_eq_false h) rfl
   ·exact hI j (by omega) hjv
 ·have h := hs.resolve_right id
  have : v ∉ l := fun hm => by
   obtain ⟨j, hj⟩ := List.getElem?_of_mem hm
   exact h j (List.getElem?_eq_some_iff.1 hj).1 hj
  simp [this]
 ·simp [hz.1, hz.2]
theorem l7Has_eq (l : List Int) (v : Int) : m_spec_l7Has l v = some (decide (v ∈ l)) := by
 unfold m_spec_l7Has
 refine Ok.to (.forL (fun n _ => ∀ (j : Nat), j < n → l[j]? ≠ some v) (fun _ => False) (fun z => z = true ∧ v ∈ l) (fun j hj => by omega) (fun n x s hx hI => ?_) (fun s hs => .ret ?_) (fun z hz => .ret ?_))
 ·refine .cond (fun h => .out ⟨rfl, ?_⟩) fun h => .next fun j hj hjv => ?_
  ·rw [← of_decide_eq_true h]; exact List.mem_of_getElem? hx
  ·by_cases e : j = n
   ·subst e; rw [hx] at hjv; cases hjv; exact (of_decide_eq_false h) rfl
   ·exact hI j (by omega) hjv
 ·have h := hs.resolve_right id
  have : v ∉ l := fun hm => by
   obtain ⟨j, hj⟩ := List.getElem?_of_mem hm
   exact h j (List.getElem?_eq_some_iff.1 hj).1 hj
  simp [this]
 ·simp [hz.1, hz.2]
theorem without_eq (a b : List Int) (ha : a.length ≤ 1048576) : m_impl_without a b = some (a.filter fun x => !decide (x ∈ b)) := by
 unfold m_impl_without
 refine Ok.to (.forS (fun n s => s = (a.take n).filter fun x => !decide (x ∈ b)) (by simp) (fun n x s hx hI => ?_) (fun s hI => .ret (by rw [hI, List.take_length])))
 have hn := (List.getElem?_eq_some_iff.1 hx).1
 have e : a.take (n + 1) = a.take n ++ [x] := by rw [List.take_add_one, hx]; rfl
 have hl := List.length_filter_le (fun x => !decide (x ∈ b)) (a.take n)
 rw [List.length_take] at hl
 subst hI
 refine .eq (contains_eq b x) (.cond (fun h => .app (by simp only [List.length_cons, List.length_nil]; omega) (.ret ?_)) fun h => .ret ?_)
 ·rw [e, List.filter_append, List.filter_cons_of_pos (by simpa using h), List.filter_nil]
 ·rw [e, List.filter_append, List.filter_cons_of_neg (by simpa using h), List.filter_nil, List.append_nil]
end Go.Proofs.Ytglgcncmjnjfgaa
set_option linter.unusedVariables false
set_option linter.unusedSimpArgs false
namespace Go.Proofs.Ytglgcncmjnjfgaa
open Go Go.Proofs Go.Sep
def AscB (n : Int) (l : List Int) : Prop := (∀ x ∈ l, 0 ≤ x ∧ x ≤ n - 1) ∧ l.Pairwise (· < ·)
theorem areIndices_iff (l : List Int) (n : Int) (h0 : 0 ≤ n) (h1 : n ≤ 1048576) : Ok (m_impl_areIndices l n) fun b => (b = true ↔ AscB n l) := by
 unfold m_impl_areIndices m_impl_within
 have adj : ∀ (l : List Int), (∀ (j : Nat) x y, l[j]? = some x → l[j + 1]? = some y → x < y) → l.Pairwise (· < ·) := by
  intro l
  induction l with
  | nil => intro _; exact .nil
  | cons a l ih =>
   intro h
   have hl := ih fun j x y hx hy => h (j + 1) x y (by simpa using hx) (by simpa using hy)
   refine .cons (fun y hy => ?_) hl
   cases l with
   | nil => cases hy
   | cons b l =>
    have hab := h 0 a b rfl rfl
    rcases List.mem_cons.1 hy with rfl | hy
    ·exact hab
    ·exact Int.lt_trans hab ((List.pairwise_cons.1 hl).1 y hy)
 refine Ok.forL (fun m _ => (∀ (j : Nat) x, j < m → l[j]? = some x → 0 ≤ x ∧ x ≤ n - 1) ∧ ∀ (j : Nat) x y, j + 1 < m → l[j]? = some x → l[j + 1]? = some y → x < y) (fun _ => False) (fun (r : Bool) => r = false ∧ ¬ AscB n l) ⟨fun j x hj => by omega, fun j x y hj => by omega⟩ (fun m x s hx ⟨hI, hJ⟩ => ?_) (fun s hs => .ret ⟨fun _ => ?_, fun _ => rfl⟩) (fun r hr => .ret ⟨fun h => absurd h (by rw [hr.1]; exact Bool.false_ne_true), fun h => (hr.2 h).elim⟩)
 ·have hm : m < l.length := (List.getElem?_eq_some_iff.1 hx).1
  rw [w64_id (x := n - 1) (by omega)]
  refine .bind (P := fun t => (t = true → ¬ AscB n l) ∧ (t = false → (0 ≤ x ∧ x ≤ n - 1) ∧ ∀ (j : Nat) y, j + 1 = m → l[j]? = some y → y < x)) ?_ fun t ht => .cond (fun h => .out ⟨rfl, ht.1 h⟩) fun h => .next ⟨fun j y hj hy => ?_, fun j y z hj hy hz => ?_⟩
  ·refine .bind (Ok.of rfl) fun b hb => ?_
   subst hb
   refine .cond (fun h => .ret ⟨fun _ ha => ?_, fun h => by cases h⟩) fun h => ?_
   ·have := ha.1 x (List.mem_of_getElem? hx)
    simp at h; omega
   ·have hr : 0 ≤ x ∧ x ≤ n - 1 := by simpa using h
    refine .cond (fun h0 => ?_) fun h0 => .ret ⟨(fun h => by cases h), fun _ => ⟨hr, fun j y hj hy => absurd (show (0 : Int) < (m : Int) by omega) (of_decide_eq_false h0)⟩⟩
    have hm0 : 0 < m := by simpa using h0
    refine .get (n := m - 1) (by omega) (by omega) (.ret ⟨fun h ha => ?_, fun h => ⟨hr, fun j y hj hy => ?_⟩⟩)
    ·have h1 : x ≤ l[m - 1] := by simpa using h
     have h2 := List.pairwise_iff_getElem.1 ha.2 (m - 1) m (by omega) hm (by omega)
     rw [List.getElem?_eq_getElem hm] at hx; cases hx
     omega
    ·have h1 : ¬ x ≤ l[m - 1] := by simpa using h
     have e : j = m - 1 := by omega
     subst e
     rw [List.getElem?_eq_getElem (by omega)] at hy; cases hy
     omega
  ·by_cases e : j = m
   ·subst e; rw [hx] at hy; cases hy; exact (ht.2 h).1
   ·exact hI j y (by omega) hy
  ·by_cases e : j + 1 = m
   ·subst e; rw [hx] at hz; cases hz; exact (ht.2 h).2 j y rfl hy
   ·exact hJ j y z (by omega) hy hz
 ·have h := hs.resolve_right id
  refine ⟨fun x hx => ?_, adj l fun j x y hx hy => h.2 j x y (List.getElem?_eq_some_iff.1 hy).1 hx hy⟩
  obtain ⟨j, hj⟩ := List.getElem?_of_mem hx
  exact h.1 j x (List.getElem?_eq_some_iff.1 hj).1 hj
end Go.Proofs.Ytglgcncmjnjfgaa
set_option linter.unusedVariables false
set_option linter.unusedSimpArgs false
namespace Go.Proofs.Ytglgcncmjnjfgaa
open Go Go.Proofs Go.Sep
theorem take_succ_getD {α : Type} (xs : List α) (d : α) (i : Nat) (h : i < xs.length) : xs.take (i + 1) = xs.take i ++ [xs.getD i d] := by
 rw [List.take_add_one]; simp [List.getD, h]
theorem wrap_pred {b : Int} (h : -9223372036854775808 ≤ b ∧ b ≤ 9223372036854775807) : (b = -9223372036854775808 ∧ IntKind.i64.wrap (b - 1) = 9223372036854775807) ∨ (-9223372036854775808 < b ∧ IntKind.i64.wrap (b - 1) = b - 1) := by
 by_cases e : b = -9223372036854775808
 ·subst e; exact .inl ⟨rfl, by decide⟩
 ·exact .inr ⟨by omega, (fits64 (by omega) (by omega)).symm⟩
def lexlt (a b : Int × Int) : Prop := a.1 < b.1 ∨ (a.1 = b.1 ∧ a.2 < b.2)
def OkE (n : Int) (es : List (Int × Int)) (j : Nat) : Prop := (0 ≤ (es.getD j default).1 ∧ (es.getD j default).1 < (es.getD j default).2 ∧ (es.getD j default).2 < n) ∧ (0 < j → lexlt (es.getD (j - 1) default) (es.getD j default))
def VE (n : Int) (es : List (Int × Int)) : Prop := (0 ≤ n ∧ n ≤ 14) ∧ ∀ j, j < es.length → OkE n es j
noncomputable def tr (p : Prop) : Bool := @decide p (Classical.propDecidable p)
theorem tr_true {p : Prop} (h : p) : tr p = true := by unfold tr; simp [h]
theorem tr_false {p : Prop} (h : ¬ p) : tr p = false := by unfold tr; simp [h]
theorem tr_iff {p : Prop} : tr p = true ↔ p := by unfold tr; simp
theorem getD_mem {α : Type} {xs : List α} {d : α} {i : Nat} (h : i < xs.length) : xs.getD i d ∈ xs := by simp [List.getD, h]
def Closed (n : Int) (p : List (Int × Int)) (S : List Int) : Prop := ∀ x ∈ S, (0 ≤ x ∧ x < n) ∧ ∃ a ∈ S, (a, x) ∈ p
def Cyc (n : Int) (p : List (Int × Int)) : Prop := ∃ S : List Int, S ≠ [] ∧ Closed n p S
def VP (n : Int) (es p : List (Int × Int)) : Prop := VE n es ∧ (∀ e ∈ p, e ∈ es ∨ (e.2, e.1) ∈ es) ∧ ¬ Cyc n p
def und (p : List (Int × Int)) (left : List Int) : List Int := left.filter (fun b => !(left.any fun a => decide ((a, b) ∈ p)))
def rst (p : List (Int × Int)) (left : List Int) : List Int := left.filter (fun n => !decide (n ∈ und p left))
theorem rst_closed {n p S left} (h : Closed n p S) (hs : ∀ x ∈ S, x ∈ left) : ∀ x ∈ S, x ∈ rst p left := fun x hx => by
 obtain ⟨_, a, ha, hp⟩ := h x hx
 refine List.mem_filter.2 ⟨hs x hx, ?_⟩
 simp only [Bool.not_eq_true', decide_eq_false_iff_not, und, List.mem_filter, not_and, Bool.not_eq_true, Bool.not_eq_false', Bool.not_eq_false]
 exact fun _ => List.any_eq_true.2 ⟨a, hs a ha, by simpa using hp⟩
theorem rst_len (p : List (Int × Int)) (left : List Int) : (rst p left).length ≤ left.length := List.length_filter_le _ _
theorem rst_sub {p : List (Int × Int)} {left : List Int} : ∀ x ∈ rst p left, x ∈ left := fun x hx => (List.mem_filter.1 hx).1
theorem rst_same {p left} (h : (rst p left).length = left.length) : ∀ b ∈ left, ∃ a ∈ left, (a, b) ∈ p := fun b hb => by
 have h1 := List.length_filter_eq_length_iff.1 h b hb
 simp only [Bool.not_eq_true', decide_eq_false_iff_not, und, List.mem_filter, not_and, Bool.not_eq_true, Bool.not_eq_false', Bool.not_eq_false] at h1
 obtain ⟨a, ha, h2⟩ := List.any_eq_true.1 (h1 hb)
 exact ⟨a, ha, by simpa using h2⟩
theorem range_mem {n : Int} {i : Nat} (h : ¬ (i : Int) < n) (x : Int) (h0 : 0 ≤ x ∧ x < n) : x ∈ (List.range i).map Int.ofNat :=
 List.mem_map.2 ⟨x.toNat, List.mem_range.2 (by omega), by simp; omega⟩
theorem range_in {i : Nat} {x : Int} (h : x ∈ (List.range i).map Int.ofNat) : 0 ≤ x ∧ x < i := by
 obtain ⟨j, hj, rfl⟩ := List.mem_map.1 h
 have := List.mem_range.1 hj
 simp; omega
theorem VE.of_mem {n es} (h : VE n es) : ∀ e ∈ es, 0 ≤ e.1 ∧ e.1 < e.2 ∧ e.2 < n := fun e he => by
 obtain ⟨j, hj, rfl⟩ := List.getElem_of_mem he
 have := (h.2 j hj).1
 simpa [List.getD, hj] using this
theorem pref_iff {n es} (h : VE n es) (a b : Int) : (a ≠ b ∧ ((if b < a then b else a), (if a < b then b else a)) ∈ es) ↔ ((a, b) ∈ es ∨ (b, a) ∈ es) := by
 constructor
 ·rintro ⟨h1, h2⟩
  by_cases hab : a < b
  ·rw [if_neg (by omega), if_pos hab] at h2; exact .inl h2
  ·rw [if_pos (by omega), if_neg hab] at h2; exact .inr h2
 ·rintro (h2 | h2)
  ·have := h.of_mem _ h2
   simp only at this
   exact ⟨by omega, by rw [if_neg (by omega), if_pos (by omega)]; exact h2⟩
  ·have := h.of_mem _ h2
   simp only at this
   exact ⟨by omega, by rw [if_pos (by omega), if_neg (by omega)]; exact h2⟩
theorem pref_in {n : Int} {es p : List (Int × Int)} (h : VE n es) (hp : ∀ e ∈ p, e ∈ es ∨ (e.2, e.1) ∈ es) {j : Nat} (hj : j < p.length) : (0 ≤ (p.getD j default).1 ∧ (p.getD j default).1 < n) ∧ (0 ≤ (p.getD j default).2 ∧ (p.getD j default).2 < n) := by
 rcases hp _ (getD_mem (d := default) hj) with h1 | h1
 ·have := h.of_mem _ h1; omega
 ·have := h.of_mem _ h1; simp only at this; omega
def cnt (g : List Bool) : Nat := g.count true
def Blocked (p : List (Int × Int)) (g : List Bool) (y : Nat) : Prop := ∃ a : Nat, a < g.length ∧ ((a : Int), (y : Int)) ∈ p ∧ g.getD a false = false
def Stable (p : List (Int × Int)) (g : List Bool) : Prop := ∀ y, y < g.length → g.getD y false = false → Blocked p g y
def freeA (p : List (Int × Int)) (g : List Bool) (x : Int) (i : Nat) : Bool := (p.take i).all (fun e => decide (e.2 ≠ x) || g.getD e.1.toNat false)
def Sound (n : Int) (p : List (Int × Int)) (g : List Bool) : Prop := ∀ S, Closed n p S → ∀ x ∈ S, g.getD x.toNat false = false
def RX (p : List (Int × Int)) (g0 g : List Bool) (x : Nat) : Prop := (g = g0 ∧ ∀ y, y < x → g0.getD y false = false → Blocked p g0 y) ∨ (cnt g0 < cnt g ∧ ¬ Stable p g0)
def PK (p : List (Int × Int)) (k : Nat) (g : List Bool) : Prop := k ≤ cnt g ∨ Stable p g
theorem freeA_succ (p : List (Int × Int)) (g : List Bool) (x : Int) (i : Nat) (h : i < p.length) : freeA p g x (i + 1) = (freeA p g x i && (decide ((p.getD i default).2 ≠ x) || g.getD (p.getD i default).1.toNat false)) := by
 unfold freeA; rw [take_succ_getD p default i h, List.all_append]; simp
theorem getD_set_ne (g : List Bool) (x y : Nat) (h : x ≠ y) : (g.set x true).getD y false = g.getD y false := by simp [List.getD, List.getElem?_set_ne h]
theorem cnt_set : ∀ (g : List Bool) (x : Nat), x < g.length → g.getD x false = false → cnt (g.set x true) = cnt g + 1
 | [], x, h, _ => by simp at h
 | b :: g, 0, h, e => by simp at e; subst e; simp [cnt]
 | b :: g, x + 1, h, e => by
  have := cnt_set g x (by simpa using h) (by simpa using e)
  unfold cnt at *
  simp only [List.set_cons_succ, List.count_cons, this]; omega
theorem set_same (g : List Bool) (x : Nat) (h : x < g.length) (e : g.getD x false = true) : g.set x true = g := by
 apply List.ext_getElem (by simp)
 intro j h1 h2
 rw [List.getElem_set]
 split
 ·rename_i hx; subst hx; simp [List.getD, h2] at e; exact e.symm
 ·rfl
theorem cnt_lt {g : List Bool} {x : Nat} (h : x < g.length) (e : g.getD x false = false) : cnt g < g.length := by
 have h1 := cnt_set g x h e
 have h2 : cnt (g.set x true) ≤ (g.set x true).length := List.count_le_length
 rw [List.length_set] at h2; omega
theorem free_false {p : List (Int × Int)} {g : List Bool} {x : Nat} (hin : ∀ j, j < p.length → 0 ≤ (p.getD j default).1 ∧ (p.getD j default).1 < g.length) (h : freeA p g x p.length = false) : Blocked p g x := by
 unfold freeA at h
 rw [List.take_length, List.all_eq_false] at h
 obtain ⟨e, he, h1⟩ := h
 obtain ⟨j, hj, rfl⟩ := List.getElem_of_mem he
 have h2 := hin j hj
 simp only [List.getD, List.getElem?_eq_getElem hj, Option.getD_some] at h2
 simp only [ne_eq, decide_not, Bool.or_eq_true, Bool.not_eq_true', decide_eq_false_iff_not, not_or, Decidable.not_not, Bool.not_eq_true] at h1
 refine ⟨p[j].1.toNat, by omega, ?_, h1.2⟩
 have e1 : ((p[j].1.toNat : Nat) : Int) = p[j].1 := by omega
 rw [e1, ← h1.1]; exact he
theorem free_true {p : List (Int × Int)} {g : List Bool} {x a : Int} (h : freeA p g x p.length = true) (hp : (a, x) ∈ p) : g.getD a.toNat false = true := by
 unfold freeA at h
 rw [List.take_length, List.all_eq_true] at h
 have := h _ hp
 simpa using this
theorem Sound.set {n p g} {x : Nat} (h : Sound n p g) (hx : x < g.length) (hf : freeA p g x p.length = true) : Sound n p (g.set x true) := fun S hS y hy => by
 obtain ⟨h1, a, ha, hp⟩ := hS y hy
 by_cases e : x = y.toNat
 ·have e2 : y = (x : Int) := by omega
  rw [e2] at hp
  have h2 := free_true hf hp
  rw [h S hS a ha] at h2; cases h2
 ·rw [getD_set_ne _ _ _ e]; exact h S hS y hy
theorem RX.free {p g0 g} {x : Nat} (h : RX p g0 g x) (hx : x < g.length) (hf : freeA p g x p.length = true) : RX p g0 (g.set x true) (x + 1) := by
 cases hb : g.getD x false with
 | true =>
  rw [set_same g x hx hb]
  rcases h with ⟨rfl, h⟩ | h
  ·refine .inl ⟨rfl, fun y hy hg => ?_⟩
   rcases Nat.lt_or_eq_of_le (Nat.le_of_lt_succ hy) with h1 | rfl
   ·exact h y h1 hg
   ·rw [hb] at hg; cases hg
  ·exact .inr h
 | false =>
  right
  rw [cnt_set g x hx hb]
  rcases h with ⟨rfl, h⟩ | h
  ·refine ⟨by omega, fun hs => ?_⟩
   obtain ⟨a, h1, h2, h3⟩ := hs x hx hb
   have := free_true hf h2
   simp only [Int.toNat_natCast] at this
   rw [h3] at this; cases this
  ·exact ⟨by omega, h.2⟩
theorem RX.stuck {p g0 g} {x : Nat} (hin : ∀ j, j < p.length → 0 ≤ (p.getD j default).1 ∧ (p.getD j default).1 < g.length) (h : RX p g0 g x) (hf : freeA p g x p.length = false) : RX p g0 g (x + 1) := by
 rcases h with ⟨rfl, h⟩ | h
 ·refine .inl ⟨rfl, fun y hy hg => ?_⟩
  rcases Nat.lt_or_eq_of_le (Nat.le_of_lt_succ hy) with h1 | rfl
  ·exact h y h1 hg
  ·exact free_false hin hf
 ·exact .inr h
theorem PK.next {p g0 g} {k x : Nat} (h : RX p g0 g x) (hx : g0.length ≤ x) (hk : PK p k g0) : PK p (k + 1) g := by
 rcases h with ⟨rfl, h⟩ | h
 ·exact .inr fun y hy hg => h y (by omega) hg
 ·rcases hk with hk | hk
  ·exact .inl (by omega)
  ·exact absurd hk h.2
theorem PK.end {p g} {k x : Nat} (hk : PK p k g) (hl : g.length ≤ k) (hx : x < g.length) (hb : g.getD x false = false) : Cyc g.length p := by
 rcases hk with hk | hs
 ·have := cnt_lt hx hb; omega
 ·refine ⟨((List.range g.length).filter fun y => !g.getD y false).map Int.ofNat, fun e => ?_, fun y hy => ?_⟩
  ·have : (x : Int) ∈ ((List.range g.length).filter fun y => !g.getD y false).map Int.ofNat := List.mem_map.2 ⟨x, List.mem_filter.2 ⟨List.mem_range.2 hx, by rw [hb]; rfl⟩, rfl⟩
   rw [e] at this; cases this
  ·obtain ⟨z, hz, rfl⟩ := List.mem_map.1 hy
   obtain ⟨hz1, hz2⟩ := List.mem_filter.1 hz
   have hz1 := List.mem_range.1 hz1
   obtain ⟨a, h1, h2, h3⟩ := hs z hz1 (by simpa using hz2)
   exact ⟨⟨by simp, by simp; omega⟩, (a : Int), List.mem_map.2 ⟨a, List.mem_filter.2 ⟨List.mem_range.2 h1, by rw [h3]; rfl⟩, rfl⟩, h2⟩
theorem sound_start (n : Int) (p : List (Int × Int)) (N : Nat) : Sound n p (List.replicate N false) := fun S hS x hx => by
 simp only [List.getD, List.getElem?_replicate]; split <;> rfl
theorem sound_end {N : Nat} {p g} (h : Sound N p g) (hl : g.length = N) (hall : ∀ x, x < N → g.getD x false = true) : ¬ Cyc N p := fun ⟨S, hne, hS⟩ => by
 obtain ⟨x, hx⟩ := List.exists_mem_of_ne_nil S hne
 have h1 := h S hS x hx
 have h2 := (hS x hx).1
 rw [hall x.toNat (by omega)] at h1; cases h1
def indB (es : List (Int × Int)) (s : List Int) : Bool := !(es.any fun e => decide (e.1 ∈ s) && decide (e.2 ∈ s))
def fits (es : List (Int × Int)) (s : List Int) (x : Int) : Bool := !decide (x ∈ s) && indB es (s ++ [x])
def adjB (es : List (Int × Int)) (a b : Int) : Bool := decide (((if b < a then b else a), (if a < b then b else a)) ∈ es)
def allA (es p : List (Int × Int)) (s : List Int) (x : Int) (i : Nat) : Bool := (s.take i).all fun y => !adjB es x y || decide ((x, y) ∈ p)
theorem allA_succ (es p : List (Int × Int)) (s : List Int) (x : Int) (i : Nat) (h : i < s.length) : allA es p s x (i + 1) = (allA es p s x i && (!adjB es x (s.getD i 0) || decide ((x, s.getD i 0) ∈ p))) := by
 unfold allA; rw [take_succ_getD s 0 i h, List.all_append]; simp
theorem adjB_iff {n es} (h : VE n es) {a b : Int} (hne : a ≠ b) : adjB es a b = true ↔ ((a, b) ∈ es ∨ (b, a) ∈ es) := by
 unfold adjB
 rw [decide_eq_true_eq, ← pref_iff h]
 exact ⟨fun h => ⟨hne, h⟩, fun h => h.2⟩
def POx (es p : List (Int × Int)) (s : List Int) (x : Int) : Prop := x ∈ s ∨ ∃ y ∈ s, ((x, y) ∈ es ∨ (y, x) ∈ es) ∧ ¬ (x, y) ∈ p
theorem POx_false {n es p s} {x : Int} (h : VE n es) (hx : ¬ x ∈ s) : POx es p s x ↔ allA es p s x s.length = false := by
 unfold allA
 rw [List.take_length, List.all_eq_false]
 constructor
 ·rintro (h1 | ⟨y, hy, h1, h2⟩)
  ·exact absurd h1 hx
  ·have hne : x ≠ y := fun e => hx (e ▸ hy)
   exact ⟨y, hy, by rw [(adjB_iff h hne).2 h1]; simp [h2]⟩
 ·rintro ⟨y, hy, h1⟩
  have hne : x ≠ y := fun e => hx (e ▸ hy)
  simp only [Bool.or_eq_true, Bool.not_eq_true', decide_eq_true_eq, not_or, Bool.not_eq_false] at h1
  exact .inr ⟨y, hy, (adjB_iff h hne).1 h1.1, h1.2⟩
theorem POx_any {es p s} {x : Int} (hx : ¬ x ∈ s) : POx es p s x ↔ (s.any fun y => (decide ((x, y) ∈ es) || decide ((y, x) ∈ es)) && !decide ((x, y) ∈ p)) = true := by
 rw [List.any_eq_true]
 constructor
 ·rintro (h1 | ⟨y, hy, h1, h2⟩)
  ·exact absurd h1 hx
  ·exact ⟨y, hy, by simp [h1, h2]⟩
 ·rintro ⟨y, hy, h1⟩
  exact .inr ⟨y, hy, by simpa using h1⟩
end Go.Proofs.Ytglgcncmjnjfgaa
set_option linter.unusedVariables false
set_option linter.unusedSimpArgs false
namespace Go.Proofs.Ytglgcncmjnjfgaa
open Go Go.Proofs Go.Sep
theorem Ok_tr {e : Option Bool} {P : Prop} (h : Ok e fun b => (b = true ↔ P)) : e = some (tr P) := by
 obtain ⟨b, h1, h2⟩ := h
 rw [h1]
 congr 1
 cases b with
 | true => rw [tr_true (h2.1 rfl)]
 | false => rw [tr_false (fun h => by have := h2.2 h; cases this)]
def Ee (l : List ConflictEdge) : List (Int × Int) := l.map fun e => (e.a, e.b)
theorem Ee_len (l : List ConflictEdge) : (Ee l).length = l.length := by simp [Ee]
theorem Ee_at {l : List ConflictEdge} {i : Nat} {e : ConflictEdge} (h : l[i]? = some e) : (Ee l).getD i default = (e.a, e.b) := by simp [Ee, List.getD, h]
theorem Ee_mem {l : List ConflictEdge} {e : ConflictEdge} : (e.a, e.b) ∈ Ee l ↔ e ∈ l := by
 simp only [Ee, List.mem_map]
 constructor
 ·rintro ⟨x, hx, h⟩
  cases x; cases e
  simp only [Prod.mk.injEq] at h
  obtain ⟨rfl, rfl⟩ := h
  exact hx
 ·intro h; exact ⟨e, h, rfl⟩
theorem Contains_edge (l : List ConflictEdge) (v : ConflictEdge) : m_slices_Contains_Simpl_ConflictEdge_impl_ConflictEdge l v = some (decide ((v.a, v.b) ∈ Ee l)) := by
 unfold m_slices_Contains_Simpl_ConflictEdge_impl_ConflictEdge m_slices_Index_Simpl_ConflictEdge_impl_ConflictEdge
 refine (Ok.bind (P := fun z => decide (0 ≤ z) = decide ((v.a, v.b) ∈ Ee l)) (Ok.forL (fun n _ => ∀ (j : Nat), j < n → l[j]? ≠ some v) (fun _ => False) (fun z => 0 ≤ z ∧ v ∈ l) (fun j hj => by omega) (fun n x s hx hI => ?_) (fun s hs => .ret ?_) (fun z hz => .ret ?_)) fun z hz => ⟨_, rfl, hz⟩).to
 ·refine .cond (fun h => .out ⟨by omega, ?_⟩) fun h => .next fun j hj hjv => ?_
  ·have h1 := of_decide_eq_true h
   have : v = x := by cases v; cases x; simp only [Prod.mk.injEq] at h1; obtain ⟨rfl, rfl⟩ := h1; rfl
   rw [this]; exact List.mem_of_getElem? hx
  ·by_cases e : j = n
   ·subst e; rw [hx] at hjv; cases hjv; exact (of_decide_eq_false h) rfl
   ·exact hI j (by omega) hjv
 ·have h := hs.resolve_right id
  have : v ∉ l := fun hm => by
   obtain ⟨j, hj⟩ := List.getElem?_of_mem hm
   exact h j (List.getElem?_eq_some_iff.1 hj).1 hj
  rw [decide_eq_false (fun h => this (Ee_mem.1 h))]; rfl
 ·rw [decide_eq_true (Ee_mem.2 hz.2)]; simp [hz.1]
theorem impl_IsPreferred_eq (p : List ConflictEdge) (a b : Int) : m_impl_IsPreferred p a b = some (decide ((a, b) ∈ Ee p)) := by
 unfold m_impl_IsPreferred
 rw [Contains_edge]; rfl
theorem some_edge {l : List ConflictEdge} {a b : Int} {c : ConflictEdge → Bool} (hc : ∀ e, c e = true ↔ (e.a = a ∧ e.b = b)) : ((forL (R := Bool) (fun (i_1 : Int) (x_i_1 : ConflictEdge) (_ : Unit) => cond (c x_i_1) (some (.ret true)) (some (.next ()))) l 0 ()).bind fun O2_ => onS O2_ (fun (_ : Unit) => some false) (fun r => some r)) = some (decide ((a, b) ∈ Ee l)) := by
 refine Ok.to (.allL (fun n => ∀ e, l[n]? = some e → c e = false) true (fun n x hx _ => .cond (fun h => .out ⟨rfl, fun h2 => by rw [h2 x hx] at h; cases h⟩) fun h => .next fun e he => by rw [hx] at he; cases he; exact h) (fun h => .ret ?_) (fun ⟨j, hj, h⟩ => .ret ?_))
 ·symm
  refine decide_eq_false fun hm => ?_
  obtain ⟨j, hj⟩ := List.getElem?_of_mem ((Ee_mem (e := (⟨a, b⟩ : ConflictEdge))).1 hm)
  have := h j (List.getElem?_eq_some_iff.1 hj).1 _ hj
  rw [(hc _).2 ⟨rfl, rfl⟩] at this; cases this
 ·symm
  refine decide_eq_true ?_
  have : c l[j] = true := by
   cases h2 : c l[j] with
   | true => rfl
   | false => exact (h fun e he => by rw [List.getElem?_eq_getElem hj] at he; cases he; exact h2).elim
  obtain ⟨h1, h2⟩ := (hc _).1 this
  rw [← h1, ← h2]
  exact Ee_mem.2 (List.getElem_mem hj)
theorem spec_IsPreferred_eq (p : List ConflictEdge) (a b : Int) : m_spec_IsPreferred p a b = some (decide ((a, b) ∈ Ee p)) := some_edge (c := fun e => decide (e.a = a) && decide (e.b = b)) fun e => by simp
theorem l28Edge_eq (l : List ConflictEdge) (a b : Int) : m_spec_l28Edge l a b = some (adjB (Ee l) a b) := some_edge (c := fun e => decide (e.a = (if b < a then b else a)) && decide (e.b = (if a < b then b else a))) fun e => by simp
def RE (es : List ConflictEdge) : Prop := es.length ≤ 1000 ∧ ∀ e ∈ es, -100 ≤ e.a ∧ e.a ≤ 100 ∧ -100 ≤ e.b ∧ e.b ≤ 100
theorem OkE_at {n : Int} {l : List ConflictEdge} {i : Nat} {e : ConflictEdge} (h : l[i]? = some e) : OkE n (Ee l) i ↔ (0 ≤ e.a ∧ e.a < e.b ∧ e.b < n) ∧ (0 < i → ∀ v, l[i - 1]? = some v → v.a < e.a ∨ (v.a = e.a ∧ v.b < e.b)) := by
 unfold OkE
 rw [Ee_at h]
 refine and_congr Iff.rfl ?_
 constructor
 ·intro h1 h0 v hv
  have := h1 h0
  rw [Ee_at hv] at this
  exact this
 ·intro h1 h0
  have hi : i - 1 < l.length := by have := (List.getElem?_eq_some_iff.1 h).1; omega
  rw [Ee_at (List.getElem?_eq_getElem hi)]
  exact h1 h0 _ (List.getElem?_eq_getElem hi)
theorem edge_prev {l : List ConflictEdge} {n : Nat} {x : ConflictEdge} (hx : l[n]? = some x) {f : ConflictEdge → Option Bool} {A : Prop} (hA : A) (hf : ∀ v, Ok (f v) fun t => (t = true ↔ ¬ (v.a < x.a ∨ (v.a = x.a ∧ v.b < x.b)))) : Ok (cond (decide (0 < (n : Int))) ((getI l ((n : Int) - 1)).bind f) (some false)) fun t => (t = true ↔ ¬ (A ∧ (0 < n → ∀ v, l[n - 1]? = some v → v.a < x.a ∨ (v.a = x.a ∧ v.b < x.b)))) := by
 have hn := (List.getElem?_eq_some_iff.1 hx).1
 refine .cond (fun h => ?_) fun h => .ret ?_
 ·have h0 : 0 < n := by have := of_decide_eq_true h; omega
  have hi : n - 1 < l.length := by omega
  refine .get (n := n - 1) (by omega) hi ((hf _).mono fun t ht => ?_)
  rw [ht]
  constructor
  ·intro h1 h2; exact h1 (h2.2 h0 _ (List.getElem?_eq_getElem hi))
  ·intro h1 h2
   refine h1 ⟨hA, fun _ v hv => ?_⟩
   rw [List.getElem?_eq_getElem hi] at hv; cases hv; exact h2
 ·have h0 : ¬ 0 < n := by have := of_decide_eq_false h; omega
  simp [hA, h0]
theorem spec_AreValidEdges_ok {n : Int} (hn : 0 ≤ n ∧ n ≤ 14) {es : List ConflictEdge} (he : RE es) : Ok (m_spec_AreValidEdges n es) fun b => (b = true ↔ VE n (Ee es)) := by
 unfold m_spec_AreValidEdges m_spec_l1In
 refine .allL (OkE n (Ee es)) false (fun i x hx _ => .test ?_) (fun h => .eq rfl (.ret ?_)) (fun ⟨j, hj, h⟩ => .ret ?_)
 ·have hb := he.2 x (List.mem_of_getElem? hx)
  rw [OkE_at hx, w64_id (x := x.b - 1) (by omega), w64_id (x := n - 1) (by omega)]
  refine .eq rfl (.cond (fun h => .ret ?_) fun h => .eq rfl (.cond (fun h2 => .ret ?_) fun h2 => ?_))
  ·simp only [Bool.not_eq_true', Bool.and_eq_false_iff, decide_eq_false_iff_not] at h
   simp only [true_iff]
   omega
  ·simp only [Bool.not_eq_true', Bool.and_eq_false_iff, decide_eq_false_iff_not] at h2
   simp only [true_iff]
   omega
  ·simp only [Bool.not_eq_false', Bool.and_eq_true, decide_eq_true_eq] at h h2
   refine edge_prev hx (A := 0 ≤ x.a ∧ x.a < x.b ∧ x.b < n) (by omega) fun v => .cond (fun h3 => .ret ?_) fun h3 => .cond (fun h4 => .ret ?_) fun h4 => .ret ?_
   ·have := of_decide_eq_true h3
    simp only [true_iff]; omega
   ·have := of_decide_eq_true h4
    simp only [decide_eq_true_eq]; omega
   ·have := of_decide_eq_false h3
    have := of_decide_eq_false h4
    simp only [Bool.false_eq_true, false_iff]; omega
 ·have e : (decide (0 ≤ n) && decide (n ≤ 14)) = true := by simp [hn]
  rw [e]
  exact ⟨fun _ => ⟨hn, fun j hj => h j (by rwa [Ee_len] at hj)⟩, fun _ => rfl⟩
 ·simp only [Bool.false_eq_true, false_iff]
  exact fun hv => h (hv.2 j (by rw [Ee_len]; exact hj))
theorem impl_AreValidEdges_ok {n : Int} (hn : 0 ≤ n ∧ n ≤ 14) {es : List ConflictEdge} (he : RE es) : Ok (m_impl_AreValidEdges n es) fun b => (b = true ↔ VE n (Ee es)) := by
 unfold m_impl_AreValidEdges m_impl_within
 refine .eq rfl (.cf (by simp [hn]) (.allL (OkE n (Ee es)) false (fun i x hx _ => .test ?_) (fun h => .ret ?_) (fun ⟨j, hj, h⟩ => .ret ?_)))
 ·rw [OkE_at hx]
  refine .cond (fun h => .ret ?_) fun h => .cond (fun h2 => .ret ?_) fun h2 => .cond (fun h3 => .ret ?_) fun h3 => ?_
  ·have := of_decide_eq_true h
   simp only [true_iff]; omega
  ·have := of_decide_eq_true h2
   simp only [true_iff]; omega
  ·have := of_decide_eq_true h3
   simp only [true_iff]; omega
  ·have := of_decide_eq_false h
   have := of_decide_eq_false h2
   have := of_decide_eq_false h3
   refine edge_prev hx (A := 0 ≤ x.a ∧ x.a < x.b ∧ x.b < n) (by omega) fun v => .cond (fun h3 => .ret ?_) fun h3 => .cond (fun h4 => .ret ?_) fun h4 => .ret ?_
   ·have := of_decide_eq_true h3
    simp only [true_iff]; omega
   ·have := of_decide_eq_true h4
    simp only [decide_eq_true_eq]; omega
   ·have := of_decide_eq_false h3
    have := of_decide_eq_false h4
    simp only [Bool.false_eq_true, false_iff]; omega
 ·exact ⟨fun _ => ⟨hn, fun j hj => h j (by rwa [Ee_len] at hj)⟩, fun _ => rfl⟩
 ·simp only [Bool.false_eq_true, false_iff]
  exact fun hv => h (hv.2 j (by rw [Ee_len]; exact hj))
theorem containsI_eq (l : List Int) (p : Int → Bool) {f : Int → Option Bool} (hf : ∀ x ∈ l, f x = some (p x)) : m_slices_ContainsFunc_Sint_int l f = some (l.any p) := by
 unfold m_slices_ContainsFunc_Sint_int m_slices_IndexFunc_Sint_int
 refine (Ok.bind (P := fun z => decide (0 ≤ z) = l.any p) (Ok.forL (fun n _ => ∀ (j : Nat) x, j < n → l[j]? = some x → p x = false) (fun _ => False) (fun z => 0 ≤ z ∧ ∃ x ∈ l, p x = true) (fun j x hj => by omega) (fun n x s hx hI => ?_) (fun s hs => ?_) (fun z hz => .ret ?_)) fun z hz => ⟨_, rfl, hz⟩).to
 ·refine .eq (hf x (List.mem_of_getElem? hx)) (.cond (fun h => .out ⟨by omega, x, List.mem_of_getElem? hx, h⟩) fun h => .next fun j y hj hy => ?_)
  by_cases e : j = n
  ·subst e; rw [hx] at hy; cases hy; exact h
  ·exact hI j y (by omega) hy
 ·refine .ret ?_
  have h := hs.resolve_right id
  have : l.any p = false := by
   rw [List.any_eq_false]
   intro x hx
   obtain ⟨j, hj⟩ := List.getElem?_of_mem hx
   rw [h j x (List.getElem?_eq_some_iff.1 hj).1 hj]; simp
  rw [this]; rfl
 ·have : l.any p = true := List.any_eq_true.2 hz.2
  rw [this]; simpa using hz.1
theorem filter_run {l : List Int} {q : Int → Bool} {f : Int → Int → List Int → Option (List Int)} (hl : l.length ≤ 1048576) (hf : ∀ (i : Int) x o, x ∈ l → o.length ≤ 1048576 → f i x o = some (if q x = true then o ++ [x] else o)) : ((forS f l 0 ([] : List Int)).bind fun o => some o) = some (l.filter q) := by
 refine Ok.to (.forS (fun n s => s = (l.take n).filter q) (by simp) (fun n x s hx hI => ?_) (fun s hI => .ret (by rw [hI, List.take_length])))
 have hn := (List.getElem?_eq_some_iff.1 hx).1
 have e : l.take (n + 1) = l.take n ++ [x] := by rw [List.take_add_one, hx]; rfl
 have h1 := List.length_filter_le q (l.take n)
 rw [List.length_take] at h1
 subst hI
 rw [hf _ _ _ (List.mem_of_getElem? hx) (by omega)]
 refine .ret ?_
 by_cases h : q x = true
 ·rw [if_pos h, e, List.filter_append, List.filter_cons_of_pos h, List.filter_nil]
 ·rw [if_neg h, e, List.filter_append, List.filter_cons_of_neg h, List.filter_nil, List.append_nil]
theorem impl_undominated_eq (p : List ConflictEdge) (left : List Int) (hl : left.length ≤ 1048576) : m_impl_undominated p left = some (und (Ee p) left) := by
 unfold m_impl_undominated
 refine filter_run hl fun i x o hx ho => ?_
 refine Ok.to (.eq (containsI_eq left (fun a => decide ((a, x) ∈ Ee p)) fun a _ => by unfold m_impl_undominated_1; rw [impl_IsPreferred_eq]; rfl) (.cond (fun h => .app (by simp; omega) (.ret ?_)) fun h => .ret ?_))
 ·rw [if_pos h]
 ·rw [if_neg (by rw [h]; decide)]
end Go.Proofs.Ytglgcncmjnjfgaa
set_option linter.unusedVariables false
set_option linter.unusedSimpArgs false
namespace Go.Proofs.Ytglgcncmjnjfgaa
open Go Go.Proofs Go.Sep
theorem areAcyclic_ok {u : Nat} (hu : 1048577 < u) {n : Int} (hn : 0 ≤ n ∧ n ≤ 14) (p : List ConflictEdge) : Ok (m_impl_areAcyclic u n p) fun b => (b = true ↔ ¬ Cyc n (Ee p)) := by
 unfold m_impl_areAcyclic
 obtain ⟨N, rfl⟩ := Int.eq_ofNat_of_zero_le hn.1
 refine .gN (by omega) (.forM (fun i s => s = (List.range i).map Int.ofNat) rfl (fun i s hi hI => ?_) (fun s hI => ?_))
 ·subst hI
  refine .app (by simp; omega) (.ret ?_)
  rw [List.range_succ, List.map_append]; rfl
 ·refine .while (fun left => left.length ≤ 14 ∧ (∀ x ∈ left, 0 ≤ x ∧ x < (N : Int)) ∧ ∀ S, Closed N (Ee p) S → ∀ x ∈ S, x ∈ left) (fun left => left.length) (fun left => left = [] ∧ ∀ S, Closed N (Ee p) S → ∀ x ∈ S, x ∈ left) (fun r => r = false ∧ Cyc N (Ee p)) (by rw [hI]; simp; omega) ⟨by rw [hI]; simp; omega, fun x hx => by rw [hI] at hx; exact range_in hx, fun S hS x hx => by rw [hI]; exact range_mem (by omega) x (hS x hx).1⟩ (fun left ⟨h1, h2, h3⟩ => ?_) (fun left h => .ret ?_) (fun r hr => .ret ?_)
  ·refine .cond (fun h => .eq (impl_undominated_eq p left (by omega)) (.eq (without_eq left _ (by omega)) (.cond (fun h4 => .out ⟨rfl, ?_⟩) fun h4 => .next ?_))) fun h => .brk ?_
   ·have h5 : (rst (Ee p) left).length = left.length := by have := of_decide_eq_true h4; unfold rst; omega
    refine ⟨left, fun e => ?_, fun x hx => ⟨h2 x hx, rst_same h5 x hx⟩⟩
    subst e; simp at h
   ·have h5 : (rst (Ee p) left).length ≠ left.length := by have := of_decide_eq_false h4; unfold rst; omega
    have h6 := rst_len (Ee p) left
    show (_ ∧ _ ∧ _) ∧ _
    refine ⟨⟨?_, fun x hx => h2 x (rst_sub x hx), fun S hS x hx => rst_closed hS (h3 S hS) x hx⟩, ?_⟩
    ·show (rst (Ee p) left).length ≤ 14; omega
    ·show (rst (Ee p) left).length < left.length; omega
   ·have : left.length = 0 := by have := of_decide_eq_false h; omega
    exact ⟨List.eq_nil_of_length_eq_zero this, h3⟩
  ·obtain ⟨rfl, h⟩ := h
   refine ⟨fun _ ⟨S, hne, hS⟩ => ?_, fun _ => rfl⟩
   obtain ⟨x, hx⟩ := List.exists_mem_of_ne_nil S hne
   have := h S hS x hx
   cases this
  ·rw [hr.1]
   exact ⟨fun h => (by cases h), fun h => (h hr.2).elim⟩
def inE (es : List ConflictEdge) (p : List ConflictEdge) (j : Nat) : Prop := ∀ e, p[j]? = some e → (e.a, e.b) ∈ Ee es ∨ (e.b, e.a) ∈ Ee es
theorem inE_all {es p : List ConflictEdge} (h : ∀ j, j < p.length → inE es p j) : ∀ e ∈ Ee p, e ∈ Ee es ∨ (e.2, e.1) ∈ Ee es := fun e he => by
 obtain ⟨x, hx, rfl⟩ := List.mem_map.1 he
 obtain ⟨j, hj⟩ := List.getElem?_of_mem hx
 exact h j (List.getElem?_eq_some_iff.1 hj).1 x hj
theorem inE_of {es p : List ConflictEdge} (h : ∀ e ∈ Ee p, e ∈ Ee es ∨ (e.2, e.1) ∈ Ee es) (j : Nat) : inE es p j := fun e he => h (e.a, e.b) (Ee_mem.2 (List.mem_of_getElem? he))
theorem impl_IsValidPreference_ok {u : Nat} (hu : 1048577 < u) {n : Int} (hn : 0 ≤ n ∧ n ≤ 14) {es : List ConflictEdge} (he : RE es) (p : List ConflictEdge) : Ok (m_impl_IsValidPreference u n es p) fun b => (b = true ↔ VP n (Ee es) (Ee p)) := by
 unfold m_impl_IsValidPreference
 refine .bind (impl_AreValidEdges_ok hn he) fun b hb => .cond (fun h => .ret ?_) fun h => .allL (inE es p) false (fun i x hx _ => .test ?_) (fun h2 => .bind (areAcyclic_ok hu hn p) fun c hc => .ret ?_) (fun ⟨j, hj, h2⟩ => .ret ?_)
 ·have : b = false := by simpa using h
  subst this
  exact ⟨fun h => (by cases h), fun h => by have := hb.2 h.1; cases this⟩
 ·refine .eq (Contains_edge es x) (.cond (fun h2 => .eq (Contains_edge es ⟨x.b, x.a⟩) (.ret ?_)) fun h2 => .ret ?_)
  ·have h2' : (x.a, x.b) ∉ Ee es := by simpa using h2
   simp only [Bool.not_eq_true', decide_eq_false_iff_not]
   constructor
   ·intro h3 h4
    rcases h4 x hx with h5 | h5
    ·exact h2' h5
    ·exact h3 h5
   ·intro h3 h4
    exact h3 fun e he => by rw [hx] at he; cases he; exact .inr h4
  ·have h2' : (x.a, x.b) ∈ Ee es := by simpa using h2
   simp only [Bool.false_eq_true, false_iff, Classical.not_not]
   exact fun e he => by rw [hx] at he; cases he; exact .inl h2'
 ·have : b = true := by simpa using h
  subst this
  rw [hc]
  exact ⟨fun h3 => ⟨hb.1 rfl, inE_all h2, h3⟩, fun h3 => h3.2.2⟩
 ·simp only [Bool.false_eq_true, false_iff]
  exact fun h3 => h2 (inE_of h3.2.1 j)
theorem spec_IsValidPreference_ok {n : Int} (hn : 0 ≤ n ∧ n ≤ 14) {es : List ConflictEdge} (he : RE es) (p : List ConflictEdge) : Ok (m_spec_IsValidPreference n es p) fun b => (b = true ↔ VP n (Ee es) (Ee p)) := by
 unfold m_spec_IsValidPreference
 refine .bind (spec_AreValidEdges_ok hn he) fun b hb => .cond (fun h => .ret ?_) fun h => ?_
 ·have : b = false := by simpa using h
  subst this
  exact ⟨fun h => (by cases h), fun h => by have := hb.2 h.1; cases this⟩
 have hbt : b = true := by simpa using h
 have hve := hb.1 hbt
 refine .allL (inE es p) false (fun i x hx _ => .test ?_) (fun h2 => ?_) (fun ⟨j, hj, h2⟩ => .ret ?_)
 ·have hi := pref_iff hve x.a x.b
  have hin : inE es p i ↔ ((x.a, x.b) ∈ Ee es ∨ (x.b, x.a) ∈ Ee es) := ⟨fun h => h x hx, fun h e he => by rw [hx] at he; cases he; exact h⟩
  rw [hin, ← hi]
  refine .cond (fun h2 => .ret ?_) fun h2 => .eq (l28Edge_eq es x.a x.b) (.ret ?_)
  ·have := of_decide_eq_true h2
   simp [this]
  ·have := of_decide_eq_false h2
   unfold adjB
   simp [this]
 ·obtain ⟨N, rfl⟩ := Int.eq_ofNat_of_zero_le hn.1
  have hq := inE_all h2
  have hpin : ∀ j, j < (Ee p).length → 0 ≤ ((Ee p).getD j default).1 ∧ ((Ee p).getD j default).1 < (N : Int) := fun j hj => (pref_in hve hq hj).1
  refine .mk (n := N) (by omega) (by omega) (.gN (by omega) (.forM (fun k g => g.length = N ∧ Sound N (Ee p) g ∧ PK (Ee p) k g) ⟨by simp, sound_start _ _ _, .inl (Nat.zero_le _)⟩ (fun k g hk ⟨hgl, hso, hpk⟩ => ?_) (fun g ⟨hgl, hso, hpk⟩ => .gN (by omega) (.allN (fun x => g.getD x false = true) false (fun x hx => ?_) (fun hall => .ret ?_) (fun ⟨x, hx, hb⟩ => .ret ?_)))))
  ·refine .gN (by omega) (.forM (fun x g' => g'.length = N ∧ Sound N (Ee p) g' ∧ RX (Ee p) g g' x) ⟨hgl, hso, .inl ⟨rfl, fun y hy => by omega⟩⟩ (fun x g' hx ⟨h4, h5, h6⟩ => ?_) (fun g' ⟨h4, h5, h6⟩ => .ret ⟨h4, h5, PK.next h6 (by omega) hpk⟩))
   have hin' : ∀ j, j < (Ee p).length → 0 ≤ ((Ee p).getD j default).1 ∧ ((Ee p).getD j default).1 < (g'.length : Int) := fun j hj => by rw [h4]; exact hpin j hj
   refine .forS (fun j f => f = freeA (Ee p) g' (x : Int) j) (by simp [freeA]) (fun j e f he hI => ?_) (fun f hI => ?_)
   ·have hj := (List.getElem?_eq_some_iff.1 he).1
    have hjE : j < (Ee p).length := by rw [Ee_len]; exact hj
    rw [freeA_succ _ _ _ _ hjE, Ee_at he, ← hI]
    have hp := hpin j hjE
    rw [Ee_at he] at hp
    refine .cond (fun hf => .cond (fun h7 => .ret ?_) fun h7 => .get' hp.1 (by rw [h4]; exact hp.2) fun q hq2 e2 => .ret ?_) fun hf => .ret ?_
    ·have := of_decide_eq_true h7
     rw [hf]; simp [this]
    ·have h8 : e.b = (x : Int) := by simpa using h7
     rw [hf, h8, e2]
     simp [List.getD, hq2]
    ·rw [hf]; simp
   ·rw [← Ee_len] at hI
    refine .cond (fun hf => .get rfl (by omega) (.ret ?_)) fun hf => .ret ?_
    ·have hfa : freeA (Ee p) g' (x : Int) (Ee p).length = true := by rw [← hI]; exact hf
     simp only [Int.toNat_natCast]
     exact ⟨by simpa using h4, h5.set (by omega) hfa, h6.free (by omega) hfa⟩
    ·have hfa : freeA (Ee p) g' (x : Int) (Ee p).length = false := by rw [← hI]; exact hf
     exact ⟨h4, h5, h6.stuck hin' hfa⟩
  ·have hx' : x < g.length := by omega
   refine .get rfl hx' (.cond (fun h7 => .out ⟨rfl, ?_⟩) fun h7 => .next ?_)
   ·have : g[x] = false := by simpa using h7
    simp [List.getD, hx', this]
   ·have : g[x] = true := by simpa using h7
    simp [List.getD, hx', this]
  ·exact ⟨fun _ => ⟨hve, hq, sound_end hso hgl hall⟩, fun _ => rfl⟩
  ·simp only [Bool.false_eq_true, false_iff]
   intro h7
   have hb' : g.getD x false = false := by simpa using hb
   have := PK.end hpk (by omega) (by omega) hb'
   rw [hgl] at this
   exact h7.2.2 this
 ·simp only [Bool.false_eq_true, false_iff]
  exact fun h3 => h2 (inE_of h3.2.1 j)
theorem l8Set_eq (n : Int) (s : List Int) : m_spec_l8Set n s = m_impl_areIndices s n := rfl
end Go.Proofs.Ytglgcncmjnjfgaa
set_option linter.unusedVariables false
set_option linter.unusedSimpArgs false
namespace Go.Proofs.Ytglgcncmjnjfgaa
open Go Go.Proofs Go.Sep
def MI2 (n : Int) (es : List ConflictEdge) (s : List Int) : Prop := VE n (Ee es) ∧ AscB n s ∧ indB (Ee es) s = true ∧ ∀ x : Nat, (x : Int) < n → fits (Ee es) s x = false
def PO2 (n : Int) (es p : List ConflictEdge) (s : List Int) : Prop := VP n (Ee es) (Ee p) ∧ MI2 n es s ∧ ∀ x : Nat, (x : Int) < n → POx (Ee es) (Ee p) s x
theorem Ee_any (es : List ConflictEdge) (q : Int × Int → Bool) : (Ee es).any q = es.any fun e => q (e.a, e.b) := by simp only [Ee, List.any_map]; rfl
theorem spec_IsIndependent_eq (es : List ConflictEdge) (s : List Int) : m_spec_IsIndependent es s = some (indB (Ee es) s) := by
 unfold m_spec_IsIndependent indB
 rw [Ee_any]
 refine Ok.to (.allL (fun j => ∀ e, es[j]? = some e → (decide (e.a ∈ s) && decide (e.b ∈ s)) = false) false (fun j e he _ => .test ?_) (fun h => .ret ?_) (fun ⟨j, hj, h⟩ => .ret ?_))
 ·have key : (∀ e', es[j]? = some e' → (decide (e'.a ∈ s) && decide (e'.b ∈ s)) = false) ↔ (decide (e.a ∈ s) && decide (e.b ∈ s)) = false := ⟨fun h => h e he, fun h e' he' => by rw [he] at he'; cases he'; exact h⟩
  rw [key]
  refine .eq (l7Has_eq s e.a) (.cond (fun h => .eq (l7Has_eq s e.b) (.ret ?_)) fun h => .ret ?_)
  ·rw [h]; simp
  ·rw [h]; simp
 ·symm
  rw [Bool.not_eq_true', List.any_eq_false]
  intro e he
  obtain ⟨j, hj⟩ := List.getElem?_of_mem he
  have := h j (List.getElem?_eq_some_iff.1 hj).1 e hj
  simp only [this]; decide
 ·symm
  rw [Bool.not_eq_false', List.any_eq_true]
  refine ⟨es[j], List.getElem_mem hj, ?_⟩
  cases h2 : decide (es[j].a ∈ s) && decide (es[j].b ∈ s) with
  | true => rfl
  | false => exact (h fun e he => by rw [List.getElem?_eq_getElem hj] at he; cases he; exact h2).elim
theorem containsE_eq (l : List ConflictEdge) (p : ConflictEdge → Bool) {f : ConflictEdge → Option Bool} (hf : ∀ x ∈ l, f x = some (p x)) : m_slices_ContainsFunc_Simpl_ConflictEdge_impl_ConflictEdge l f = some (l.any p) := by
 unfold m_slices_ContainsFunc_Simpl_ConflictEdge_impl_ConflictEdge m_slices_IndexFunc_Simpl_ConflictEdge_impl_ConflictEdge
 refine (Ok.bind (P := fun z => decide (0 ≤ z) = l.any p) (Ok.forL (fun n _ => ∀ (j : Nat) x, j < n → l[j]? = some x → p x = false) (fun _ => False) (fun z => 0 ≤ z ∧ ∃ x ∈ l, p x = true) (fun j x hj => by omega) (fun n x s hx hI => ?_) (fun s hs => ?_) (fun z hz => .ret ?_)) fun z hz => ⟨_, rfl, hz⟩).to
 ·refine .eq (hf x (List.mem_of_getElem? hx)) (.cond (fun h => .out ⟨by omega, x, List.mem_of_getElem? hx, h⟩) fun h => .next fun j y hj hy => ?_)
  by_cases e : j = n
  ·subst e; rw [hx] at hy; cases hy; exact h
  ·exact hI j y (by omega) hy
 ·refine .ret ?_
  have h := hs.resolve_right id
  have : l.any p = false := by
   rw [List.any_eq_false]
   intro x hx
   obtain ⟨j, hj⟩ := List.getElem?_of_mem hx
   rw [h j x (List.getElem?_eq_some_iff.1 hj).1 hj]; simp
  rw [this]; rfl
 ·have : l.any p = true := List.any_eq_true.2 hz.2
  rw [this]; simpa using hz.1
theorem impl_IsIndependent_eq (es : List ConflictEdge) (s : List Int) : m_impl_IsIndependent es s = some (indB (Ee es) s) := by
 unfold m_impl_IsIndependent indB
 rw [Ee_any, containsE_eq es (fun e => decide (e.a ∈ s) && decide (e.b ∈ s)) fun e _ => ?_]
 ·rfl
 ·unfold m_impl_IsIndependent_1
  rw [contains_eq, Option.bind_some, contains_eq]
  cases decide (e.a ∈ s) <;> rfl
theorem l8Fits_eq (es : List ConflictEdge) (s : List Int) (x : Int) (hs : s.length ≤ 1048576) : m_spec_l8Fits es s x = some (fits (Ee es) s x) := by
 unfold m_spec_l8Fits fits
 refine Ok.to (.bind (P := fun t => t = (!decide (x ∈ s) && indB (Ee es) (s ++ [x]))) (.eq (l7Has_eq s x) (.cond (fun h => .app (by simp; omega) (.app (by simp; omega) (.eq (spec_IsIndependent_eq es _) (.ret ?_)))) fun h => .ret ?_)) fun t ht => .ret ht)
 ·rw [h, List.nil_append]; rfl
 ·rw [h]; rfl
theorem spec_IsMaximalIndependent_ok {n : Int} (hn : 0 ≤ n ∧ n ≤ 14) {es : List ConflictEdge} (he : RE es) {s : List Int} (hs : s.length ≤ 1048576) : Ok (m_spec_IsMaximalIndependent n es s) fun b => (b = true ↔ MI2 n es s) := by
 unfold m_spec_IsMaximalIndependent
 obtain ⟨N, rfl⟩ := Int.eq_ofNat_of_zero_le hn.1
 refine .bind (P := fun t => (t = false ↔ VE N (Ee es) ∧ AscB N s ∧ indB (Ee es) s = true)) (.bind (spec_AreValidEdges_ok hn he) fun b hb => .cond (fun h => .ret ?_) fun h => ?_) fun t ht => .cond (fun h => .ret ?_) fun h => .gN (by omega) (.allN (fun x => fits (Ee es) s x = false) false (fun x hx => ?_) (fun hall => .ret ?_) (fun ⟨x, hx, hb⟩ => .ret ?_))
 ·have : b = false := by simpa using h
  subst this
  exact ⟨fun h => (by cases h), fun h => by have := hb.2 h.1; cases this⟩
 ·have : b = true := by simpa using h
  subst this
  have hv := hb.1 rfl
  rw [l8Set_eq]
  refine .bind (areIndices_iff s N (by omega) (by omega)) fun c hc => .cond (fun h2 => .ret ?_) fun h2 => .eq (spec_IsIndependent_eq es s) (.ret ?_)
  ·have : c = false := by simpa using h2
   subst this
   exact ⟨fun h => (by cases h), fun h => by have := hc.2 h.2.1; cases this⟩
  ·have : c = true := by simpa using h2
   subst this
   simp only [Bool.not_eq_false']
   exact ⟨fun h => ⟨hv, hc.1 rfl, h⟩, fun h => h.2.2⟩
 ·simp only [Bool.false_eq_true, false_iff]
  intro hm
  have := ht.2 ⟨hm.1, hm.2.1, hm.2.2.1⟩
  rw [h] at this; cases this
 ·refine .eq (l8Fits_eq es s x hs) (.cond (fun h2 => .out ⟨rfl, by rw [h2]; decide⟩) fun h2 => .next h2)
 ·obtain ⟨h1, h2, h3⟩ := ht.1 h
  exact ⟨fun _ => ⟨h1, h2, h3, fun x hx => hall x (by omega)⟩, fun _ => rfl⟩
 ·simp only [Bool.false_eq_true, false_iff]
  exact fun hm => hb (hm.2.2.2 x (by omega))
theorem clone_eq (s : List Int) (hs : s.length ≤ 1048576) : m_slices_Clone_Sint_int s = some s := by
 unfold m_slices_Clone_Sint_int
 first
  | (exact Ok.to (.app (by simp; omega) (.ret (by simp))))
  | (exact Ok.to (.cut (i := 0) (j := 0) rfl rfl (by omega) (by omega) (.app (by simp; omega) (.ret (by simp)))))
  | (refine Ok.to (.cond (fun h => .ret ?_) fun h => .app (by simp; omega) (.ret (by simp))); simpa using h)
theorem impl_IsMaximalIndependent_ok {n : Int} (hn : 0 ≤ n ∧ n ≤ 14) {es : List ConflictEdge} (he : RE es) {s : List Int} (hs : s.length ≤ 1048576) : Ok (m_impl_IsMaximalIndependent n es s) fun b => (b = true ↔ MI2 n es s) := by
 unfold m_impl_IsMaximalIndependent m_impl_isIndependentSet
 obtain ⟨N, rfl⟩ := Int.eq_ofNat_of_zero_le hn.1
 refine .bind (P := fun t => (t = true ↔ VE N (Ee es) ∧ AscB N s ∧ indB (Ee es) s = true)) (.bind (P := fun t => (t = true ↔ VE N (Ee es) ∧ AscB N s ∧ indB (Ee es) s = true)) (.bind (impl_AreValidEdges_ok hn he) fun b hb => .cond (fun h => ?_) fun h => .ret ?_) fun t ht => .ret ht) fun t ht => .cond (fun h => .ret ?_) fun h => .gN (by omega) (.allN (fun x => fits (Ee es) s x = false) false (fun x hx => ?_) (fun hall => .ret ?_) (fun ⟨x, hx, hb⟩ => .ret ?_))
 ·have hv := hb.1 h
  refine .bind (areIndices_iff s N (by omega) (by omega)) fun c hc => .cond (fun h2 => .eq (impl_IsIndependent_eq es s) (.ret ?_)) fun h2 => .ret ?_
  ·exact ⟨fun h => ⟨hv, hc.1 h2, h⟩, fun h => h.2.2⟩
  ·subst h2
   exact ⟨fun h => (by cases h), fun h => by have := hc.2 h.2.1; cases this⟩
 ·subst h
  exact ⟨fun h => (by cases h), fun h => by have := hb.2 h.1; cases this⟩
 ·have ht' : t = false := by simpa using h
  subst ht'
  simp only [Bool.false_eq_true, false_iff]
  intro hm
  have := ht.2 ⟨hm.1, hm.2.1, hm.2.2.1⟩
  cases this
 ·refine .test (.eq (contains_eq s _) (.cond (fun h2 => .eq (clone_eq s hs) (.app (by simp; omega) (.eq (impl_IsIndependent_eq es _) (.ret ?_)))) fun h2 => .ret ?_))
  ·unfold fits
   rw [h2]; simp
  ·unfold fits
   rw [h2]; simp
 ·have ht' : t = true := by simpa using h
  obtain ⟨h1, h2, h3⟩ := ht.1 ht'
  exact ⟨fun _ => ⟨h1, h2, h3, fun x hx => hall x (by omega)⟩, fun _ => rfl⟩
 ·simp only [Bool.false_eq_true, false_iff]
  exact fun hm => hb (hm.2.2.2 x (by omega))
theorem spec_IsParetoOptimal_ok {n : Int} (hn : 0 ≤ n ∧ n ≤ 14) {es : List ConflictEdge} (he : RE es) (p : List ConflictEdge) {s : List Int} (hs : s.length ≤ 1048576) : Ok (m_spec_IsParetoOptimal n es p s) fun b => (b = true ↔ PO2 n es p s) := by
 unfold m_spec_IsParetoOptimal
 obtain ⟨N, rfl⟩ := Int.eq_ofNat_of_zero_le hn.1
 refine .bind (P := fun t => (t = false ↔ VP N (Ee es) (Ee p) ∧ MI2 N es s)) (.bind (spec_IsValidPreference_ok hn he p) fun b hb => .cond (fun h => .ret ?_) fun h => .bind (spec_IsMaximalIndependent_ok hn he hs) fun c hc => .ret ?_) fun t ht => .cond (fun h => .ret ?_) fun h => .gN (by omega) (.allN (fun x => POx (Ee es) (Ee p) s x) false (fun x hx => ?_) (fun hall => .ret ?_) (fun ⟨x, hx, hb⟩ => .ret ?_))
 ·have : b = false := by simpa using h
  subst this
  exact ⟨fun h => (by cases h), fun h => by have := hb.2 h.1; cases this⟩
 ·have : b = true := by simpa using h
  subst this
  have hv := hb.1 rfl
  rw [Bool.not_eq_false', hc]
  exact ⟨fun h => ⟨hv, h⟩, fun h => h.2⟩
 ·simp only [Bool.false_eq_true, false_iff]
  intro hm
  have := ht.2 ⟨hm.1, hm.2.1⟩
  rw [h] at this; cases this
 ·obtain ⟨h1, h2⟩ := ht.1 h
  refine .eq (l7Has_eq s x) (.cond (fun h3 => .next (.inl (of_decide_eq_true h3))) fun h3 => .forS (fun j a => a = allA (Ee es) (Ee p) s x j) (by simp [allA]) (fun j y a hy hI => ?_) (fun a hI => ?_))
  ·have hj := (List.getElem?_eq_some_iff.1 hy).1
   have e : s.getD j 0 = y := by simp [List.getD, hy]
   rw [allA_succ _ _ _ _ _ hj, e, ← hI]
   refine .cond (fun h4 => .eq (l28Edge_eq es x y) (.cond (fun h5 => .ret ?_) fun h5 => .eq (spec_IsPreferred_eq p x y) (.ret ?_))) fun h4 => .ret ?_
   ·have : adjB (Ee es) (x : Int) y = false := by simpa using h5
    rw [h4, this]; rfl
   ·have : adjB (Ee es) (x : Int) y = true := by simpa using h5
    rw [h4, this]; rfl
   ·rw [h4]; rfl
  ·have hx' : ¬ (x : Int) ∈ s := of_decide_eq_false h3
   have hP := POx_false (p := Ee p) h1.1 hx'
   rw [hP, ← hI]
   exact .cond (fun h4 => .out ⟨rfl, by rw [h4]; decide⟩) fun h4 => .next h4
 ·obtain ⟨h1, h2⟩ := ht.1 h
  exact ⟨fun _ => ⟨h1, h2, fun x hx => hall x (by omega)⟩, fun _ => rfl⟩
 ·simp only [Bool.false_eq_true, false_iff]
  exact fun hm => hb (hm.2.2 x (by omega))
theorem impl_IsParetoOptimal_ok {u : Nat} (hu : 1048577 < u) {n : Int} (hn : 0 ≤ n ∧ n ≤ 14) {es : List ConflictEdge} (he : RE es) (p : List ConflictEdge) {s : List Int} (hs : s.length ≤ 1048576) : Ok (m_impl_IsParetoOptimal u n es p s) fun b => (b = true ↔ PO2 n es p s) := by
 unfold m_impl_IsParetoOptimal
 obtain ⟨N, rfl⟩ := Int.eq_ofNat_of_zero_le hn.1
 refine .bind (P := fun t => (t = false ↔ VP N (Ee es) (Ee p) ∧ MI2 N es s)) (.bind (impl_IsValidPreference_ok hu hn he p) fun b hb => .cond (fun h => .ret ?_) fun h => .bind (impl_IsMaximalIndependent_ok hn he hs) fun c hc => .ret ?_) fun t ht => .cond (fun h => .ret ?_) fun h => .gN (by omega) (.allN (fun x => POx (Ee es) (Ee p) s x) false (fun x hx => .test ?_) (fun hall => .ret ?_) (fun ⟨x, hx, hb⟩ => .ret ?_))
 ·have : b = false := by simpa using h
  subst this
  exact ⟨fun h => (by cases h), fun h => by have := hb.2 h.1; cases this⟩
 ·have : b = true := by simpa using h
  subst this
  have hv := hb.1 rfl
  rw [Bool.not_eq_false', hc]
  exact ⟨fun h => ⟨hv, h⟩, fun h => h.2⟩
 ·simp only [Bool.false_eq_true, false_iff]
  intro hm
  have := ht.2 ⟨hm.1, hm.2.1⟩
  rw [h] at this; cases this
 ·refine .eq (contains_eq s _) (.cond (fun h2 => .eq (containsI_eq s (fun y => (decide (((x : Int), y) ∈ Ee es) || decide ((y, (x : Int)) ∈ Ee es)) && !decide (((x : Int), y) ∈ Ee p)) fun y _ => ?_) (.ret ?_)) fun h2 => .ret ?_)
  ·unfold m_impl_IsParetoOptimal_1 m_impl_inConflict
   rw [Contains_edge, Contains_edge, impl_IsPreferred_eq]
   cases decide (((x : Int), y) ∈ Ee es) <;> cases decide ((y, (x : Int)) ∈ Ee es) <;> rfl
  ·have hx' : ¬ (x : Int) ∈ s := by simpa using h2
   rw [POx_any hx']; simp
  ·have hx' : (x : Int) ∈ s := by simpa using h2
   simp only [Bool.false_eq_true, false_iff, Classical.not_not]
   exact .inl hx'
 ·obtain ⟨h1, h2⟩ := ht.1 h
  exact ⟨fun _ => ⟨h1, h2, fun x hx => hall x (by omega)⟩, fun _ => rfl⟩
 ·simp only [Bool.false_eq_true, false_iff]
  exact fun hm => hb (hm.2.2 x (by omega))
end Go.Proofs.Ytglgcncmjnjfgaa
set_option linter.unusedVariables false
set_option linter.unusedSimpArgs false
namespace Go.Proofs.Ytglgcncmjnjfgaa
open Go Go.Proofs Go.Sep
theorem eqIntS_eq (a b : List Int) : m_laws_eqIntS a b = some (decide (a = b)) := by
 unfold m_laws_eqIntS
 by_cases hl : a.length = b.length
 ·rw [cond_F' (by simp [hl])]
  obtain ⟨o, h1, h2⟩ := forL_all (f := fun (i_2 : Int) (x_i_2 : Int) (_ : Unit) => (getI b (i_2 : Int)).bind fun v_4 => cond (decide (x_i_2 ≠ v_4)) (some (.ret false)) (some (.next ()))) (xs := a) (r := false) (fun n x => decide (b[n]? = some x)) (fun n x hx => by
   have hn : n < b.length := by have := (List.getElem?_eq_some_iff.1 hx).1; omega
   rw [getI_lt hn, Option.bind_some, List.getElem?_eq_getElem hn]
   by_cases e : x = b[n]
   ·simp [e]
   ·simp [e, Ne.symm e])
  rw [h1, Option.bind_some]
  rcases h2 with ⟨rfl, h⟩ | ⟨rfl, n, x, hx, hp⟩
  ·simp only [onS, Option.some.injEq]
   symm; simp only [decide_eq_true_eq]
   apply List.ext_getElem?
   intro n
   cases hx : a[n]? with
   | none => rw [List.getElem?_eq_none_iff] at hx; rw [List.getElem?_eq_none (by omega)]
   | some x => have := h n x hx; simp at this; exact this.symm
  ·simp only [onS, Option.some.injEq]
   symm; simp only [decide_eq_false_iff_not]
   rintro rfl
   simp [hx] at hp
 ·rw [cond_T' (by simp; omega)]
  have : a ≠ b := fun e => hl (by rw [e])
  simp [this]
def marks (k : Int) (n : Nat) : List Int := (List.range n).map fun (i : Nat) => k + (i : Int)
theorem marks_len (k : Int) (n : Nat) : (marks k n).length = n := by simp [marks]
theorem marks_get (k : Int) (n i : Nat) (h : i < n) : (marks k n)[i]? = some (k + i) := by simp [marks, h]
theorem markIntS_eq (a : List Int) (k : Int) (h0 : 0 ≤ k) (h1 : k + a.length ≤ 4611686018427387904) : m_laws_markIntS a k = some (k + a.length, marks k a.length) := by
 unfold m_laws_markIntS
 obtain ⟨s, h2, h3⟩ := forM_ok (m := a.length) (s := (a, k)) (f := fun (i_1 : Int) (⟨a0m, k1⟩ : (List Int) × Int) => (getI a0m (i_1 : Int)).bind fun v_3 => some ((a0m.set ((i_1 : Int)).toNat k1), (w64 (k1 + 1))))
  (fun n s => s.2 = k + n ∧ s.1.length = a.length ∧ ∀ j, j < n → s.1[j]? = some (k + (j : Int))) ⟨by simp, rfl, fun j hj => by omega⟩ fun n s hn ⟨hk, hl, hI⟩ => by
   obtain ⟨xs, c⟩ := s
   simp only at hk hl hI
   refine ⟨(xs.set n c, c + 1), ?_, by simp only; omega, by simpa using hl, fun j hj => ?_⟩
   ·show ((getI xs (n : Int)).bind fun v_3 => some ((xs.set (n : Int).toNat c), (w64 (c + 1)))) = _
    rw [getI_lt (by omega), Option.bind_some, w64_id (by omega)]; rfl
   ·simp only
    by_cases e : n = j
    ·subst e; rw [List.getElem?_set_self (by omega), hk]
    ·rw [List.getElem?_set_ne e]; exact hI j (by omega)
 rw [h2, Option.bind_some]
 obtain ⟨xs, c⟩ := s
 obtain ⟨hk, hl, hI⟩ := h3
 simp only at hk hl hI
 show some (c, xs) = _
 rw [hk]
 congr 2
 apply List.ext_getElem?
 intro j
 by_cases hj : j < a.length
 ·rw [hI j hj, marks_get _ _ _ hj]
 ·rw [List.getElem?_eq_none (by omega), List.getElem?_eq_none (by rw [marks_len]; omega)]
theorem heldIntS_eq (k : Int) (n : Nat) (h0 : 0 ≤ k) (h1 : k + n ≤ 4611686018427387904) : m_laws_heldIntS (marks k n) k = some (k + n) := by
 unfold m_laws_heldIntS
 obtain ⟨o, h2, h3⟩ := forL_ok (xs := marks k n) (s := k) (f := fun (i_1 : Int) (x_i_1 : Int) (k1 : Int) => cond (decide (x_i_1 ≠ k1)) (some (.ret (-1))) (some (.next (w64 (k1 + 1)))))
  (fun j s => s = k + j) (fun _ => False) (fun (_ : Int) => False) (by simp) fun j x s hx hI => by
   have hj : j < n := by have := (List.getElem?_eq_some_iff.1 hx).1; rwa [marks_len] at this
   rw [marks_get _ _ _ hj] at hx
   cases hx
   refine ⟨.next (s + 1), ?_, by simp only [CtlP]; omega⟩
   rw [cond_F' (by simp [hI]), w64_id (by omega)]
 rw [h2, Option.bind_some]
 cases o with
 | inl s => have := h3.resolve_right id; rw [marks_len] at this; simp only [onS, this]
 | inr r => exact h3.elim
def sizes (a : List (List Int)) : Nat := (a.map List.length).sum
theorem sizes_cons (x : List Int) (a : List (List Int)) : sizes (x :: a) = x.length + sizes a := rfl
theorem sizes_take_succ {a : List (List Int)} {n : Nat} {x : List Int} (h : a[n]? = some x) : sizes (a.take (n + 1)) = sizes (a.take n) + x.length := by
 rw [List.take_add_one, h]; simp [sizes]
theorem sizes_take_le (a : List (List Int)) (n : Nat) : sizes (a.take n) ≤ sizes a := by
 have : sizes (a.take n ++ a.drop n) = sizes (a.take n) + sizes (a.drop n) := by simp only [sizes, List.map_append, List.sum_append]
 rw [List.take_append_drop] at this; omega
theorem eqIntSS_eq (a b : List (List Int)) : m_laws_eqIntSS a b = some (decide (a = b)) := by
 unfold m_laws_eqIntSS
 by_cases hl : a.length = b.length
 ·rw [cond_F' (by simp [hl])]
  obtain ⟨o, h1, h2⟩ := forL_all (f := fun (i_2 : Int) (x_i_2 : (List Int)) (_ : Unit) => (getI b (i_2 : Int)).bind fun v_4 => (m_laws_eqIntS x_i_2 v_4).bind fun r_9 => cond (!r_9) (some (.ret false)) (some (.next ()))) (xs := a) (r := false) (fun n x => decide (b[n]? = some x)) (fun n x hx => by
   have hn : n < b.length := by have := (List.getElem?_eq_some_iff.1 hx).1; omega
   rw [getI_lt hn, Option.bind_some, eqIntS_eq, Option.bind_some, List.getElem?_eq_getElem hn]
   by_cases e : x = b[n]
   ·simp [e]
   ·simp [e, Ne.symm e])
  rw [h1, Option.bind_some]
  rcases h2 with ⟨rfl, h⟩ | ⟨rfl, n, x, hx, hp⟩
  ·simp only [onS, Option.some.injEq]
   symm; simp only [decide_eq_true_eq]
   apply List.ext_getElem?
   intro n
   cases hx : a[n]? with
   | none => rw [List.getElem?_eq_none_iff] at hx; rw [List.getElem?_eq_none (by omega)]
   | some x => have := h n x hx; simp at this; exact this.symm
  ·simp only [onS, Option.some.injEq]
   symm; simp only [decide_eq_false_iff_not]
   rintro rfl
   simp [hx] at hp
 ·rw [cond_T' (by simp; omega)]
  have : a ≠ b := fun e => hl (by rw [e])
  simp [this]
def marksSS : Int → List (List Int) → List (List Int)
 | _, [] => []
 | k, x :: xs => marks k x.length :: marksSS (k + x.length) xs
theorem marksSS_len : ∀ (k : Int) (a : List (List Int)), (marksSS k a).length = a.length
 | k, [] => rfl
 | k, x :: xs => by simp [marksSS, marksSS_len]
theorem marksSS_get : ∀ (a : List (List Int)) (k : Int) (n : Nat) (x : List Int), a[n]? = some x → (marksSS k a)[n]? = some (marks (k + sizes (a.take n)) x.length)
 | [], k, n, x, h => by simp at h
 | y :: a, k, 0, x, h => by simp at h; subst h; simp [marksSS, sizes]
 | y :: a, k, n + 1, x, h => by
  simp only [marksSS, List.getElem?_cons_succ, List.take_succ_cons, sizes_cons]
  rw [marksSS_get a (k + y.length) n x (by simpa using h)]
  congr 2; omega
theorem markIntSS_eq (a : List (List Int)) (k : Int) (h0 : 0 ≤ k) (h1 : k + sizes a ≤ 4611686018427387904) : m_laws_markIntSS a k = some (k + sizes a, marksSS k a) := by
 unfold m_laws_markIntSS
 obtain ⟨s, h2, h3⟩ := forM_ok (m := a.length) (s := (a, k)) (f := fun (i_1 : Int) (⟨a0m, k1⟩ : (List (List Int)) × Int) => (getI a0m (i_1 : Int)).bind fun v_3 => (m_laws_markIntS v_3 k1).bind fun r_8 => some ((a0m.set ((i_1 : Int)).toNat r_8.2), r_8.1))
  (fun n s => s.2 = k + sizes (a.take n) ∧ s.1 = (marksSS k a).take n ++ a.drop n) ⟨by simp [sizes], by simp⟩ fun n s hn ⟨hk, hI⟩ => by
   obtain ⟨xs, c⟩ := s
   simp only at hk hI
   have hx : a[n]? = some a[n] := List.getElem?_eq_getElem hn
   have hxl : (xs)[n]? = some a[n] := by
    rw [hI, List.getElem?_append_right (by simp [marksSS_len]; omega)]
    have : n - ((marksSS k a).take n).length = 0 := by simp [marksSS_len]; omega
    rw [this, List.getElem?_drop]; simp [hx]
   have hle := sizes_take_le a (n + 1)
   rw [sizes_take_succ hx] at hle
   refine ⟨(xs.set n (marks c a[n].length), c + a[n].length), ?_, by simp only; rw [sizes_take_succ hx]; omega, ?_⟩
   ·show ((getI xs (n : Int)).bind fun v_3 => (m_laws_markIntS v_3 c).bind fun r_8 => some ((xs.set (n : Int).toNat r_8.2), r_8.1)) = _
    rw [getI_nat, hxl, Option.bind_some, markIntS_eq _ _ (by omega) (by omega)]; rfl
   ·simp only
    rw [hI, List.set_append_right _ _ (by simp [marksSS_len]; omega)]
    have h6 : n - ((marksSS k a).take n).length = 0 := by simp [marksSS_len]; omega
    have e : a.drop n = a[n] :: a.drop (n + 1) := List.drop_eq_getElem_cons hn
    rw [h6, e, List.set_cons_zero, List.take_add_one, marksSS_get a k n a[n] hx, hk, Option.toList_some, List.append_assoc]; rfl
 rw [h2, Option.bind_some]
 obtain ⟨xs, c⟩ := s
 obtain ⟨hk, hI⟩ := h3
 simp only at hk hI
 show some (c, xs) = _
 rw [List.take_length] at hk
 rw [List.drop_eq_nil_of_le (Nat.le_refl _), ← marksSS_len k a, List.take_length, List.append_nil] at hI
 rw [hk, hI]
theorem heldIntSS_eq (a : List (List Int)) (k : Int) (h0 : 0 ≤ k) (h1 : k + sizes a ≤ 4611686018427387904) : m_laws_heldIntSS (marksSS k a) k = some (k + sizes a) := by
 unfold m_laws_heldIntSS
 obtain ⟨o, h2, h3⟩ := forL_ok (xs := marksSS k a) (s := k) (f := fun (i_1 : Int) (x_i_1 : (List Int)) (k1 : Int) => (m_laws_heldIntS x_i_1 k1).bind fun r_3 => cond (decide (r_3 < 0)) (some (.ret (-1))) (some (.next r_3)))
  (fun j s => s = k + sizes (a.take j)) (fun _ => False) (fun (_ : Int) => False) (by simp [sizes]) fun j x s hx hI => by
   have hj : j < a.length := by have := (List.getElem?_eq_some_iff.1 hx).1; rwa [marksSS_len] at this
   have hx' : a[j]? = some a[j] := List.getElem?_eq_getElem hj
   rw [marksSS_get a k j a[j] hx'] at hx
   cases hx
   have hle := sizes_take_le a (j + 1)
   rw [sizes_take_succ hx'] at hle
   refine ⟨.next (s + a[j].length), ?_, by simp only [CtlP]; rw [sizes_take_succ hx']; omega⟩
   rw [← hI, heldIntS_eq _ _ (by omega) (by omega), Option.bind_some, cond_F' (by simp; omega)]
 rw [h2, Option.bind_some]
 cases o with
 | inl s => have := h3.resolve_right id; rw [marksSS_len, List.take_length] at this; simp only [onS, this]
 | inr r => exact h3.elim
theorem sizes_filter (p : List Int → Bool) : ∀ a : List (List Int), sizes (a.filter p) ≤ sizes a
 | [] => Nat.le_refl _
 | x :: a => by
  have := sizes_filter p a
  rw [List.filter_cons]
  split <;> simp only [sizes_cons] <;> omega
end Go.Proofs.Ytglgcncmjnjfgaa
set_option linter.unusedVariables false
set_option linter.unusedSimpArgs false
namespace Go.Proofs.Ytglgcncmjnjfgaa
open Go Go.Proofs Go.Sep
theorem szCE_ok (a : List ConflictEdge) {left : Int} (h0 : 0 ≤ left) (h1 : left ≤ 1048576) (hl : a.length ≤ 9223372036854775807) : Ok (m_laws_szConflictEdgeS a left) fun r => r < 0 ∨ (0 ≤ r ∧ r + a.length = left) := by
 unfold m_laws_szConflictEdgeS
 rw [w64_id (by omega)]
 exact .cond (fun h => .ret (by omega)) fun h => .ret (by have := of_decide_eq_false h; omega)
theorem toCE_eq (a : List ConflictEdge) (hl : a.length ≤ 1048576) : m_laws_toConflictEdgeS a = some a := by
 unfold m_laws_toConflictEdgeS m_laws_toConflictEdge
 rw [mk_ok (by omega) (by omega), Option.bind_some, forS_fill (fun x => x) (by simp) fun n x zs hx hz => ?_]
 ·simp
 ·have hn : n < zs.length := by have := (List.getElem?_eq_some_iff.1 hx).1; omega
  rw [Option.bind_some, getI_lt hn]; simp
theorem eqCE_self (a : List ConflictEdge) : m_laws_eqConflictEdgeS a a = some true := by
 unfold m_laws_eqConflictEdgeS m_laws_eqConflictEdge
 refine Ok.to (.cf (by simp) (.allL (fun _ => True) false (fun n x hx _ => .get rfl (List.getElem?_eq_some_iff.1 hx).1 ?_) (fun _ => .ret rfl) (fun ⟨j, _, h⟩ => (h trivial).elim)))
 have := (List.getElem?_eq_some_iff.1 hx).2
 rw [this]
 exact .bind (P := fun b => b = true) (.cf (by simp) (.cf (by simp) (.ret rfl))) fun b hb => .cf (by rw [hb]; rfl) (.next trivial)
theorem markCE_ok (a : List ConflictEdge) (hl : a.length ≤ 1048576) {k : Int} (h0 : 0 ≤ k) (h1 : k ≤ 4294967296) : Ok (m_laws_markConflictEdgeS a k) fun r => 0 ≤ r.1 ∧ r.1 ≤ k + 2 * a.length := by
 unfold m_laws_markConflictEdgeS
 refine .forM (fun n s => s.2 = k + 2 * n ∧ s.1.length = a.length) ⟨by simp, rfl⟩ (fun n s hn hI => ?_) (fun s hI => ?_)
 ·obtain ⟨xs, c⟩ := s
  simp only at hI ⊢
  refine .get rfl (by omega) (.get rfl (by simp; omega) (.ret ⟨?_, by simp; omega⟩))
  simp only
  rw [w64_id (x := c + 1) (by omega), w64_id (by omega)]
  omega
 ·obtain ⟨xs, c⟩ := s
  simp only at hI ⊢
  exact .ret ⟨by simp only; omega, by simp only; omega⟩
theorem w64_pred {b : Int} (h : -9223372036854775808 ≤ b ∧ b ≤ 9223372036854775807) : (b = -9223372036854775808 ∧ w64 (b - 1) = 9223372036854775807) ∨ (-9223372036854775808 < b ∧ w64 (b - 1) = b - 1) := wrap_pred h
theorem VE_no {n : Int} {es : List (Int × Int)} (h : ¬ (0 ≤ n ∧ n ≤ 14)) : ¬ VE n es := fun hv => h hv.1
theorem spec_AreValidEdges_gen {n : Int} (hn : -9223372036854775808 ≤ n ∧ n ≤ 9223372036854775807) {es : List ConflictEdge} (he : ∀ e ∈ es, RdConflictEdge e) : Ok (m_spec_AreValidEdges n es) fun b => (b = true ↔ VE n (Ee es)) := by
 by_cases h14 : 0 ≤ n ∧ n ≤ 14
 ·unfold m_spec_AreValidEdges m_spec_l1In
  refine .allL (OkE n (Ee es)) false (fun i x hx _ => .test ?_) (fun h => .eq rfl (.ret ?_)) (fun ⟨j, hj, h⟩ => .ret ?_)
  ·have hb := he x (List.mem_of_getElem? hx)
   have hp := w64_pred hb.2
   rw [OkE_at hx, w64_id (x := n - 1) (by omega)]
   generalize w64 (x.b - 1) = w at hp
   refine .eq rfl (.cond (fun h => .ret ?_) fun h => .eq rfl (.cond (fun h2 => .ret ?_) fun h2 => ?_))
   ·simp only [Bool.not_eq_true', Bool.and_eq_false_iff, decide_eq_false_iff_not] at h
    simp only [true_iff]
    omega
   ·simp only [Bool.not_eq_true', Bool.and_eq_false_iff, decide_eq_false_iff_not] at h2
    simp only [true_iff]
    omega
   ·simp only [Bool.not_eq_false', Bool.and_eq_true, decide_eq_true_eq] at h h2
    refine edge_prev hx (A := 0 ≤ x.a ∧ x.a < x.b ∧ x.b < n) (by omega) fun v => .cond (fun h3 => .ret ?_) fun h3 => .cond (fun h4 => .ret ?_) fun h4 => .ret ?_
    ·have := of_decide_eq_true h3
     simp only [true_iff]; omega
    ·have := of_decide_eq_true h4
     simp only [decide_eq_true_eq]; omega
    ·have := of_decide_eq_false h3
     have := of_decide_eq_false h4
     simp only [Bool.false_eq_true, false_iff]; omega
  ·have e : (decide (0 ≤ n) && decide (n ≤ 14)) = true := by simp [h14]
   rw [e]
   exact ⟨fun _ => ⟨h14, fun j hj => h j (by rwa [Ee_len] at hj)⟩, fun _ => rfl⟩
  ·simp only [Bool.false_eq_true, false_iff]
   exact fun hv => h (hv.2 j (by rw [Ee_len]; exact hj))
 ·refine Ok.mono (P := fun b => b = false) ?_ fun b hb => by subst hb; simp only [Bool.false_eq_true, false_iff]; exact VE_no h14
  unfold m_spec_AreValidEdges m_spec_l1In
  refine .forL (fun _ _ => True) (fun _ => False) (fun r => r = false) trivial (fun i x s hx _ => ?_) (fun s _ => .eq rfl (.ret ?_)) (fun r hr => .ret hr)
  ·refine .bind (P := fun _ => True) (.eq rfl (.cond (fun _ => .ret trivial) fun _ => .eq rfl (.cond (fun _ => .ret trivial) fun _ => ?_))) fun t _ => .cond (fun _ => .out rfl) fun _ => .next trivial
   have hi := (List.getElem?_eq_some_iff.1 hx).1
   refine .cond (fun h => ?_) fun _ => .ret trivial
   have h0 : 0 < i := by have := of_decide_eq_true h; omega
   exact .get (n := i - 1) (by omega) (by omega) (.cond (fun _ => .ret trivial) fun _ => .cond (fun _ => .ret trivial) fun _ => .ret trivial)
  ·simp only [Bool.and_eq_false_iff, decide_eq_false_iff_not]; omega
theorem impl_AreValidEdges_gen {n : Int} {es : List ConflictEdge} : Ok (m_impl_AreValidEdges n es) fun b => (b = true ↔ VE n (Ee es)) := by
 unfold m_impl_AreValidEdges m_impl_within
 refine .eq rfl (.cond (fun h => .ret ?_) fun h => ?_)
 ·simp only [Bool.false_eq_true, false_iff]
  refine VE_no fun hh => ?_
  simp only [Bool.not_eq_true', Bool.and_eq_false_iff, decide_eq_false_iff_not] at h
  omega
 ·have h14 : 0 ≤ n ∧ n ≤ 14 := by simpa using h
  refine .allL (OkE n (Ee es)) false (fun i x hx _ => .test ?_) (fun h => .ret ?_) (fun ⟨j, hj, h⟩ => .ret ?_)
  ·rw [OkE_at hx]
   refine .cond (fun h => .ret ?_) fun h => .cond (fun h2 => .ret ?_) fun h2 => .cond (fun h3 => .ret ?_) fun h3 => ?_
   ·have := of_decide_eq_true h
    simp only [true_iff]; omega
   ·have := of_decide_eq_true h2
    simp only [true_iff]; omega
   ·have := of_decide_eq_true h3
    simp only [true_iff]; omega
   ·have := of_decide_eq_false h
    have := of_decide_eq_false h2
    have := of_decide_eq_false h3
    refine edge_prev hx (A := 0 ≤ x.a ∧ x.a < x.b ∧ x.b < n) (by omega) fun v => .cond (fun h3 => .ret ?_) fun h3 => .cond (fun h4 => .ret ?_) fun h4 => .ret ?_
    ·have := of_decide_eq_true h3
     simp only [true_iff]; omega
    ·have := of_decide_eq_true h4
     simp only [decide_eq_true_eq]; omega
    ·have := of_decide_eq_false h3
     have := of_decide_eq_false h4
     simp only [Bool.false_eq_true, false_iff]; omega
  ·exact ⟨fun _ => ⟨h14, fun j hj => h j (by rwa [Ee_len] at hj)⟩, fun _ => rfl⟩
  ·simp only [Bool.false_eq_true, false_iff]
   exact fun hv => h (hv.2 j (by rw [Ee_len]; exact hj))
theorem VE_key {n : Int} {es : List (Int × Int)} (h : VE n es) : ∀ j, j < es.length → (j : Int) ≤ 15 * (es.getD j default).1 + (es.getD j default).2
 | 0, hj => by have := (h.2 0 hj).1; omega
 | j + 1, hj => by
  have h1 := VE_key h j (by omega)
  have h2 := (h.2 j (by omega)).1
  have h3 := h.2 (j + 1) hj
  have h4 := h3.2 (by omega)
  have h5 := h.1
  simp only [Nat.add_sub_cancel, lexlt] at h4
  have h6 := h3.1
  omega
theorem VE_RE {n : Int} {es : List ConflictEdge} (h : VE n (Ee es)) : RE es := by
 have h5 := h.1
 have hall : ∀ e ∈ es, -100 ≤ e.a ∧ e.a ≤ 100 ∧ -100 ≤ e.b ∧ e.b ≤ 100 := fun e he => by
  have := h.of_mem (e.a, e.b) (Ee_mem.2 he)
  simp only at this
  omega
 refine ⟨?_, hall⟩
 by_cases h0 : es.length = 0
 ·omega
 have hj : es.length - 1 < (Ee es).length := by rw [Ee_len]; omega
 have h1 := VE_key h _ hj
 have h2 := (h.2 _ hj).1
 omega
end Go.Proofs.Ytglgcncmjnjfgaa
set_option linter.unusedVariables false
set_option linter.unusedSimpArgs false
namespace Go.Proofs.Ytglgcncmjnjfgaa
open Go Go.Proofs Go.Sep
noncomputable def walkP (n : Int) (es : List ConflictEdge) : Nat → List Int → List (List Int)
 | 0, s => if tr (MI2 n es s) then [s] else []
 | k + 1, s => (if indB (Ee es) (s ++ [n - ((k : Int) + 1)]) then walkP n es k (s ++ [n - ((k : Int) + 1)]) else []) ++ walkP n es k s
theorem walkP_len (n : Int) (es : List ConflictEdge) : ∀ (k : Nat) (s : List Int), (walkP n es k s).length ≤ 2 ^ k
 | 0, s => by unfold walkP; split <;> simp
 | k + 1, s => by
  have h1 := walkP_len n es k (s ++ [n - ((k : Int) + 1)])
  have h2 := walkP_len n es k s
  unfold walkP
  rw [List.length_append, Nat.pow_succ]
  split
  ·omega
  ·rw [List.length_nil]; omega
theorem walkP_mem (n : Int) (es : List ConflictEdge) : ∀ (k : Nat) (s s' : List Int), s' ∈ walkP n es k s → MI2 n es s' ∧ s'.length ≤ s.length + k ∧ ∃ t, s' = s ++ t ∧ ∀ y ∈ t, n - (k : Int) ≤ y
 | 0, s, s', h => by
  unfold walkP at h
  split at h
  ·rename_i h2
   rw [List.mem_singleton] at h
   subst h
   exact ⟨tr_iff.1 h2, by omega, [], by simp, fun y hy => by cases hy⟩
  ·cases h
 | k + 1, s, s', h => by
  unfold walkP at h
  rcases List.mem_append.1 h with h | h
  ·split at h
   ·obtain ⟨h1, h2, t, h3, h4⟩ := walkP_mem n es k _ s' h
    refine ⟨h1, by simp at h2; omega, (n - ((k : Int) + 1)) :: t, by rw [h3]; simp, fun y hy => ?_⟩
    rcases List.mem_cons.1 hy with rfl | hy
    ·omega
    ·have := h4 y hy; omega
   ·cases h
  ·obtain ⟨h1, h2, t, h3, h4⟩ := walkP_mem n es k s s' h
   exact ⟨h1, by omega, t, h3, fun y hy => by have := h4 y hy; omega⟩
theorem walkP_sizes (n : Int) (es : List ConflictEdge) (k : Nat) (s : List Int) (h : s.length + k ≤ 14) : sizes (walkP n es k s) ≤ 14 * 2 ^ k := by
 have gen : ∀ l : List (List Int), (∀ x ∈ l, x.length ≤ 14) → sizes l ≤ 14 * l.length := by
  intro l
  induction l with
  | nil => intro _; simp [sizes]
  | cons x l ih =>
   intro hl
   have h1 := ih fun y hy => hl y (List.mem_cons_of_mem _ hy)
   have h2 := hl x List.mem_cons_self
   rw [sizes_cons, List.length_cons]; omega
 have h1 := gen (walkP n es k s) fun x hx => by have := (walkP_mem n es k s x hx).2.1; omega
 have h2 := walkP_len n es k s
 omega
theorem indB_unmet {es : List ConflictEdge} {x : Int} (h : ∀ e ∈ es, e.a ≠ x ∧ e.b ≠ x) (s : List Int) : indB (Ee es) (s ++ [x]) = indB (Ee es) s := by
 unfold indB
 rw [Ee_any, Ee_any]
 congr 1
 rw [Bool.eq_iff_iff, List.any_eq_true, List.any_eq_true]
 refine exists_congr fun e => and_congr_right fun he => ?_
 have := h e he
 simp [this.1, this.2]
theorem walkP_unmet {n : Int} {es : List ConflictEdge} {k : Nat} {s : List Int} {x : Nat} (hx : (x : Int) = n - ((k : Int) + 1)) (h : ∀ e ∈ es, e.a ≠ (x : Int) ∧ e.b ≠ (x : Int)) (hs : ∀ y ∈ s, y < (x : Int)) : walkP n es k s = [] := by
 rw [List.eq_nil_iff_forall_not_mem]
 intro s' hs'
 obtain ⟨h1, _, t, rfl, h3⟩ := walkP_mem n es k s s' hs'
 have hni : ¬ (x : Int) ∈ s ++ t := fun hm => by
  rcases List.mem_append.1 hm with hm | hm
  ·have := hs _ hm; omega
  ·have := h3 _ hm; omega
 have := h1.2.2.2 x (by omega)
 unfold fits at this
 rw [indB_unmet h, h1.2.2.1, decide_eq_false hni] at this
 cases this
theorem met_eq (es : List ConflictEdge) (x : Int) : forS (fun (i_16 : Int) (x_i_16 : ConflictEdge) (met10 : Bool) => cond met10 (some true) (cond (decide (x_i_16.a = x)) (some true) (some (decide (x_i_16.b = x))))) es 0 false = some (es.any fun e => decide (e.a = x) || decide (e.b = x)) := by
 obtain ⟨s, h1, h2⟩ := forS_ok (f := fun (i_16 : Int) (x_i_16 : ConflictEdge) (met10 : Bool) => cond met10 (some true) (cond (decide (x_i_16.a = x)) (some true) (some (decide (x_i_16.b = x))))) (xs := es) (s := false) (fun n s => s = (es.take n).any fun e => decide (e.a = x) || decide (e.b = x)) (by simp) fun n y s hy hI => by
  refine ⟨_, ?_, rfl⟩
  rw [List.take_add_one, hy, hI]
  simp only [Option.toList_some, List.any_append, List.any_cons, List.any_nil, Bool.or_false]
  cases (es.take n).any fun e => decide (e.a = x) || decide (e.b = x) <;> cases decide (y.a = x) <;> cases decide (y.b = x) <;> rfl
 rw [h1, h2, List.take_length]
theorem unmet_of {es : List ConflictEdge} {x : Int} (h : (es.any fun e => decide (e.a = x) || decide (e.b = x)) = false) : ∀ e ∈ es, e.a ≠ x ∧ e.b ≠ x := fun e he => by
 have := List.any_eq_false.1 h e he
 simp only [Bool.or_eq_true, decide_eq_true_eq, not_or] at this
 exact this
theorem spec_leaf {n : Int} (hn : 0 ≤ n ∧ n ≤ 14) {es : List ConflictEdge} (he : RE es) {s : List Int} (hs : s.length ≤ 14) : m_spec_IsMaximalIndependent n es s = some (tr (MI2 n es s)) := Ok_tr (spec_IsMaximalIndependent_ok hn he (by omega))
theorem impl_leaf {n : Int} (hn : 0 ≤ n ∧ n ≤ 14) {es : List ConflictEdge} (he : RE es) {s : List Int} (hs : s.length ≤ 14) : m_impl_IsMaximalIndependent n es s = some (tr (MI2 n es s)) := Ok_tr (impl_IsMaximalIndependent_ok hn he (by omega))
theorem pow_le14 {k : Nat} (h : k ≤ 14) : 2 ^ k ≤ 16384 := Nat.pow_le_pow_right (by decide) h
theorem l8Walk_eq {n : Int} (hn : 0 ≤ n ∧ n ≤ 14) {es : List ConflictEdge} (he : RE es) : ∀ (k u : Nat) (s : List Int) (x : Int), k < u → x = n - k → 0 ≤ x → s.length + k ≤ 14 → (∀ y ∈ s, y < x) → m_spec_l8Walk u n es s x = some (walkP n es k s)
 | 0, u + 1, s, x, hu, hx, h0, hs, hy => by
  simp only [m_spec_l8Walk]
  rw [cond_T' (by simp; omega), spec_leaf hn he (by omega), Option.bind_some]
  unfold walkP
  cases tr (MI2 n es s) with
  | true => simp only [cond_true, if_true]; rw [app_ok (by simp; omega)]; rfl
  | false => rfl
 | k + 1, u + 1, s, x, hu, hx, h0, hs, hy => by
  have hk : k ≤ 14 := by omega
  have h2k := pow_le14 hk
  have ex : x = n - ((k : Int) + 1) := by rw [hx]; push_cast; rfl
  have hxs : ¬ x ∈ s := fun h => by have := hy x h; omega
  have r1 := l8Walk_eq hn he k u (s ++ [x]) (x + 1) (by omega) (by omega) (by omega) (by simp; omega) (fun y h => by
   rcases List.mem_append.1 h with h | h
   ·have := hy y h; omega
   ·rw [List.mem_singleton] at h; omega)
  have r2 := l8Walk_eq hn he k u s (x + 1) (by omega) (by omega) (by omega) (by omega) (fun y h => by have := hy y h; omega)
  have l1 := walkP_len n es k (s ++ [x])
  have l2 := walkP_len n es k s
  obtain ⟨X, hX⟩ := Int.eq_ofNat_of_zero_le h0
  have un : (es.any fun e => decide (e.a = x) || decide (e.b = x)) = false → walkP n es k s = [] := fun h => by
   have h3 := unmet_of h
   subst hX
   exact walkP_unmet ex h3 hy
  simp only [m_spec_l8Walk]
  rw [cond_F' (by simp; omega), l8Fits_eq es s x (by omega), Option.bind_some, w64_id (by omega), r2, met_eq]
  simp only [Option.bind_some]
  have ef : fits (Ee es) s x = indB (Ee es) (s ++ [x]) := by unfold fits; rw [decide_eq_false hxs]; rfl
  have ew : walkP n es (k + 1) s = (if indB (Ee es) (s ++ [x]) then walkP n es k (s ++ [x]) else []) ++ walkP n es k s := by rw [walkP, ← ex]
  rw [ef, ew]
  cases indB (Ee es) (s ++ [x]) with
  | true =>
   simp only [cond_true, if_true]
   rw [app_ok (by simp; omega), Option.bind_some, app_ok (by simp; omega), Option.bind_some]
   simp only [List.nil_append]
   rw [r1, Option.bind_some]
   cases hm : es.any fun e => decide (e.a = x) || decide (e.b = x) with
   | true => simp only [cond_true]; rw [app_ok (by omega)]; rfl
   | false => rw [un hm]; simp
  | false =>
   simp only [cond_false]
   cases hm : es.any fun e => decide (e.a = x) || decide (e.b = x) with
   | true => simp only [cond_true]; rw [app_ok (by simp; omega)]; rfl
   | false => rw [un hm]; rfl
theorem search_eq {n : Int} (hn : 0 ≤ n ∧ n ≤ 14) {es : List ConflictEdge} (he : RE es) : ∀ (k u : Nat) (s : List Int) (x : Int) (out : List (List Int)), k < u → x = n - k → 0 ≤ x → s.length + k ≤ 14 → out.length + 2 ^ k ≤ 100000 → m_impl_MaximalIndependentSets_1 u x s n es out = some (out ++ walkP n es k s)
 | 0, u + 1, s, x, out, hu, hx, h0, hs, ho => by
  simp only [m_impl_MaximalIndependentSets_1]
  rw [cond_T' (by simp; omega), impl_leaf hn he (by omega), Option.bind_some]
  unfold walkP
  cases tr (MI2 n es s) with
  | true => simp only [cond_true, if_true]; rw [app_ok (by simp; omega), Option.bind_some, app_ok (by simp at ho ⊢; omega)]; rfl
  | false => simp
 | k + 1, u + 1, s, x, out, hu, hx, h0, hs, ho => by
  have hk : k ≤ 14 := by omega
  have h2k := pow_le14 hk
  rw [Nat.pow_succ] at ho
  have ex : x = n - ((k : Int) + 1) := by rw [hx]; push_cast; rfl
  have l1 := walkP_len n es k (s ++ [x])
  have r1 := search_eq hn he k u (s ++ [x]) (x + 1) out (by omega) (by omega) (by omega) (by simp; omega) (by omega)
  have r2 := search_eq hn he k u s (x + 1) out (by omega) (by omega) (by omega) (by omega) (by omega)
  have r3 := search_eq hn he k u s (x + 1) (out ++ walkP n es k (s ++ [x])) (by omega) (by omega) (by omega) (by omega) (by rw [List.length_append]; omega)
  have ew : walkP n es (k + 1) s = (if indB (Ee es) (s ++ [x]) then walkP n es k (s ++ [x]) else []) ++ walkP n es k s := by rw [walkP, ← ex]
  simp only [m_impl_MaximalIndependentSets_1]
  rw [cond_F' (by simp; omega), clone_eq s (by omega), Option.bind_some, app_ok (by simp; omega), Option.bind_some, impl_IsIndependent_eq, Option.bind_some, w64_id (by omega), ew]
  cases indB (Ee es) (s ++ [x]) with
  | true =>
   simp only [cond_true, if_true]
   rw [r1, Option.bind_some, r3]
   simp
  | false =>
   simp only [cond_false]
   rw [r2]
   simp
noncomputable def allMI (n : Int) (es : List ConflictEdge) : List (List Int) := if tr (VE n (Ee es)) then walkP n es n.toNat [] else []
theorem allMI_sizes (n : Int) (es : List ConflictEdge) : (allMI n es).length ≤ 16384 ∧ sizes (allMI n es) ≤ 229376 := by
 unfold allMI
 split
 ·rename_i h
  have hv := (tr_iff.1 h).1
  have h1 := walkP_len n es n.toNat []
  have h2 := walkP_sizes n es n.toNat [] (by simp; omega)
  have h3 := pow_le14 (k := n.toNat) (by omega)
  omega
 ·simp [sizes]
theorem allMI_mem {n : Int} {es : List ConflictEdge} {s : List Int} (h : s ∈ allMI n es) : MI2 n es s ∧ s.length ≤ 14 := by
 unfold allMI at h
 split at h
 ·rename_i h2
  have hv := (tr_iff.1 h2).1
  have := walkP_mem n es n.toNat [] s h
  exact ⟨this.1, by have := this.2.1; simp at this; omega⟩
 ·cases h
theorem spec_allMI {u : Nat} (hu : 1048577 < u) {n : Int} (hn : -9223372036854775808 ≤ n ∧ n ≤ 9223372036854775807) {es : List ConflictEdge} (he : ∀ e ∈ es, RdConflictEdge e) : m_spec_MaximalIndependentSets u n es = some (allMI n es) := by
 unfold m_spec_MaximalIndependentSets allMI
 rw [Ok_tr (spec_AreValidEdges_gen hn he), Option.bind_some]
 cases h : tr (VE n (Ee es)) with
 | false => rfl
 | true =>
  have hv := tr_iff.1 h
  have hn14 := hv.1
  simp only [Bool.not_true, cond_false, if_true]
  rw [l8Walk_eq hv.1 (VE_RE hv) n.toNat u [] 0 (by omega) (by omega) (by omega) (by simp; omega) (fun y hy => by cases hy)]
  rfl
theorem impl_allMI {u : Nat} (hu : 1048577 < u) {n : Int} {es : List ConflictEdge} : m_impl_MaximalIndependentSets u n es = some (allMI n es) := by
 unfold m_impl_MaximalIndependentSets allMI
 rw [Ok_tr impl_AreValidEdges_gen, Option.bind_some]
 cases h : tr (VE n (Ee es)) with
 | false => rfl
 | true =>
  have hv := tr_iff.1 h
  have hn14 := hv.1
  have h3 := pow_le14 (k := n.toNat) (by omega)
  simp only [Bool.not_true, cond_false, if_true]
  rw [search_eq hv.1 (VE_RE hv) n.toNat u [] 0 [] (by omega) (by omega) (by omega) (by simp; omega) (by simp; omega)]
  rfl
end Go.Proofs.Ytglgcncmjnjfgaa
set_option linter.unusedVariables false
set_option linter.unusedSimpArgs false
namespace Go.Proofs.Ytglgcncmjnjfgaa
open Go Go.Proofs Go.Sep
noncomputable def allPO (n : Int) (es p : List ConflictEdge) : List (List Int) := (allMI n es).filter fun s => tr (PO2 n es p s)
theorem allMI_VE {n : Int} {es : List ConflictEdge} {s : List Int} (h : s ∈ allMI n es) : (0 ≤ n ∧ n ≤ 14) ∧ RE es := by
 have := (allMI_mem h).1.1
 exact ⟨this.1, VE_RE this⟩
theorem spec_allPO {u : Nat} (hu : 1048577 < u) {n : Int} (hn : -9223372036854775808 ≤ n ∧ n ≤ 9223372036854775807) {es : List ConflictEdge} (he : ∀ e ∈ es, RdConflictEdge e) (p : List ConflictEdge) : m_spec_ParetoOptimalRepairs u n es p = some (allPO n es p) := by
 unfold m_spec_ParetoOptimalRepairs allPO
 rw [spec_allMI hu hn he, Option.bind_some, forS_filter (fun s => tr (PO2 n es p s)) fun i s o hs ho => ?_]
 ·rfl
 ·have hl := (allMI_sizes n es).1
  have hm := List.mem_of_getElem? hs
  have hi := (List.getElem?_eq_some_iff.1 hs).1
  have hv := allMI_VE hm
  have hsl := (allMI_mem hm).2
  rw [Ok_tr (spec_IsParetoOptimal_ok hv.1 hv.2 p (s := s) (by omega)), Option.bind_some]
  cases tr (PO2 n es p s) with
  | true => simp only [cond_true, if_true]; rw [app_ok (by simp; omega)]; rfl
  | false => rfl
theorem impl_allPO {u : Nat} (hu : 1048577 < u) {n : Int} {es : List ConflictEdge} (p : List ConflictEdge) : m_impl_ParetoOptimalRepairs u n es p = some (allPO n es p) := by
 unfold m_impl_ParetoOptimalRepairs allPO
 rw [impl_allMI hu, Option.bind_some, forS_filter (fun s => tr (PO2 n es p s)) fun i s o hs ho => ?_]
 ·rfl
 ·have hl := (allMI_sizes n es).1
  have hm := List.mem_of_getElem? hs
  have hi := (List.getElem?_eq_some_iff.1 hs).1
  have hv := allMI_VE hm
  have hsl := (allMI_mem hm).2
  rw [Ok_tr (impl_IsParetoOptimal_ok hu hv.1 hv.2 p (s := s) (by omega)), Option.bind_some]
  cases tr (PO2 n es p s) with
  | true => simp only [cond_true, if_true]; rw [app_ok (by simp; omega)]; rfl
  | false => rfl
theorem allPO_sizes (n : Int) (es p : List ConflictEdge) : sizes (allPO n es p) ≤ 229376 := by
 have h1 := (allMI_sizes n es).2
 have h2 := sizes_filter (fun s => tr (PO2 n es p s)) (allMI n es)
 unfold allPO; omega
theorem law_ParetoOptimalRepairs (n : Int) (es p : List ConflictEdge) (hn : -9223372036854775808 ≤ n ∧ n ≤ 9223372036854775807) (he : es.length ≤ 9223372036854775807 ∧ ∀ e ∈ es, RdConflictEdge e) (hp : p.length ≤ 9223372036854775807) : m_laws_FnExactParetoOptimalRepairs 1048578 n es p = some true := by
 unfold m_laws_FnExactParetoOptimalRepairs
 refine Ok.to (.bind (szCE_ok es (by omega) (by omega) he.1) fun r1 h1 => .cond (fun _ => .ret rfl) fun h2 => .bind (szCE_ok p (left := r1) (by have := of_decide_eq_false h2; omega) (by have := of_decide_eq_false h2; omega) hp) fun r4 h4 => .cond (fun _ => .ret rfl) fun h5 => ?_)
 have h2 := of_decide_eq_false h2
 have h5 := of_decide_eq_false h5
 have te := toCE_eq es (by omega)
 have tp := toCE_eq p (by omega)
 have hs := spec_allPO (u := 1048578) (by omega) hn he.2 p
 have hi := impl_allPO (u := 1048578) (n := n) (es := es) (by omega) p
 have hz := allPO_sizes n es p
 generalize allPO n es p = w at hs hi hz
 refine .eq te (.eq tp (.eq hs (.eq te (.eq tp (.eq hi (.eq (eqIntSS_eq w w) (.cf (by simp) (.eq te (.eq (eqCE_self es) (.cf (by simp) (.eq tp (.eq (eqCE_self p) (.cf (by simp) ?_)))))))))))))
 refine .bind (markCE_ok es (by omega) (k := 1) (by omega) (by omega)) fun r32 h32 => .bind (markCE_ok p (by omega) (k := r32.1) (by omega) (by omega)) fun r36 h36 => .bind (P := fun t => t = false) (.cf (by simp; omega) (.eq (eqIntSS_eq w w) (.ret (by simp)))) fun t ht => .cf ht ?_
 refine .eq (markIntSS_eq w 1 (by omega) (by omega)) (.eq (heldIntSS_eq w 1 (by omega) (by omega)) (.cf (by simp; omega) (.cf (by simp) ?_)))
 exact .eq te (.eq tp (.eq hi (.eq (eqIntSS_eq w w) (.cf (by simp) (.eq (heldIntSS_eq w 1 (by omega) (by omega)) (.cf (by simp; omega) (.cf (by simp) (.ret rfl))))))))
end Go.Proofs.Ytglgcncmjnjfgaa

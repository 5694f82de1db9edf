import Derived.Test.YtmecnecfkgneoaaGreatCRC
import Derived.Test.YtmecnecfkgneoaaGreatM0
import Derived.Test.YtmecnecfkgneoaaGreatCRD
import Derived.Test.YtmecnecfkgneoaaGreatCRE
set_option linter.unusedVariables false
set_option linter.unusedSimpArgs false
namespace Go.Proofs.YtmecnecfkgneoaaGreat
open Go Go.Proofs Go.Sep
theorem contains_eq (l : List Int) (v : Int) : m_slices_Contains_Sint_int l v = some (decide (v ∈ l)) := by
 unfold m_slices_Contains_Sint_int m_slices_Index_Sint_int
 refine (Ok.bind (P := fun z => decide (0 ≤ z) = decide (v ∈ l)) (Ok.forL (fun n _ => ∀ (j : Nat), j < n → l[j]? ≠ some v) (fun _ => False) (fun z => 0 ≤ z ∧ v ∈ l) (fun j hj => by omega) (fun n x s hx hI => ?_) (fun s hs => .ret ?_) (fun z hz => .ret ?_)) fun z hz => ⟨_, rfl, hz⟩).to
 ·refine .cond (fun h => .out ⟨by omega, ?_⟩) fun h => .next fun j hj hjv => ?_
  ·rw [of_decide_eq_true h]; exact List.mem_of_getElem? hx
  ·by_cases e : j = n
   ·subst e; rw [hx] at hjv; cases hjv; exact (of_decide_eq_false h) rfl
   ·exact hI j (by omega) hjv
 ·have h := hs.resolve_right id
  have : v ∉ l := fun hm => by
   obtain ⟨j, hj⟩ := List.getElem?_of_mem hm
   exact h j (List.getElem?_eq_some_iff.1 hj).1 hj
  simp [this]
 ·simp [hz.1, hz.2]
theorem l7Has_eq (l : List Int) (v : Int) : m_spec_l7Has l v = some (decide (v ∈ l)) := by
 unfold m_spec_l7Has
 refine Ok.to (.forL (fun n _ => ∀ (j : Nat), j < n → l[j]? ≠ some v) (fun _ => False) (fun z => z = true ∧ v ∈ l) (fun j hj => by omega) (fun n x s hx hI => ?_) (fun s hs => .ret ?_) (fun z hz => .ret ?_))
 ·refine .cond (fun h => .out ⟨rfl, ?_⟩) fun h => .next fun j hj hjv => ?_
  ·rw [← of_decide_eq_true h]; exact List.mem_of_getElem? hx
  ·by_cases e : j = n
   ·subst e; rw [hx] at hjv; cases hjv; exact (of_decide_eq_false h) rfl
   ·exact hI j (by omega) hjv
 ·have h := hs.resolve_right id
  have : v ∉ l := fun hm => by
   obtain ⟨j, hj⟩ := List.getElem?_of_mem hm
   exact h j (List.getElem?_eq_some_iff.1 hj).1 hj
  simp [this]
 ·simp [hz.1, hz.2]
theorem without_eq (a b : List Int) (ha : a.length ≤ 1048576) : m_impl_without a b = some (a.filter fun x => !decide (x ∈ b)) := by
 unfold m_impl_without
 refine Ok.to (.forS (fun n s => s = (a.take n).filter fun x => !decide (x ∈ b)) (by simp) (fun n x s hx hI => ?_) (fun s hI => .ret (by rw [hI, List.take_length])))
 have hn := (List.getElem?_eq_some_iff.1 hx).1
 have e : a.take (n + 1) = a.take n ++ [x] := by rw [List.take_add_one, hx]; rfl
 have hl := List.length_filter_le (fun x => !decide (x ∈ b)) (a.take n)
 rw [List.length_take] at hl
 subst hI
 refine .eq (contains_eq b x) (.cond (fun h => .app (by simp only [List.length_cons, List.length_nil]; omega) (.ret ?_)) fun h => .ret ?_)
 ·rw [e, List.filter_append, List.filter_cons_of_pos (by simpa using h), List.filter_nil]
 ·rw [e, List.filter_append, List.filter_cons_of_neg (by simpa using h), List.filter_nil, List.append_nil]
end Go.Proofs.YtmecnecfkgneoaaGreat
set_option linter.unusedVariables false
set_option linter.unusedSimpArgs false
namespace Go.Proofs.YtmecnecfkgneoaaGreat
open Go Go.Proofs Go.Sep
def AscB (n : Int) (l : List Int) : Prop := (∀ x ∈ l, 0 ≤ x ∧ x ≤ n - 1) ∧ l.Pairwise (· < ·)
theorem areIndices_iff (l : List Int) (n : Int) (h0 : 0 ≤ n) (h1 : n ≤ 1048576) : Ok (m_impl_areIndices l n) fun b => (b = true ↔ AscB n l) := by
 unfold m_impl_areIndices m_impl_within
 have adj : ∀ (l : List Int), (∀ (j : Nat) x y, l[j]? = some x → l[j + 1]? = some y → x < y) → l.Pairwise (· < ·) := by
  intro l
  induction l with
  | nil => intro _; exact .nil
  | cons a l ih =>
   intro h
   have hl := ih fun j x y hx hy => h (j + 1) x y (by simpa using hx) (by simpa using hy)
   refine .cons (fun y hy => ?_) hl
   cases l with
   | nil => cases hy
   | cons b l =>
    have hab := h 0 a b rfl rfl
    rcases List.mem_cons.1 hy with rfl | hy
    ·exact hab
    ·exact Int.lt_trans hab ((List.pairwise_cons.1 hl).1 y hy)
 refine Ok.forL (fun m _ => (∀ (j : Nat) x, j < m → l[j]? = some x → 0 ≤ x ∧ x ≤ n - 1) ∧ ∀ (j : Nat) x y, j + 1 < m → l[j]? = some x → l[j + 1]? = some y → x < y) (fun _ => False) (fun (r : Bool) => r = false ∧ ¬ AscB n l) ⟨fun j x hj => by omega, fun j x y hj => by omega⟩ (fun m x s hx ⟨hI, hJ⟩ => ?_) (fun s hs => .ret ⟨fun _ => ?_, fun _ => rfl⟩) (fun r hr => .ret ⟨fun h => absurd h (by rw [hr.1]; exact Bool.false_ne_true), fun h => (hr.2 h).elim⟩)
 ·have hm : m < l.length := (List.getElem?_eq_some_iff.1 hx).1
  rw [w64_id (x := n - 1) (by omega)]
  refine .bind (P := fun t => (t = true → ¬ AscB n l) ∧ (t = false → (0 ≤ x ∧ x ≤ n - 1) ∧ ∀ (j : Nat) y, j + 1 = m → l[j]? = some y → y < x)) ?_ fun t ht => .cond (fun h => .out ⟨rfl, ht.1 h⟩) fun h => .next ⟨fun j y hj hy => ?_, fun j y z hj hy hz => ?_⟩
  ·refine .bind (Ok.of rfl) fun b hb => ?_
   subst hb
   refine .cond (fun h => .ret ⟨fun _ ha => ?_, fun h => by cases h⟩) fun h => ?_
   ·have := ha.1 x (List.mem_of_getElem? hx)
    simp at h; omega
   ·have hr : 0 ≤ x ∧ x ≤ n - 1 := by simpa using h
    refine .cond (fun h0 => ?_) fun h0 => .ret ⟨(fun h => by cases h), fun _ => ⟨hr, fun j y hj hy => absurd (show (0 : Int) < (m : Int) by omega) (of_decide_eq_false h0)⟩⟩
    have hm0 : 0 < m := by simpa using h0
    refine .get (n := m - 1) (by omega) (by omega) (.ret ⟨fun h ha => ?_, fun h => ⟨hr, fun j y hj hy => ?_⟩⟩)
    ·have h1 : x ≤ l[m - 1] := by simpa using h
     have h2 := List.pairwise_iff_getElem.1 ha.2 (m - 1) m (by omega) hm (by omega)
     rw [List.getElem?_eq_getElem hm] at hx; cases hx
     omega
    ·have h1 : ¬ x ≤ l[m - 1] := by simpa using h
     have e : j = m - 1 := by omega
     subst e
     rw [List.getElem?_eq_getElem (by omega)] at hy; cases hy
     omega
  ·by_cases e : j = m
   ·subst e; rw [hx] at hy; cases hy; exact (ht.2 h).1
   ·exact hI j y (by omega) hy
  ·by_cases e : j + 1 = m
   ·subst e; rw [hx] at hz; cases hz; exact (ht.2 h).2 j y rfl hy
   ·exact hJ j y z (by omega) hy hz
 ·have h := hs.resolve_right id
  refine ⟨fun x hx => ?_, adj l fun j x y hx hy => h.2 j x y (List.getElem?_eq_some_iff.1 hy).1 hx hy⟩
  obtain ⟨j, hj⟩ := List.getElem?_of_mem hx
  exact h.1 j x (List.getElem?_eq_some_iff.1 hj).1 hj
end Go.Proofs.YtmecnecfkgneoaaGreat
set_option linter.unusedVariables false
set_option linter.unusedSimpArgs false
namespace Go.Proofs.YtmecnecfkgneoaaGreat
open Go Go.Proofs Go.Sep
theorem take_succ_getD {α : Type} (xs : List α) (d : α) (i : Nat) (h : i < xs.length) : xs.take (i + 1) = xs.take i ++ [xs.getD i d] := by
 rw [List.take_add_one]; simp [List.getD, h]
theorem wrap_pred {b : Int} (h : -9223372036854775808 ≤ b ∧ b ≤ 9223372036854775807) : (b = -9223372036854775808 ∧ IntKind.i64.wrap (b - 1) = 9223372036854775807) ∨ (-9223372036854775808 < b ∧ IntKind.i64.wrap (b - 1) = b - 1) := by
 by_cases e : b = -9223372036854775808
 ·subst e; exact .inl ⟨rfl, by decide⟩
 ·exact .inr ⟨by omega, (fits64 (by omega) (by omega)).symm⟩
def lexlt (a b : Int × Int) : Prop := a.1 < b.1 ∨ (a.1 = b.1 ∧ a.2 < b.2)
def OkE (n : Int) (es : List (Int × Int)) (j : Nat) : Prop := (0 ≤ (es.getD j default).1 ∧ (es.getD j default).1 < (es.getD j default).2 ∧ (es.getD j default).2 < n) ∧ (0 < j → lexlt (es.getD (j - 1) default) (es.getD j default))
def VE (n : Int) (es : List (Int × Int)) : Prop := (0 ≤ n ∧ n ≤ 14) ∧ ∀ j, j < es.length → OkE n es j
noncomputable def tr (p : Prop) : Bool := @decide p (Classical.propDecidable p)
theorem tr_true {p : Prop} (h : p) : tr p = true := by unfold tr; simp [h]
theorem tr_false {p : Prop} (h : ¬ p) : tr p = false := by unfold tr; simp [h]
theorem tr_iff {p : Prop} : tr p = true ↔ p := by unfold tr; simp
theorem getD_mem {α : Type} {xs : List α} {d : α} {i : Nat} (h : i < xs.length) : xs.getD i d ∈ xs := by simp [List.getD, h]
def Closed (n : Int) (p : List (Int × Int)) (S : List Int) : Prop := ∀ x ∈ S, (0 ≤ x ∧ x < n) ∧ ∃ a ∈ S, (a, x) ∈ p
def Cyc (n : Int) (p : List (Int × Int)) : Prop := ∃ S : List Int, S ≠ [] ∧ Closed n p S
def VP (n : Int) (es p : List (Int × Int)) : Prop := VE n es ∧ (∀ e ∈ p, e ∈ es ∨ (e.2, e.1) ∈ es) ∧ ¬ Cyc n p
def und (p : List (Int × Int)) (left : List Int) : List Int := left.filter (fun b => !(left.any fun a => decide ((a, b) ∈ p)))
def rst (p : List (Int × Int)) (left : List Int) : List Int := left.filter (fun n => !decide (n ∈ und p left))
theorem rst_closed {n p S left} (h : Closed n p S) (hs : ∀ x ∈ S, x ∈ left) : ∀ x ∈ S, x ∈ rst p left := fun x hx => by
 obtain ⟨_, a, ha, hp⟩ := h x hx
 refine List.mem_filter.2 ⟨hs x hx, ?_⟩
 simp only [Bool.not_eq_true', decide_eq_false_iff_not, und, List.mem_filter, not_and, Bool.not_eq_true, Bool.not_eq_false', Bool.not_eq_false]
 exact fun _ => List.any_eq_true.2 ⟨a, hs a ha, by simpa using hp⟩
theorem rst_len (p : List (Int × Int)) (left : List Int) : (rst p left).length ≤ left.length := List.length_filter_le _ _
theorem rst_sub {p : List (Int × Int)} {left : List Int} : ∀ x ∈ rst p left, x ∈ left := fun x hx => (List.mem_filter.1 hx).1
theorem rst_same {p left} (h : (rst p left).length = left.length) : ∀ b ∈ left, ∃ a ∈ left, (a, b) ∈ p := fun b hb => by
 have h1 := List.length_filter_eq_length_iff.1 h b hb
 simp only [Bool.not_eq_true', decide_eq_false_iff_not, und, List.mem_filter, not_and, Bool.not_eq_true, Bool.not_eq_false', Bool.not_eq_false] at h1
 obtain ⟨a, ha, h2⟩ := List.any_eq_true.1 (h1 hb)
 exact ⟨a, ha, by simpa using h2⟩
theorem range_mem {n : Int} {i : Nat} (h : ¬ (i : Int) < n) (x : Int) (h0 : 0 ≤ x ∧ x < n) : x ∈ (List.range i).map Int.ofNat :=
 List.mem_map.2 ⟨x.toNat, List.mem_range.2 (by omega), by simp; omega⟩
theorem range_in {i : Nat} {x : Int} (h : x ∈ (List.range i).map Int.ofNat) : 0 ≤ x ∧ x < i := by
 obtain ⟨j, hj, rfl⟩ := List.mem_map.1 h
 have := List.mem_range.1 hj
 simp; omega
theorem VE.of_mem {n es} (h : VE n es) : ∀ e ∈ es, 0 ≤ e.1 ∧ e.1 < e.2 ∧ e.2 < n := fun e he => by
 obtain ⟨j, hj, rfl⟩ := List.getElem_of_mem he
 have := (h.2 j hj).1
 simpa [List.getD, hj] using this
theorem pref_iff {n es} (h : VE n es) (a b : Int) : (a ≠ b ∧ ((if b < a then b else a), (if a < b then b else a)) ∈ es) ↔ ((a, b) ∈ es ∨ (b, a) ∈ es) := by
 constructor
 ·rintro ⟨h1, h2⟩
  by_cases hab : a < b
  ·rw [if_neg (by omega), if_pos hab] at h2; exact .inl h2
  ·rw [if_pos (by omega), if_neg hab] at h2; exact .inr h2
 ·rintro (h2 | h2)
  ·have := h.of_mem _ h2
   simp only at this
   exact ⟨by omega, by rw [if_neg (by omega), if_pos (by omega)]; exact h2⟩
  ·have := h.of_mem _ h2
   simp only at this
   exact ⟨by omega, by rw [if_pos (by omega), if_neg (by omega)]; exact h2⟩
theorem pref_in {n : Int} {es p : List (Int × Int)} (h : VE n es) (hp : ∀ e ∈ p, e ∈ es ∨ (e.2, e.1) ∈ es) {j : Nat} (hj : j < p.length) : (0 ≤ (p.getD j default).1 ∧ (p.getD j default).1 < n) ∧ (0 ≤ (p.getD j default).2 ∧ (p.getD j default).2 < n) := by
 rcases hp _ (getD_mem (d := default) hj) with h1 | h1
 ·have := h.of_mem _ h1; omega
 ·have := h.of_mem _ h1; simp only at this; omega
def cnt (g : List Bool) : Nat := g.count true
def Blocked (p : List (Int × Int)) (g : List Bool) (y : Nat) : Prop := ∃ a : Nat, a < g.length ∧ ((a : Int), (y : Int)) ∈ p ∧ g.getD a false = false
def Stable (p : List (Int × Int)) (g : List Bool) : Prop := ∀ y, y < g.length → g.getD y false = false → Blocked p g y
def freeA (p : List (Int × Int)) (g : List Bool) (x : Int) (i : Nat) : Bool := (p.take i).all (fun e => decide (e.2 ≠ x) || g.getD e.1.toNat false)
def Sound (n : Int) (p : List (Int × Int)) (g : List Bool) : Prop := ∀ S, Closed n p S → ∀ x ∈ S, g.getD x.toNat false = false
def RX (p : List (Int × Int)) (g0 g : List Bool) (x : Nat) : Prop := (g = g0 ∧ ∀ y, y < x → g0.getD y false = false → Blocked p g0 y) ∨ (cnt g0 < cnt g ∧ ¬ Stable p g0)
def PK (p : List (Int × Int)) (k : Nat) (g : List Bool) : Prop := k ≤ cnt g ∨ Stable p g
theorem freeA_succ (p : List (Int × Int)) (g : List Bool) (x : Int) (i : Nat) (h : i < p.length) : freeA p g x (i + 1) = (freeA p g x i && (decide ((p.getD i default).2 ≠ x) || g.getD (p.getD i default).1.toNat false)) := by
 unfold freeA; rw [take_succ_getD p default i h, List.all_append]; simp
theorem getD_set_ne (g : List Bool) (x y : Nat) (h : x ≠ y) : (g.set x true).getD y false = g.getD y false := by simp [List.getD, List.getElem?_set_ne h]
theorem cnt_set : ∀ (g : List Bool) (x : Nat), x < g.length → g.getD x false = false → cnt (g.set x true) = cnt g + 1
 | [], x, h, _ => by simp at h
 | b :: g, 0, h, e => by simp at e; subst e; simp [cnt]
 | b :: g, x + 1, h, e => by
  have := cnt_set g x (by simpa using h) (by simpa using e)
  unfold cnt at *
  simp only [List.set_cons_succ, List.count_cons, this]; omega
theorem set_same (g : List Bool) (x : Nat) (h : x < g.length) (e : g.getD x false = true) : g.set x true = g := by
 apply List.ext_getElem (by simp)
 intro j h1 h2
 rw [List.getElem_set]
 split
 ·rename_i hx; subst hx; simp [List.getD, h2] at e; exact e.symm
 ·rfl
theorem cnt_lt {g : List Bool} {x : Nat} (h : x < g.length) (e : g.getD x false = false) : cnt g < g.length := by
 have h1 := cnt_set g x h e
 have h2 : cnt (g.set x true) ≤ (g.set x true).length := List.count_le_length
 rw [List.length_set] at h2; omega
theorem free_false {p : List (Int × Int)} {g : List Bool} {x : Nat} (hin : ∀ j, j < p.length → 0 ≤ (p.getD j default).1 ∧ (p.getD j default).1 < g.length) (h : freeA p g x p.length = false) : Blocked p g x := by
 unfold freeA at h
 rw [List.take_length, List.all_eq_false] at h
 obtain ⟨e, he, h1⟩ := h
 obtain ⟨j, hj, rfl⟩ := List.getElem_of_mem he
 have h2 := hin j hj
 simp only [List.getD, List.getElem?_eq_getElem hj, Option.getD_some] at h2
 simp only [ne_eq, decide_not, Bool.or_eq_true, Bool.not_eq_true', decide_eq_false_iff_not, not_or, Decidable.not_not, Bool.not_eq_true] at h1
 refine ⟨p[j].1.toNat, by omega, ?_, h1.2⟩
 have e1 : ((p[j].1.toNat : Nat) : Int) = p[j].1 := by omega
 rw [e1, ← h1.1]; exact he
theorem free_true {p : List (Int × Int)} {g : List Bool} {x a : Int} (h : freeA p g x p.length = true) (hp : (a, x) ∈ p) : g.getD a.toNat false = true := by
 unfold freeA at h
 rw [List.take_length, List.all_eq_true] at h
 have := h _ hp
 simpa using this
theorem Sound.set {n p g} {x : Nat} (h : Sound n p g) (hx : x < g.length) (hf : freeA p g x p.length = true) : Sound n p (g.set x true) := fun S hS y hy => by
 obtain ⟨h1, a, ha, hp⟩ := hS y hy
 by_cases e : x = y.toNat
 ·have e2 : y = (x : Int) := by omega
  rw [e2] at hp
  have h2 := free_true hf hp
  rw [h S hS a ha] at h2; cases h2
 ·rw [getD_set_ne _ _ _ e]; exact h S hS y hy
theorem RX.free {p g0 g} {x : Nat} (h : RX p g0 g x) (hx : x < g.length) (hf : freeA p g x p.length = true) : RX p g0 (g.set x true) (x + 1) := by
 cases hb : g.getD x false with
 | true =>
  rw [set_same g x hx hb]
  rcases h with ⟨rfl, h⟩ | h
  ·refine .inl ⟨rfl, fun y hy hg => ?_⟩
   rcases Nat.lt_or_eq_of_le (Nat.le_of_lt_succ hy) with h1 | rfl
   ·exact h y h1 hg
   ·rw [hb] at hg; cases hg
  ·exact .inr h
 | false =>
  right
  rw [cnt_set g x hx hb]
  rcases h with ⟨rfl, h⟩ | h
  ·refine ⟨by omega, fun hs => ?_⟩
   obtain ⟨a, h1, h2, h3⟩ := hs x hx hb
   have := free_true hf h2
   simp only [Int.toNat_natCast] at this
   rw [h3] at this; cases this
  ·exact ⟨by omega, h.2⟩
theorem RX.stuck {p g0 g} {x : Nat} (hin : ∀ j, j < p.length → 0 ≤ (p.getD j default).1 ∧ (p.getD j default).1 < g.length) (h : RX p g0 g x) (hf : freeA p g x p.length = false) : RX p g0 g (x + 1) := by
 rcases h with ⟨rfl, h⟩ | h
 ·refine .inl ⟨rfl, fun y hy hg => ?_⟩
  rcases Nat.lt_or_eq_of_le (Nat.le_of_lt_succ hy) with h1 | rfl
  ·exact h y h1 hg
  ·exact free_false hin hf
 ·exact .inr h
theorem PK.next {p g0 g} {k x : Nat} (h : RX p g0 g x) (hx : g0.length ≤ x) (hk : PK p k g0) : PK p (k + 1) g := by
 rcases h with ⟨rfl, h⟩ | h
 ·exact .inr fun y hy hg => h y (by omega) hg
 ·rcases hk with hk | hk
  ·exact .inl (by omega)
  ·exact absurd hk h.2
theorem PK.end {p g} {k x : Nat} (hk : PK p k g) (hl : g.length ≤ k) (hx : x < g.length) (hb : g.getD x false = false) : Cyc g.length p := by
 rcases hk with hk | hs
 ·have := cnt_lt hx hb; omega
 ·refine ⟨((List.range g.length).filter fun y => !g.getD y false).map Int.ofNat, fun e => ?_, fun y hy => ?_⟩
  ·have : (x : Int) ∈ ((List.range g.length).filter fun y => !g.getD y false).map Int.ofNat := List.mem_map.2 ⟨x, List.mem_filter.2 ⟨List.mem_range.2 hx, by rw [hb]; rfl⟩, rfl⟩
   rw [e] at this; cases this
  ·obtain ⟨z, hz, rfl⟩ := List.mem_map.1 hy
   obtain ⟨hz1, hz2⟩ := List.mem_filter.1 hz
   have hz1 := List.mem_range.1 hz1
   obtain ⟨a, h1, h2, h3⟩ := hs z hz1 (by simpa using hz2)
   exact ⟨⟨by simp, by simp; omega⟩, (a : Int), List.mem_map.2 ⟨a, List.mem_filter.2 ⟨List.mem_range.2 h1, by rw [h3]; rfl⟩, rfl⟩, h2⟩
theorem sound_start (n : Int) (p : List (Int × Int)) (N : Nat) : Sound n p (List.replicate N false) := fun S hS x hx => by
 simp only [List.getD, List.getElem?_replicate]; split <;> rfl
theorem sound_end {N : Nat} {p g} (h : Sound N p g) (hl : g.length = N) (hall : ∀ x, x < N → g.getD x false = true) : ¬ Cyc N p := fun ⟨S, hne, hS⟩ => by
 obtain ⟨x, hx⟩ := List.exists_mem_of_ne_nil S hne
 have h1 := h S hS x hx
 have h2 := (hS x hx).1
 rw [hall x.toNat (by omega)] at h1; cases h1
def indB (es : List (Int × Int)) (s : List Int) : Bool := !(es.any fun e => decide (e.1 ∈ s) && decide (e.2 ∈ s))
def fits (es : List (Int × Int)) (s : List Int) (x : Int) : Bool := !decide (x ∈ s) && indB es (s ++ [x])
def adjB (es : List (Int × Int)) (a b : Int) : Bool := decide (((if b < a then b else a), (if a < b then b else a)) ∈ es)
theorem adjB_iff {n es} (h : VE n es) {a b : Int} (hne : a ≠ b) : adjB es a b = true ↔ ((a, b) ∈ es ∨ (b, a) ∈ es) := by
 unfold adjB
 rw [decide_eq_true_eq, ← pref_iff h]
 exact ⟨fun h => ⟨hne, h⟩, fun h => h.2⟩
def POx (es p : List (Int × Int)) (s : List Int) (x : Int) : Prop := x ∈ s ∨ ∃ y ∈ s, ((x, y) ∈ es ∨ (y, x) ∈ es) ∧ ¬ (x, y) ∈ p
theorem POx_any {es p s} {x : Int} (hx : ¬ x ∈ s) : POx es p s x ↔ (s.any fun y => (decide ((x, y) ∈ es) || decide ((y, x) ∈ es)) && !decide ((x, y) ∈ p)) = true := by
 rw [List.any_eq_true]
 constructor
 ·rintro (h1 | ⟨y, hy, h1, h2⟩)
  ·exact absurd h1 hx
  ·exact ⟨y, hy, by simp [h1, h2]⟩
 ·rintro ⟨y, hy, h1⟩
  exact .inr ⟨y, hy, by simpa using h1⟩
end Go.Proofs.YtmecnecfkgneoaaGreat
set_option linter.unusedVariables false
set_option linter.unusedSimpArgs false
namespace Go.Proofs.YtmecnecfkgneoaaGreat
open Go Go.Proofs Go.Sep
theorem Ok_tr {e : Option Bool} {P : Prop} (h : Ok e fun b => (b = true ↔ P)) : e = some (tr P) := by
 obtain ⟨b, h1, h2⟩ := h
 rw [h1]
 congr 1
 cases b with
 | true => rw [tr_true (h2.1 rfl)]
 | false => rw [tr_false (fun h => by have := h2.2 h; cases this)]
def Ee (l : List ConflictEdge) : List (Int × Int) := l.map fun e => (e.a, e.b)
theorem Ee_len (l : List ConflictEdge) : (Ee l).length = l.length := by simp [Ee]
theorem Ee_at {l : List ConflictEdge} {i : Nat} {e : ConflictEdge} (h : l[i]? = some e) : (Ee l).getD i default = (e.a, e.b) := by simp [Ee, List.getD, h]
theorem Ee_mem {l : List ConflictEdge} {e : ConflictEdge} : (e.a, e.b) ∈ Ee l ↔ e ∈ l := by
 simp only [Ee, List.mem_map]
 constructor
 ·rintro ⟨x, hx, h⟩
  cases x; cases e
  simp only [Prod.mk.injEq] at h
  obtain ⟨rfl, rfl⟩ := h
  exact hx
 ·intro h; exact ⟨e, h, rfl⟩
theorem Contains_edge (l : List ConflictEdge) (v : ConflictEdge) : m_slices_Contains_Simpl_ConflictEdge_impl_ConflictEdge l v = some (decide ((v.a, v.b) ∈ Ee l)) := by
 unfold m_slices_Contains_Simpl_ConflictEdge_impl_ConflictEdge m_slices_Index_Simpl_ConflictEdge_impl_ConflictEdge
 refine (Ok.bind (P := fun z => decide (0 ≤ z) = decide ((v.a, v.b) ∈ Ee l)) (Ok.forL (fun n _ => ∀ (j : Nat), j < n → l[j]? ≠ some v) (fun _ => False) (fun z => 0 ≤ z ∧ v ∈ l) (fun j hj => by omega) (fun n x s hx hI => ?_) (fun s hs => .ret ?_) (fun z hz => .ret ?_)) fun z hz => ⟨_, rfl, hz⟩).to
 ·refine .cond (fun h => .out ⟨by omega, ?_⟩) fun h => .next fun j hj hjv => ?_
  ·have h1 := of_decide_eq_true h
   have : v = x := by cases v; cases x; simp only [Prod.mk.injEq] at h1; obtain ⟨rfl, rfl⟩ := h1; rfl
   rw [this]; exact List.mem_of_getElem? hx
  ·by_cases e : j = n
   ·subst e; rw [hx] at hjv; cases hjv; exact (of_decide_eq_false h) rfl
   ·exact hI j (by omega) hjv
 ·have h := hs.resolve_right id
  have : v ∉ l := fun hm => by
   obtain ⟨j, hj⟩ := List.getElem?_of_mem hm
   exact h j (List.getElem?_eq_some_iff.1 hj).1 hj
  rw [decide_eq_false (fun h => this (Ee_mem.1 h))]; rfl
 ·rw [decide_eq_true (Ee_mem.2 hz.2)]; simp [hz.1]
theorem impl_IsPreferred_eq (p : List ConflictEdge) (a b : Int) : m_impl_IsPreferred p a b = some (decide ((a, b) ∈ Ee p)) := by
 unfold m_impl_IsPreferred
 rw [Contains_edge]; rfl
theorem some_edge {l : List ConflictEdge} {a b : Int} {c : ConflictEdge → Bool} (hc : ∀ e, c e = true ↔ (e.a = a ∧ e.b = b)) : ((forL (R := Bool) (fun (i_1 : Int) (x_i_1 : ConflictEdge) (_ : Unit) => cond (c x_i_1) (some (.ret true)) (some (.next ()))) l 0 ()).bind fun O2_ => onS O2_ (fun (_ : Unit) => some false) (fun r => some r)) = some (decide ((a, b) ∈ Ee l)) := by
 refine Ok.to (.allL (fun n => ∀ e, l[n]? = some e → c e = false) true (fun n x hx _ => .cond (fun h => .out ⟨rfl, fun h2 => by rw [h2 x hx] at h; cases h⟩) fun h => .next fun e he => by rw [hx] at he; cases he; exact h) (fun h => .ret ?_) (fun ⟨j, hj, h⟩ => .ret ?_))
 ·symm
  refine decide_eq_false fun hm => ?_
  obtain ⟨j, hj⟩ := List.getElem?_of_mem ((Ee_mem (e := (⟨a, b⟩ : ConflictEdge))).1 hm)
  have := h j (List.getElem?_eq_some_iff.1 hj).1 _ hj
  rw [(hc _).2 ⟨rfl, rfl⟩] at this; cases this
 ·symm
  refine decide_eq_true ?_
  have : c l[j] = true := by
   cases h2 : c l[j] with
   | true => rfl
   | false => exact (h fun e he => by rw [List.getElem?_eq_getElem hj] at he; cases he; exact h2).elim
  obtain ⟨h1, h2⟩ := (hc _).1 this
  rw [← h1, ← h2]
  exact Ee_mem.2 (List.getElem_mem hj)
theorem spec_IsPreferred_eq (p : List ConflictEdge) (a b : Int) : m_spec_IsPreferred p a b = some (decide ((a, b) ∈ Ee p)) := some_edge (c := fun e => decide (e.a = a) && decide (e.b = b)) fun e => by simp
theorem l28Edge_eq (l : List ConflictEdge) (a b : Int) : m_spec_l28Edge l a b = some (adjB (Ee l) a b) := some_edge (c := fun e => decide (e.a = (if b < a then b else a)) && decide (e.b = (if a < b then b else a))) fun e => by simp
def RE (es : List ConflictEdge) : Prop := es.length ≤ 1000 ∧ ∀ e ∈ es, -100 ≤ e.a ∧ e.a ≤ 100 ∧ -100 ≤ e.b ∧ e.b ≤ 100
theorem OkE_at {n : Int} {l : List ConflictEdge} {i : Nat} {e : ConflictEdge} (h : l[i]? = some e) : OkE n (Ee l) i ↔ (0 ≤ e.a ∧ e.a < e.b ∧ e.b < n) ∧ (0 < i → ∀ v, l[i - 1]? = some v → v.a < e.a ∨ (v.a = e.a ∧ v.b < e.b)) := by
 unfold OkE
 rw [Ee_at h]
 refine and_congr Iff.rfl ?_
 constructor
 ·intro h1 h0 v hv
  have := h1 h0
  rw [Ee_at hv] at this
  exact this
 ·intro h1 h0
  have hi : i - 1 < l.length := by have := (List.getElem?_eq_some_iff.1 h).1; omega
  rw [Ee_at (List.getElem?_eq_getElem hi)]
  exact h1 h0 _ (List.getElem?_eq_getElem hi)
theorem edge_prev {l : List ConflictEdge} {n : Nat} {x : ConflictEdge} (hx : l[n]? = some x) {f : ConflictEdge → Option Bool} {A : Prop} (hA : A) (hf : ∀ v, Ok (f v) fun t => (t = true ↔ ¬ (v.a < x.a ∨ (v.a = x.a ∧ v.b < x.b)))) : Ok (cond (decide (0 < (n : Int))) ((getI l ((n : Int) - 1)).bind f) (some false)) fun t => (t = true ↔ ¬ (A ∧ (0 < n → ∀ v, l[n - 1]? = some v → v.a < x.a ∨ (v.a = x.a ∧ v.b < x.b)))) := by
 have hn := (List.getElem?_eq_some_iff.1 hx).1
 refine .cond (fun h => ?_) fun h => .ret ?_
 ·have h0 : 0 < n := by have := of_decide_eq_true h; omega
  have hi : n - 1 < l.length := by omega
  refine .get (n := n - 1) (by omega) hi ((hf _).mono fun t ht => ?_)
  rw [ht]
  constructor
  ·intro h1 h2; exact h1 (h2.2 h0 _ (List.getElem?_eq_getElem hi))
  ·intro h1 h2
   refine h1 ⟨hA, fun _ v hv => ?_⟩
   rw [List.getElem?_eq_getElem hi] at hv; cases hv; exact h2
 ·have h0 : ¬ 0 < n := by have := of_decide_eq_false h; omega
  simp [hA, h0]
theorem spec_AreValidEdges_ok {n : Int} (hn : 0 ≤ n ∧ n ≤ 14) {es : List ConflictEdge} (he : RE es) : Ok (m_spec_AreValidEdges n es) fun b => (b = true ↔ VE n (Ee es)) := by
 unfold m_spec_AreValidEdges m_spec_l1In
 refine .allL (OkE n (Ee es)) false (fun i x hx _ => .test ?_) (fun h => .eq rfl (.ret ?_)) (fun ⟨j, hj, h⟩ => .ret ?_)
 ·have hb := he.2 x (List.mem_of_getElem? hx)
  rw [OkE_at hx, w64_id (x := x.b - 1) (by omega), w64_id (x := n - 1) (by omega)]
  refine .eq rfl (.cond (fun h => .ret ?_) fun h => .eq rfl (.cond (fun h2 => .ret ?_) fun h2 => ?_))
  ·simp only [Bool.not_eq_true', Bool.and_eq_false_iff, decide_eq_false_iff_not] at h
   simp only [true_iff]
   omega
  ·simp only [Bool.not_eq_true', Bool.and_eq_false_iff, decide_eq_false_iff_not] at h2
   simp only [true_iff]
   omega
  ·simp only [Bool.not_eq_false', Bool.and_eq_true, decide_eq_true_eq] at h h2
   refine edge_prev hx (A := 0 ≤ x.a ∧ x.a < x.b ∧ x.b < n) (by omega) fun v => .cond (fun h3 => .ret ?_) fun h3 => .cond (fun h4 => .ret ?_) fun h4 => .ret ?_
   ·have := of_decide_eq_true h3
    simp only [true_iff]; omega
   ·have := of_decide_eq_true h4
    simp only [decide_eq_true_eq]; omega
   ·have := of_decide_eq_false h3
    have := of_decide_eq_false h4
    simp only [Bool.false_eq_true, false_iff]; omega
 ·have e : (decide (0 ≤ n) && decide (n ≤ 14)) = true := by simp [hn]
  rw [e]
  exact ⟨fun _ => ⟨hn, fun j hj => h j (by rwa [Ee_len] at hj)⟩, fun _ => rfl⟩
 ·simp only [Bool.false_eq_true, false_iff]
  exact fun hv => h (hv.2 j (by rw [Ee_len]; exact hj))
theorem impl_AreValidEdges_ok {n : Int} (hn : 0 ≤ n ∧ n ≤ 14) {es : List ConflictEdge} (he : RE es) : Ok (m_impl_AreValidEdges n es) fun b => (b = true ↔ VE n (Ee es)) := by
 unfold m_impl_AreValidEdges m_impl_within
 refine .eq rfl (.cf (by simp [hn]) (.allL (OkE n (Ee es)) false (fun i x hx _ => .test ?_) (fun h => .ret ?_) (fun ⟨j, hj, h⟩ => .ret ?_)))
 ·rw [OkE_at hx]
  refine .cond (fun h => .ret ?_) fun h => .cond (fun h2 => .ret ?_) fun h2 => .cond (fun h3 => .ret ?_) fun h3 => ?_
  ·have := of_decide_eq_true h
   simp only [true_iff]; omega
  ·have := of_decide_eq_true h2
   simp only [true_iff]; omega
  ·have := of_decide_eq_true h3
   simp only [true_iff]; omega
  ·have := of_decide_eq_false h
   have := of_decide_eq_false h2
   have := of_decide_eq_false h3
   refine edge_prev hx (A := 0 ≤ x.a ∧ x.a < x.b ∧ x.b < n) (by omega) fun v => .cond (fun h3 => .ret ?_) fun h3 => .cond (fun h4 => .ret ?_) fun h4 => .ret ?_
   ·have := of_decide_eq_true h3
    simp only [true_iff]; omega
   ·have := of_decide_eq_true h4
    simp only [decide_eq_true_eq]; omega
   ·have := of_decide_eq_false h3
    have := of_decide_eq_false h4
    simp only [Bool.false_eq_true, false_iff]; omega
 ·exact ⟨fun _ => ⟨hn, fun j hj => h j (by rwa [Ee_len] at hj)⟩, fun _ => rfl⟩
 ·simp only [Bool.false_eq_true, false_iff]
  exact fun hv => h (hv.2 j (by rw [Ee_len]; exact hj))
theorem containsI_eq (l : List Int) (p : Int → Bool) {f : Int → Option Bool} (hf : ∀ x ∈ l, f x = some (p x)) : m_slices_ContainsFunc_Sint_int l f = some (l.any p) := by
 unfold m_slices_ContainsFunc_Sint_int m_slices_IndexFunc_Sint_int
 refine (Ok.bind (P := fun z => decide (0 ≤ z) = l.any p) (Ok.forL (fun n _ => ∀ (j : Nat) x, j < n → l[j]? = some x → p x = false) (fun _ => False) (fun z => 0 ≤ z ∧ ∃ x ∈ l, p x = true) (fun j x hj => by omega) (fun n x s hx hI => ?_) (fun s hs => ?_) (fun z hz => .ret ?_)) fun z hz => ⟨_, rfl, hz⟩).to
 ·refine .eq (hf x (List.mem_of_getElem? hx)) (.cond (fun h => .out ⟨by omega, x, List.mem_of_getElem? hx, h⟩) fun h => .next fun j y hj hy => ?_)
  by_cases e : j = n
  ·subst e; rw [hx] at hy; cases hy; exact h
  ·exact hI j y (by omega) hy
 ·refine .ret ?_
  have h := hs.resolve_right id
  have : l.any p = false := by
   rw [List.any_eq_false]
   intro x hx
   obtain ⟨j, hj⟩ := List.getElem?_of_mem hx
   rw [h j x (List.getElem?_eq_some_iff.1 hj).1 hj]; simp
  rw [this]; rfl
 ·have : l.any p = true := List.any_eq_true.2 hz.2
  rw [this]; simpa using hz.1
theorem filter_run {l : List Int} {q : Int → Bool} {f : Int → Int → List Int → Option (List Int)} (hl : l.length ≤ 1048576) (hf : ∀ (i : Int) x o, x ∈ l → o.length ≤ 1048576 → f i x o = some (if q x = true then o ++ [x] else o)) : ((forS f l 0 ([] : List Int)).bind fun o => some o) = some (l.filter q) := by
 refine Ok.to (.forS (fun n s => s = (l.take n).filter q) (by simp) (fun n x s hx hI => ?_) (fun s hI => .ret (by rw [hI, List.take_length])))
 have hn := (List.getElem?_eq_some_iff.1 hx).1
 have e : l.take (n + 1) = l.take n ++ [x] := by rw [List.take_add_one, hx]; rfl
 have h1 := List.length_filter_le q (l.take n)
 rw [List.length_take] at h1
 subst hI
 rw [hf _ _ _ (List.mem_of_getElem? hx) (by omega)]
 refine .ret ?_
 by_cases h : q x = true
 ·rw [if_pos h, e, List.filter_append, List.filter_cons_of_pos h, List.filter_nil]
 ·rw [if_neg h, e, List.filter_append, List.filter_cons_of_neg h, List.filter_nil, List.append_nil]
theorem impl_undominated_eq (p : List ConflictEdge) (left : List Int) (hl : left.length ≤ 1048576) : m_impl_undominated p left = some (und (Ee p) left) := by
 unfold m_impl_undominated
 refine filter_run hl fun i x o hx ho => ?_
 refine Ok.to (.eq (containsI_eq left (fun a => decide ((a, x) ∈ Ee p)) fun a _ => by unfold m_impl_undominated_1; rw [impl_IsPreferred_eq]; rfl) (.cond (fun h => .app (by simp; omega) (.ret ?_)) fun h => .ret ?_))
 ·rw [if_pos h]
 ·rw [if_neg (by rw [h]; decide)]
theorem spec_und_run (p : List ConflictEdge) (left : List Int) (hl : left.length ≤ 1048576) : ((forS (fun (i_9 : Int) (x_i_9 : Int) (out9 : (List Int)) => (forS (fun (k_11 : Int) (x_k_11 : Int) (top11 : Bool) => cond top11 ((m_spec_IsPreferred p x_k_11 x_i_9).bind fun r_14 => some (!r_14)) (some false)) left 0 true).bind fun (top11 : Bool) => cond top11 ((app 8 out9 ([x_i_9] : (List Int))).bind fun us_17 => some us_17) (some out9)) left 0 ([] : (List Int))).bind fun (out9 : (List Int)) => some out9) = some (und (Ee p) left) := by
 refine filter_run hl fun i x o hx ho => ?_
 refine Ok.to (.forS (fun n s => s = !((left.take n).any fun a => decide ((a, x) ∈ Ee p))) rfl (fun n y s hy hI => ?_) (fun s hI => ?_))
 ·have e : left.take (n + 1) = left.take n ++ [y] := by rw [List.take_add_one, hy]; rfl
  rw [e, List.any_append]
  refine .cond (fun h => .eq (spec_IsPreferred_eq p y x) (.ret ?_)) fun h => .ret ?_
  ·rw [h] at hI
   have : ((left.take n).any fun a => decide ((a, x) ∈ Ee p)) = false := by simpa using hI.symm
   rw [this]; simp
  ·rw [h] at hI
   have : ((left.take n).any fun a => decide ((a, x) ∈ Ee p)) = true := by simpa using hI.symm
   rw [this]; simp
 ·rw [List.take_length] at hI
  subst hI
  refine .cond (fun h => .app (by simp; omega) (.ret ?_)) fun h => .ret ?_
  ·rw [if_pos h]
  ·rw [if_neg (by rw [h]; decide)]
end Go.Proofs.YtmecnecfkgneoaaGreat
set_option linter.unusedVariables false
set_option linter.unusedSimpArgs false
namespace Go.Proofs.YtmecnecfkgneoaaGreat
open Go Go.Proofs Go.Sep
theorem areAcyclic_ok {u : Nat} (hu : 1048577 < u) {n : Int} (hn : 0 ≤ n ∧ n ≤ 14) (p : List ConflictEdge) : Ok (m_impl_areAcyclic u n p) fun b => (b = true ↔ ¬ Cyc n (Ee p)) := by
 unfold m_impl_areAcyclic
 obtain ⟨N, rfl⟩ := Int.eq_ofNat_of_zero_le hn.1
 refine .gN (by omega) (.forM (fun i s => s = (List.range i).map Int.ofNat) rfl (fun i s hi hI => ?_) (fun s hI => ?_))
 ·subst hI
  refine .app (by simp; omega) (.ret ?_)
  rw [List.range_succ, List.map_append]; rfl
 ·refine .while (fun left => left.length ≤ 14 ∧ (∀ x ∈ left, 0 ≤ x ∧ x < (N : Int)) ∧ ∀ S, Closed N (Ee p) S → ∀ x ∈ S, x ∈ left) (fun left => left.length) (fun left => left = [] ∧ ∀ S, Closed N (Ee p) S → ∀ x ∈ S, x ∈ left) (fun r => r = false ∧ Cyc N (Ee p)) (by rw [hI]; simp; omega) ⟨by rw [hI]; simp; omega, fun x hx => by rw [hI] at hx; exact range_in hx, fun S hS x hx => by rw [hI]; exact range_mem (by omega) x (hS x hx).1⟩ (fun left ⟨h1, h2, h3⟩ => ?_) (fun left h => .ret ?_) (fun r hr => .ret ?_)
  ·refine .cond (fun h => .eq (impl_undominated_eq p left (by omega)) (.eq (without_eq left _ (by omega)) (.cond (fun h4 => .out ⟨rfl, ?_⟩) fun h4 => .next ?_))) fun h => .brk ?_
   ·have h5 : (rst (Ee p) left).length = left.length := by have := of_decide_eq_true h4; unfold rst; omega
    refine ⟨left, fun e => ?_, fun x hx => ⟨h2 x hx, rst_same h5 x hx⟩⟩
    subst e; simp at h
   ·have h5 : (rst (Ee p) left).length ≠ left.length := by have := of_decide_eq_false h4; unfold rst; omega
    have h6 := rst_len (Ee p) left
    show (_ ∧ _ ∧ _) ∧ _
    refine ⟨⟨?_, fun x hx => h2 x (rst_sub x hx), fun S hS x hx => rst_closed hS (h3 S hS) x hx⟩, ?_⟩
    ·show (rst (Ee p) left).length ≤ 14; omega
    ·show (rst (Ee p) left).length < left.length; omega
   ·have : left.length = 0 := by have := of_decide_eq_false h; omega
    exact ⟨List.eq_nil_of_length_eq_zero this, h3⟩
  ·obtain ⟨rfl, h⟩ := h
   refine ⟨fun _ ⟨S, hne, hS⟩ => ?_, fun _ => rfl⟩
   obtain ⟨x, hx⟩ := List.exists_mem_of_ne_nil S hne
   have := h S hS x hx
   cases this
  ·rw [hr.1]
   exact ⟨fun h => (by cases h), fun h => (h hr.2).elim⟩
def inE (es : List ConflictEdge) (p : List ConflictEdge) (j : Nat) : Prop := ∀ e, p[j]? = some e → (e.a, e.b) ∈ Ee es ∨ (e.b, e.a) ∈ Ee es
theorem inE_all {es p : List ConflictEdge} (h : ∀ j, j < p.length → inE es p j) : ∀ e ∈ Ee p, e ∈ Ee es ∨ (e.2, e.1) ∈ Ee es := fun e he => by
 obtain ⟨x, hx, rfl⟩ := List.mem_map.1 he
 obtain ⟨j, hj⟩ := List.getElem?_of_mem hx
 exact h j (List.getElem?_eq_some_iff.1 hj).1 x hj
theorem inE_of {es p : List ConflictEdge} (h : ∀ e ∈ Ee p, e ∈ Ee es ∨ (e.2, e.1) ∈ Ee es) (j : Nat) : inE es p j := fun e he => h (e.a, e.b) (Ee_mem.2 (List.mem_of_getElem? he))
theorem impl_IsValidPreference_ok {u : Nat} (hu : 1048577 < u) {n : Int} (hn : 0 ≤ n ∧ n ≤ 14) {es : List ConflictEdge} (he : RE es) (p : List ConflictEdge) : Ok (m_impl_IsValidPreference u n es p) fun b => (b = true ↔ VP n (Ee es) (Ee p)) := by
 unfold m_impl_IsValidPreference
 refine .bind (impl_AreValidEdges_ok hn he) fun b hb => .cond (fun h => .ret ?_) fun h => .allL (inE es p) false (fun i x hx _ => .test ?_) (fun h2 => .bind (areAcyclic_ok hu hn p) fun c hc => .ret ?_) (fun ⟨j, hj, h2⟩ => .ret ?_)
 ·have : b = false := by simpa using h
  subst this
  exact ⟨fun h => (by cases h), fun h => by have := hb.2 h.1; cases this⟩
 ·refine .eq (Contains_edge es x) (.cond (fun h2 => .eq (Contains_edge es ⟨x.b, x.a⟩) (.ret ?_)) fun h2 => .ret ?_)
  ·have h2' : (x.a, x.b) ∉ Ee es := by simpa using h2
   simp only [Bool.not_eq_true', decide_eq_false_iff_not]
   constructor
   ·intro h3 h4
    rcases h4 x hx with h5 | h5
    ·exact h2' h5
    ·exact h3 h5
   ·intro h3 h4
    exact h3 fun e he => by rw [hx] at he; cases he; exact .inr h4
  ·have h2' : (x.a, x.b) ∈ Ee es := by simpa using h2
   simp only [Bool.false_eq_true, false_iff, Classical.not_not]
   exact fun e he => by rw [hx] at he; cases he; exact .inl h2'
 ·have : b = true := by simpa using h
  subst this
  rw [hc]
  exact ⟨fun h3 => ⟨hb.1 rfl, inE_all h2, h3⟩, fun h3 => h3.2.2⟩
 ·simp only [Bool.false_eq_true, false_iff]
  exact fun h3 => h2 (inE_of h3.2.1 j)
theorem spec_IsValidPreference_ok {n : Int} (hn : 0 ≤ n ∧ n ≤ 14) {es : List ConflictEdge} (he : RE es) (p : List ConflictEdge) : Ok (m_spec_IsValidPreference n es p) fun b => (b = true ↔ VP n (Ee es) (Ee p)) := by
 unfold m_spec_IsValidPreference
 refine .bind (spec_AreValidEdges_ok hn he) fun b hb => .cond (fun h => .ret ?_) fun h => ?_
 ·have : b = false := by simpa using h
  subst this
  exact ⟨fun h => (by cases h), fun h => by have := hb.2 h.1; cases this⟩
 have hbt : b = true := by simpa using h
 have hve := hb.1 hbt
 refine .allL (inE es p) false (fun i x hx _ => .test ?_) (fun h2 => ?_) (fun ⟨j, hj, h2⟩ => .ret ?_)
 ·have hi := pref_iff hve x.a x.b
  have hin : inE es p i ↔ ((x.a, x.b) ∈ Ee es ∨ (x.b, x.a) ∈ Ee es) := ⟨fun h => h x hx, fun h e he => by rw [hx] at he; cases he; exact h⟩
  rw [hin, ← hi]
  refine .cond (fun h2 => .ret ?_) fun h2 => .eq (l28Edge_eq es x.a x.b) (.ret ?_)
  ·have := of_decide_eq_true h2
   simp [this]
  ·have := of_decide_eq_false h2
   unfold adjB
   simp [this]
 ·obtain ⟨N, rfl⟩ := Int.eq_ofNat_of_zero_le hn.1
  have hq := inE_all h2
  have hpin : ∀ j, j < (Ee p).length → 0 ≤ ((Ee p).getD j default).1 ∧ ((Ee p).getD j default).1 < (N : Int) := fun j hj => (pref_in hve hq hj).1
  refine .mk (n := N) (by omega) (by omega) (.gN (by omega) (.forM (fun k g => g.length = N ∧ Sound N (Ee p) g ∧ PK (Ee p) k g) ⟨by simp, sound_start _ _ _, .inl (Nat.zero_le _)⟩ (fun k g hk ⟨hgl, hso, hpk⟩ => ?_) (fun g ⟨hgl, hso, hpk⟩ => .gN (by omega) (.allN (fun x => g.getD x false = true) false (fun x hx => ?_) (fun hall => .ret ?_) (fun ⟨x, hx, hb⟩ => .ret ?_)))))
  ·refine .gN (by omega) (.forM (fun x g' => g'.length = N ∧ Sound N (Ee p) g' ∧ RX (Ee p) g g' x) ⟨hgl, hso, .inl ⟨rfl, fun y hy => by omega⟩⟩ (fun x g' hx ⟨h4, h5, h6⟩ => ?_) (fun g' ⟨h4, h5, h6⟩ => .ret ⟨h4, h5, PK.next h6 (by omega) hpk⟩))
   have hin' : ∀ j, j < (Ee p).length → 0 ≤ ((Ee p).getD j default).1 ∧ ((Ee p).getD j default).1 < (g'.length : Int) := fun j hj => by rw [h4]; exact hpin j hj
   refine .forS (fun j f => f = freeA (Ee p) g' (x : Int) j) (by simp [freeA]) (fun j e f he hI => ?_) (fun f hI => ?_)
   ·have hj := (List.getElem?_eq_some_iff.1 he).1
    have hjE : j < (Ee p).length := by rw [Ee_len]; exact hj
    rw [freeA_succ _ _ _ _ hjE, Ee_at he, ← hI]
    have hp := hpin j hjE
    rw [Ee_at he] at hp
    refine .cond (fun hf => .cond (fun h7 => .ret ?_) fun h7 => .get' hp.1 (by rw [h4]; exact hp.2) fun q hq2 e2 => .ret ?_) fun hf => .ret ?_
    ·have := of_decide_eq_true h7
     rw [hf]; simp [this]
    ·have h8 : e.b = (x : Int) := by simpa using h7
     rw [hf, h8, e2]
     simp [List.getD, hq2]
    ·rw [hf]; simp
   ·rw [← Ee_len] at hI
    refine .cond (fun hf => .get rfl (by omega) (.ret ?_)) fun hf => .ret ?_
    ·have hfa : freeA (Ee p) g' (x : Int) (Ee p).length = true := by rw [← hI]; exact hf
     simp only [Int.toNat_natCast]
     exact ⟨by simpa using h4, h5.set (by omega) hfa, h6.free (by omega) hfa⟩
    ·have hfa : freeA (Ee p) g' (x : Int) (Ee p).length = false := by rw [← hI]; exact hf
     exact ⟨h4, h5, h6.stuck hin' hfa⟩
  ·have hx' : x < g.length := by omega
   refine .get rfl hx' (.cond (fun h7 => .out ⟨rfl, ?_⟩) fun h7 => .next ?_)
   ·have : g[x] = false := by simpa using h7
    simp [List.getD, hx', this]
   ·have : g[x] = true := by simpa using h7
    simp [List.getD, hx', this]
  ·exact ⟨fun _ => ⟨hve, hq, sound_end hso hgl hall⟩, fun _ => rfl⟩
  ·simp only [Bool.false_eq_true, false_iff]
   intro h7
   have hb' : g.getD x false = false := by simpa using hb
   have := PK.end hpk (by omega) (by omega) hb'
   rw [hgl] at this
   exact h7.2.2 this
 ·simp only [Bool.false_eq_true, false_iff]
  exact fun h3 => h2 (inE_of h3.2.1 j)
theorem l8Set_eq (n : Int) (s : List Int) : m_spec_l8Set n s = m_impl_areIndices s n := rfl
end Go.Proofs.YtmecnecfkgneoaaGreat
set_option linter.unusedVariables false
set_option linter.unusedSimpArgs false
namespace Go.Proofs.YtmecnecfkgneoaaGreat
open Go Go.Proofs Go.Sep
def MI2 (n : Int) (es : List ConflictEdge) (s : List Int) : Prop := VE n (Ee es) ∧ AscB n s ∧ indB (Ee es) s = true ∧ ∀ x : Nat, (x : Int) < n → fits (Ee es) s x = false
def PO2 (n : Int) (es p : List ConflictEdge) (s : List Int) : Prop := VP n (Ee es) (Ee p) ∧ MI2 n es s ∧ ∀ x : Nat, (x : Int) < n → POx (Ee es) (Ee p) s x
theorem Ee_any (es : List ConflictEdge) (q : Int × Int → Bool) : (Ee es).any q = es.any fun e => q (e.a, e.b) := by simp only [Ee, List.any_map]; rfl
theorem spec_IsIndependent_eq (es : List ConflictEdge) (s : List Int) : m_spec_IsIndependent es s = some (indB (Ee es) s) := by
 unfold m_spec_IsIndependent indB
 rw [Ee_any]
 refine Ok.to (.allL (fun j => ∀ e, es[j]? = some e → (decide (e.a ∈ s) && decide (e.b ∈ s)) = false) false (fun j e he _ => .test ?_) (fun h => .ret ?_) (fun ⟨j, hj, h⟩ => .ret ?_))
 ·have key : (∀ e', es[j]? = some e' → (decide (e'.a ∈ s) && decide (e'.b ∈ s)) = false) ↔ (decide (e.a ∈ s) && decide (e.b ∈ s)) = false := ⟨fun h => h e he, fun h e' he' => by rw [he] at he'; cases he'; exact h⟩
  rw [key]
  refine .eq (l7Has_eq s e.a) (.cond (fun h => .eq (l7Has_eq s e.b) (.ret ?_)) fun h => .ret ?_)
  ·rw [h]; simp
  ·rw [h]; simp
 ·symm
  rw [Bool.not_eq_true', List.any_eq_false]
  intro e he
  obtain ⟨j, hj⟩ := List.getElem?_of_mem he
  have := h j (List.getElem?_eq_some_iff.1 hj).1 e hj
  simp only [this]; decide
 ·symm
  rw [Bool.not_eq_false', List.any_eq_true]
  refine ⟨es[j], List.getElem_mem hj, ?_⟩
  cases h2 : decide (es[j].a ∈ s) && decide (es[j].b ∈ s) with
  | true => rfl
  | false => exact (h fun e he => by rw [List.getElem?_eq_getElem hj] at he; cases he; exact h2).elim
theorem containsE_eq (l : List ConflictEdge) (p : ConflictEdge → Bool) {f : ConflictEdge → Option Bool} (hf : ∀ x ∈ l, f x = some (p x)) : m_slices_ContainsFunc_Simpl_ConflictEdge_impl_ConflictEdge l f = some (l.any p) := by
 unfold m_slices_ContainsFunc_Simpl_ConflictEdge_impl_ConflictEdge m_slices_IndexFunc_Simpl_ConflictEdge_impl_ConflictEdge
 refine (Ok.bind (P := fun z => decide (0 ≤ z) = l.any p) (Ok.forL (fun n _ => ∀ (j : Nat) x, j < n → l[j]? = some x → p x = false) (fun _ => False) (fun z => 0 ≤ z ∧ ∃ x ∈ l, p x = true) (fun j x hj => by omega) (fun n x s hx hI => ?_) (fun s hs => ?_) (fun z hz => .ret ?_)) fun z hz => ⟨_, rfl, hz⟩).to
 ·refine .eq (hf x (List.mem_of_getElem? hx)) (.cond (fun h => .out ⟨by omega, x, List.mem_of_getElem? hx, h⟩) fun h => .next fun j y hj hy => ?_)
  by_cases e : j = n
  ·subst e; rw [hx] at hy; cases hy; exact h
  ·exact hI j y (by omega) hy
 ·refine .ret ?_
  have h := hs.resolve_right id
  have : l.any p = false := by
   rw [List.any_eq_false]
   intro x hx
   obtain ⟨j, hj⟩ := List.getElem?_of_mem hx
   rw [h j x (List.getElem?_eq_some_iff.1 hj).1 hj]; simp
  rw [this]; rfl
 ·have : l.any p = true := List.any_eq_true.2 hz.2
  rw [this]; simpa using hz.1
theorem impl_IsIndependent_eq (es : List ConflictEdge) (s : List Int) : m_impl_IsIndependent es s = some (indB (Ee es) s) := by
 unfold m_impl_IsIndependent indB
 rw [Ee_any, containsE_eq es (fun e => decide (e.a ∈ s) && decide (e.b ∈ s)) fun e _ => ?_]
 ·rfl
 ·unfold m_impl_IsIndependent_1
  rw [contains_eq, Option.bind_some, contains_eq]
  cases decide (e.a ∈ s) <;> rfl
theorem l8Fits_eq (es : List ConflictEdge) (s : List Int) (x : Int) (hs : s.length ≤ 1048576) : m_spec_l8Fits es s x = some (fits (Ee es) s x) := by
 unfold m_spec_l8Fits fits
 refine Ok.to (.bind (P := fun t => t = (!decide (x ∈ s) && indB (Ee es) (s ++ [x]))) (.eq (l7Has_eq s x) (.cond (fun h => .app (by simp; omega) (.app (by simp; omega) (.eq (spec_IsIndependent_eq es _) (.ret ?_)))) fun h => .ret ?_)) fun t ht => .ret ht)
 ·rw [h, List.nil_append]; rfl
 ·rw [h]; rfl
theorem spec_IsMaximalIndependent_ok {n : Int} (hn : 0 ≤ n ∧ n ≤ 14) {es : List ConflictEdge} (he : RE es) {s : List Int} (hs : s.length ≤ 1048576) : Ok (m_spec_IsMaximalIndependent n es s) fun b => (b = true ↔ MI2 n es s) := by
 unfold m_spec_IsMaximalIndependent
 obtain ⟨N, rfl⟩ := Int.eq_ofNat_of_zero_le hn.1
 refine .bind (P := fun t => (t = false ↔ VE N (Ee es) ∧ AscB N s ∧ indB (Ee es) s = true)) (.bind (spec_AreValidEdges_ok hn he) fun b hb => .cond (fun h => .ret ?_) fun h => ?_) fun t ht => .cond (fun h => .ret ?_) fun h => .gN (by omega) (.allN (fun x => fits (Ee es) s x = false) false (fun x hx => ?_) (fun hall => .ret ?_) (fun ⟨x, hx, hb⟩ => .ret ?_))
 ·have : b = false := by simpa using h
  subst this
  exact ⟨fun h => (by cases h), fun h => by have := hb.2 h.1; cases this⟩
 ·have : b = true := by simpa using h
  subst this
  have hv := hb.1 rfl
  rw [l8Set_eq]
  refine .bind (areIndices_iff s N (by omega) (by omega)) fun c hc => .cond (fun h2 => .ret ?_) fun h2 => .eq (spec_IsIndependent_eq es s) (.ret ?_)
  ·have : c = false := by simpa using h2
   subst this
   exact ⟨fun h => (by cases h), fun h => by have := hc.2 h.2.1; cases this⟩
  ·have : c = true := by simpa using h2
   subst this
   simp only [Bool.not_eq_false']
   exact ⟨fun h => ⟨hv, hc.1 rfl, h⟩, fun h => h.2.2⟩
 ·simp only [Bool.false_eq_true, false_iff]
  intro hm
  have := ht.2 ⟨hm.1, hm.2.1, hm.2.2.1⟩
  rw [h] at this; cases this
 ·refine .eq (l8Fits_eq es s x hs) (.cond (fun h2 => .out ⟨rfl, by rw [h2]; decide⟩) fun h2 => .next h2)
 ·obtain ⟨h1, h2, h3⟩ := ht.1 h
  exact ⟨fun _ => ⟨h1, h2, h3, fun x hx => hall x (by omega)⟩, fun _ => rfl⟩
 ·simp only [Bool.false_eq_true, false_iff]
  exact fun hm => hb (hm.2.2.2 x (by omega))
theorem clone_eq (s : List Int) (hs : s.length ≤ 1048576) : m_slices_Clone_Sint_int s = some s := by
 unfold m_slices_Clone_Sint_int
 first
  | (exact Ok.to (.app (by simp; omega) (.ret (by simp))))
  | (exact Ok.to (.cut (i := 0) (j := 0) rfl rfl (by omega) (by omega) (.app (by simp; omega) (.ret (by simp)))))
  | (refine Ok.to (.cond (fun h => .ret ?_) fun h => .app (by simp; omega) (.ret (by simp))); simpa using h)
theorem impl_IsMaximalIndependent_ok {n : Int} (hn : 0 ≤ n ∧ n ≤ 14) {es : List ConflictEdge} (he : RE es) {s : List Int} (hs : s.length ≤ 1048576) : Ok (m_impl_IsMaximalIndependent n es s) fun b => (b = true ↔ MI2 n es s) := by
 unfold m_impl_IsMaximalIndependent m_impl_isIndependentSet
 obtain ⟨N, rfl⟩ := Int.eq_ofNat_of_zero_le hn.1
 refine .bind (P := fun t => (t = true ↔ VE N (Ee es) ∧ AscB N s ∧ indB (Ee es) s = true)) (.bind (P := fun t => (t = true ↔ VE N (Ee es) ∧ AscB N s ∧ indB (Ee es) s = true)) (.bind (impl_AreValidEdges_ok hn he) fun b hb => .cond (fun h => ?_) fun h => .ret ?_) fun t ht => .ret ht) fun t ht => .cond (fun h => .ret ?_) fun h => .gN (by omega) (.allN (fun x => fits (Ee es) s x = false) false (fun x hx => ?_) (fun hall => .ret ?_) (fun ⟨x, hx, hb⟩ => .ret ?_))
 ·have hv := hb.1 h
  refine .bind (areIndices_iff s N (by omega) (by omega)) fun c hc => .cond (fun h2 => .eq (impl_IsIndependent_eq es s) (.ret ?_)) fun h2 => .ret ?_
  ·exact ⟨fun h => ⟨hv, hc.1 h2, h⟩, fun h => h.2.2⟩
  ·subst h2
   exact ⟨fun h => (by cases h), fun h => by have := hc.2 h.2.1; cases this⟩
 ·subst h
  exact ⟨fun h => (by cases h), fun h => by have := hb.2 h.1; cases this⟩
 ·have ht' : t = false := by simpa using h
  subst ht'
  simp only [Bool.false_eq_true, false_iff]
  intro hm
  have := ht.2 ⟨hm.1, hm.2.1, hm.2.2.1⟩
  cases this
 ·refine .test (.eq (contains_eq s _) (.cond (fun h2 => .eq (clone_eq s hs) (.app (by simp; omega) (.eq (impl_IsIndependent_eq es _) (.ret ?_)))) fun h2 => .ret ?_))
  ·unfold fits
   rw [h2]; simp
  ·unfold fits
   rw [h2]; simp
 ·have ht' : t = true := by simpa using h
  obtain ⟨h1, h2, h3⟩ := ht.1 ht'
  exact ⟨fun _ => ⟨h1, h2, h3, fun x hx => hall x (by omega)⟩, fun _ => rfl⟩
 ·simp only [Bool.false_eq_true, false_iff]
  exact fun hm => hb (hm.2.2.2 x (by omega))
theorem impl_IsParetoOptimal_ok {u : Nat} (hu : 1048577 < u) {n : Int} (hn : 0 ≤ n ∧ n ≤ 14) {es : List ConflictEdge} (he : RE es) (p : List ConflictEdge) {s : List Int} (hs : s.length ≤ 1048576) : Ok (m_impl_IsParetoOptimal u n es p s) fun b => (b = true ↔ PO2 n es p s) := by
 unfold m_impl_IsParetoOptimal
 obtain ⟨N, rfl⟩ := Int.eq_ofNat_of_zero_le hn.1
 refine .bind (P := fun t => (t = false ↔ VP N (Ee es) (Ee p) ∧ MI2 N es s)) (.bind (impl_IsValidPreference_ok hu hn he p) fun b hb => .cond (fun h => .ret ?_) fun h => .bind (impl_IsMaximalIndependent_ok hn he hs) fun c hc => .ret ?_) fun t ht => .cond (fun h => .ret ?_) fun h => .gN (by omega) (.allN (fun x => POx (Ee es) (Ee p) s x) false (fun x hx => .test ?_) (fun hall => .ret ?_) (fun ⟨x, hx, hb⟩ => .ret ?_))
 ·have : b = false := by simpa using h
  subst this
  exact ⟨fun h => (by cases h), fun h => by have := hb.2 h.1; cases this⟩
 ·have : b = true := by simpa using h
  subst this
  have hv := hb.1 rfl
  rw [Bool.not_eq_false', hc]
  exact ⟨fun h => ⟨hv, h⟩, fun h => h.2⟩
 ·simp only [Bool.false_eq_true, false_iff]
  intro hm
  have := ht.2 ⟨hm.1, hm.2.1⟩
  rw [h] at this; cases this
 ·refine .eq (contains_eq s _) (.cond (fun h2 => .eq (containsI_eq s (fun y => (decide (((x : Int), y) ∈ Ee es) || decide ((y, (x : Int)) ∈ Ee es)) && !decide (((x : Int), y) ∈ Ee p)) fun y _ => ?_) (.ret ?_)) fun h2 => .ret ?_)
  ·unfold m_impl_IsParetoOptimal_1 m_impl_inConflict
   rw [Contains_edge, Contains_edge, impl_IsPreferred_eq]
   cases decide (((x : Int), y) ∈ Ee es) <;> cases decide ((y, (x : Int)) ∈ Ee es) <;> rfl
  ·have hx' : ¬ (x : Int) ∈ s := by simpa using h2
   rw [POx_any hx']; simp
  ·have hx' : (x : Int) ∈ s := by simpa using h2
   simp only [Bool.false_eq_true, false_iff, Classical.not_not]
   exact .inl hx'
 ·obtain ⟨h1, h2⟩ := ht.1 h
  exact ⟨fun _ => ⟨h1, h2, fun x hx => hall x (by omega)⟩, fun _ => rfl⟩
 ·simp only [Bool.false_eq_true, false_iff]
  exact fun hm => hb (hm.2.2 x (by omega))
end Go.Proofs.YtmecnecfkgneoaaGreat
set_option linter.unusedVariables false
set_option linter.unusedSimpArgs false
namespace Go.Proofs.YtmecnecfkgneoaaGreat
open Go Go.Proofs Go.Sep
noncomputable def undF (n : Int) (es p : List ConflictEdge) (left : List Int) : List Int := if tr (VP n (Ee es) (Ee p)) && tr (AscB n left) then und (Ee p) left else []
theorem spec_UndominatedFacts_eq {n : Int} (hn : 0 ≤ n ∧ n ≤ 14) {es : List ConflictEdge} (he : RE es) (p : List ConflictEdge) {left : List Int} (hl : left.length ≤ 1048576) : m_spec_UndominatedFacts n es p left = some (undF n es p left) := by
 unfold m_spec_UndominatedFacts undF
 have h1 := Ok_tr (spec_IsValidPreference_ok hn he p)
 have h2 := Ok_tr (areIndices_iff left n hn.1 (by omega))
 rw [h1, Option.bind_some]
 cases tr (VP n (Ee es) (Ee p)) with
 | false => rfl
 | true =>
  rw [l8Set_eq, h2, Option.bind_some]
  cases tr (AscB n left) with
  | false => rfl
  | true =>
   refine Ok.to (.bind (Ok.of rfl) fun t ht => .cf (by rw [ht]; rfl) ?_)
   exact ⟨_, spec_und_run p left hl, rfl⟩
end Go.Proofs.YtmecnecfkgneoaaGreat
set_option linter.unusedVariables false
set_option linter.unusedSimpArgs false
namespace Go.Proofs.YtmecnecfkgneoaaGreat
open Go Go.Proofs Go.Sep
theorem l28Rest_eq (l : List ConflictEdge) (left : List Int) (x : Int) (hl : left.length ≤ 1048576) : m_spec_l28Rest l left x = some (left.filter fun y => decide (y ≠ x) && !adjB (Ee l) y x) := by
 unfold m_spec_l28Rest
 refine filter_run hl fun i y o hy ho => ?_
 refine Ok.to (.bind (P := fun t => t = (decide (y ≠ x) && !adjB (Ee l) y x)) (.cond (fun h => .eq (l28Edge_eq l y x) (.ret (by rw [h]; rfl))) fun h => .ret (by rw [h]; rfl)) fun t ht => ?_)
 subst ht
 refine .cond (fun h => .app (by simp; omega) (.ret ?_)) fun h => .ret ?_
 ·rw [if_pos h]
 ·rw [if_neg (by rw [h]; decide)]
theorem l28All_ok {u : Nat} (hu : 1048577 < u) {N : Nat} (hn : N ≤ 14) : Ok (m_spec_l28All u N) fun l => l = (List.range N).map Int.ofNat := by
 unfold m_spec_l28All
 refine .while (fun l => l.length ≤ N ∧ l = (List.range l.length).map Int.ofNat) (fun l => N - l.length) (fun l => l = (List.range N).map Int.ofNat) (fun _ => False) (by simp only [List.length_nil]; omega) ⟨by simp, rfl⟩ (fun l ⟨h1, h2⟩ => ?_) (fun l h => .ret h) (fun _ h => h.elim)
 refine .cond (fun h => .app (by simp; omega) (.next ⟨⟨?_, ?_⟩, ?_⟩)) fun h => .brk ?_
 ·have := of_decide_eq_true h
  simp; omega
 ·have e : (l ++ [(l.length : Int)]).length = l.length + 1 := by simp
  rw [e, List.range_succ, List.map_append, ← h2]; rfl
 ·have := of_decide_eq_true h
  simp; omega
 ·have := of_decide_eq_false h
  have e : l.length = N := by omega
  rw [← e]; exact h2
theorem AscB.filter {n : Int} {l : List Int} (q : Int → Bool) (h : AscB n l) : AscB n (l.filter q) := ⟨fun x hx => h.1 x ((List.mem_filter.1 hx).1), h.2.filter q⟩
theorem AscB_range (N : Nat) : AscB (N : Int) ((List.range N).map Int.ofNat) := by
 refine ⟨fun x hx => ?_, ?_⟩
 ·have := range_in hx; omega
 ·rw [List.pairwise_map]
  exact List.pairwise_lt_range.imp fun h => by simpa using h
theorem und_ne {n : Int} {p : List (Int × Int)} {left : List Int} (hc : ¬ Cyc n p) (hl : left ≠ []) (hin : ∀ x ∈ left, 0 ≤ x ∧ x < n) : und p left ≠ [] := fun e => by
 refine hc ⟨left, hl, fun x hx => ⟨hin x hx, ?_⟩⟩
 unfold und at e
 rw [List.filter_eq_nil_iff] at e
 have := e x hx
 simp only [Bool.not_eq_true, Bool.not_eq_false', Bool.not_eq_true', Bool.not_eq_false] at this
 obtain ⟨a, ha, h2⟩ := List.any_eq_true.1 this
 exact ⟨a, ha, by simpa using h2⟩
end Go.Proofs.YtmecnecfkgneoaaGreat
set_option linter.unusedVariables false
set_option linter.unusedSimpArgs false
namespace Go.Proofs.YtmecnecfkgneoaaGreat
open Go Go.Proofs Go.Sep
theorem l7Sorted_ok {u : Nat} (l : List Int) (hl : l.length ≤ 1048576) (hu : 1048577 < u) : Ok (m_spec_l7Sorted u l) fun s => s.Pairwise (· ≤ ·) ∧ s.Perm l := by
 unfold m_spec_l7Sorted
 refine .forS (fun n out => out.Pairwise (· ≤ ·) ∧ out.Perm (l.take n)) ⟨.nil, by simp⟩ (fun n x out hx ⟨hp, hq⟩ => ?_) (fun s hs => .ret ⟨hs.1, by have := hs.2; rwa [List.take_length] at this⟩)
 have hn : n < l.length := (List.getElem?_eq_some_iff.1 hx).1
 have hol : out.length = n := by rw [hq.length_eq]; simp; omega
 refine .while (fun (k : Int) => ∃ m : Nat, k = (m : Int) ∧ m ≤ out.length ∧ ∀ (j : Nat) y, m ≤ j → out[j]? = some y → x < y) (fun k => k.toNat) (fun (k : Int) => ∃ m : Nat, k = (m : Int) ∧ m ≤ out.length ∧ (∀ (j : Nat) y, m ≤ j → out[j]? = some y → x < y) ∧ (0 < m → ∀ y, out[m - 1]? = some y → y ≤ x)) (fun _ => False) (by omega) ⟨out.length, rfl, Nat.le_refl _, fun j y hj hy => by rw [List.getElem?_eq_none hj] at hy; cases hy⟩ (fun k ⟨m, h1, h2, h3⟩ => ?_) (fun k ⟨m, h1, h2, h3, h4⟩ => ?_) (fun _ h => h.elim)
 ·subst h1
  refine .bind (P := fun t => (t = true → 0 < m ∧ ∀ y, out[m - 1]? = some y → x < y) ∧ (t = false → 0 < m → ∀ y, out[m - 1]? = some y → y ≤ x)) (.cond (fun h => ?_) fun h => (.ret ⟨fun h => Bool.noConfusion h, fun _ h0 => absurd (show (0 : Int) < (m : Int) by omega) (of_decide_eq_false h)⟩)) fun t ht => .cond (fun h => .next ⟨⟨m - 1, ?_, by omega, fun j y hj hy => ?_⟩, ?_⟩) fun h => .brk ⟨m, rfl, h2, h3, ht.2 h⟩
  ·have h0 : 0 < m := by simpa using h
   have e : w64 ((m : Int) - 1) = ((m - 1 : Nat) : Int) := by rw [w64_id (by omega)]; omega
   refine .get e (by omega) (.ret ⟨fun h => ⟨h0, fun y hy => ?_⟩, fun h _ y hy => ?_⟩)
   ·rw [List.getElem?_eq_getElem (by omega)] at hy; cases hy; exact of_decide_eq_true h
   ·rw [List.getElem?_eq_getElem (by omega)] at hy; cases hy; have := of_decide_eq_false h; omega
  ·have := (ht.1 h).1; rw [w64_id (by omega)]; omega
  ·rcases Nat.lt_or_ge j m with g | g
   ·have e : j = m - 1 := by omega
    subst e; exact (ht.1 h).2 y hy
   ·exact h3 j y g hy
  ·have := (ht.1 h).1; rw [w64_id (by omega)]; omega
 ·subst h1
  refine .cut (i := 0) rfl rfl (Nat.zero_le _) h2 (.app (by simp; omega) (.app (by simp; omega) (.cut rfl rfl h2 (Nat.le_refl _) (.app (by simp; omega) (.ret ?_)))))
  rw [List.take_length, List.drop_zero, List.nil_append]
  have hsp := List.take_append_drop m out
  have hpa : (out.take m ++ out.drop m).Pairwise (· ≤ ·) := by rw [hsp]; exact hp
  obtain ⟨p1, p2, p3⟩ := List.pairwise_append.1 hpa
  have hlo : ∀ a ∈ out.take m, a ≤ x := fun a ha => by
   obtain ⟨j, hj⟩ := List.getElem?_of_mem ha
   have hjm : j < (out.take m).length := (List.getElem?_eq_some_iff.1 hj).1
   rw [List.length_take] at hjm
   have hj' : out[j]? = some a := by rwa [List.getElem?_take_of_lt (by omega)] at hj
   have hm1 : m - 1 < out.length := by omega
   have hx1 := h4 (by omega) _ (List.getElem?_eq_getElem hm1)
   rcases Nat.lt_or_ge j (m - 1) with g | g
   ·have := List.pairwise_iff_getElem.1 hp j (m - 1) (by omega) hm1 g
    have e : out[j] = a := by have := hj'; rw [List.getElem?_eq_getElem (by omega)] at this; simpa using this
    omega
   ·have e : j = m - 1 := by omega
    subst e
    rw [List.getElem?_eq_getElem hm1] at hj'; cases hj'; exact hx1
  have hhi : ∀ b ∈ out.drop m, x ≤ b := fun b hb => by
   obtain ⟨j, hj⟩ := List.getElem?_of_mem hb
   rw [List.getElem?_drop] at hj
   exact Int.le_of_lt (h3 (m + j) b (by omega) hj)
  refine ⟨?_, ?_⟩
  ·rw [List.append_assoc]
   refine List.pairwise_append.2 ⟨p1, ?_, fun a ha b hb => ?_⟩
   ·exact .cons hhi p2
   ·rcases List.mem_cons.1 hb with rfl | hb
    ·exact hlo a ha
    ·exact p3 a ha b hb
  ·rw [List.take_add_one, hx]
   refine List.Perm.trans ?_ (hq.append_right _)
   rw [List.append_assoc, List.singleton_append]
   refine List.Perm.trans (List.perm_middle) ?_
   rw [hsp]
   exact (List.perm_append_comm (l₁ := [x]) (l₂ := out))
theorem l7Sorted_eq {u : Nat} {l s : List Int} (hl : l.length ≤ 1048576) (hu : 1048577 < u) (hs : s.Pairwise (· < ·)) (hp : s.Perm l) : m_spec_l7Sorted u l = some s := by
 obtain ⟨s', h1, h2, h3⟩ := l7Sorted_ok l hl hu
 have : s' = s := List.Perm.eq_of_pairwise (fun a b _ _ h1 h2 => Int.le_antisymm h1 h2) h2 (hs.imp Int.le_of_lt) (h3.trans hp.symm)
 rw [h1, this]
end Go.Proofs.YtmecnecfkgneoaaGreat
set_option linter.unusedVariables false
set_option linter.unusedSimpArgs false
namespace Go.Proofs.YtmecnecfkgneoaaGreat
open Go Go.Proofs Go.Sep
theorem comp2_mem : ∀ (l : List Int) (p x : Int), x ∈ comp2 p l ∨ x = p ↔ x ∈ l ∨ x = p
 | [], p, x => by simp [comp2]
 | y :: l, p, x => by
  simp only [comp2]
  by_cases h : y = p
  ·subst h
   rw [if_pos rfl, comp2_mem l y x, List.mem_cons]
   exact ⟨fun h => h.elim (fun h => .inl (.inr h)) .inr, fun h => h.elim (fun h => h.elim .inr .inl) .inr⟩
  ·rw [if_neg h, List.mem_cons, List.mem_cons]
   have := comp2_mem l y x
   constructor
   ·rintro ((h1 | h1) | h1)
    ·exact .inl (.inl h1)
    ·rcases this.1 (.inl h1) with h2 | h2
     ·exact .inl (.inr h2)
     ·exact .inl (.inl h2)
    ·exact .inr h1
   ·rintro ((h1 | h1) | h1)
    ·exact .inl (.inl h1)
    ·rcases this.2 (.inl h1) with h2 | h2
     ·exact .inl (.inr h2)
     ·exact .inl (.inl h2)
    ·exact .inr h1
theorem comp1_mem (l : List Int) (x : Int) : x ∈ comp1 l ↔ x ∈ l := by
 cases l with
 | nil => rfl
 | cons y l =>
  simp only [comp1, List.mem_cons]
  have := comp2_mem l y x
  constructor
  ·rintro (h | h)
   ·exact .inl h
   ·exact (this.1 (.inl h)).symm
  ·rintro (h | h)
   ·exact .inl h
   ·exact (this.2 (.inl h)).symm
theorem comp2_asc : ∀ (l : List Int) (p : Int), (p :: l).Pairwise (· ≤ ·) → (p :: comp2 p l).Pairwise (· < ·)
 | [], p, _ => by simp [comp2]
 | y :: l, p, h => by
  simp only [comp2]
  have h1 := List.pairwise_cons.1 h
  by_cases e : y = p
  ·subst e
   rw [if_pos rfl]; exact comp2_asc l y h1.2
  ·rw [if_neg e]
   have ih := comp2_asc l y h1.2
   have hy := h1.1 y (List.mem_cons_self ..)
   refine List.pairwise_cons.2 ⟨fun z hz => ?_, ih⟩
   rcases List.mem_cons.1 hz with rfl | hz
   ·omega
   ·have := (List.pairwise_cons.1 ih).1 z hz; omega
theorem comp1_asc (l : List Int) (h : l.Pairwise (· ≤ ·)) : (comp1 l).Pairwise (· < ·) := by
 cases l with
 | nil => exact .nil
 | cons x l => exact comp2_asc l x h
def uni (l : List Int) : List Int := comp1 (l.mergeSort fun x y => decide (x ≤ y))
theorem uni_mem (l : List Int) (x : Int) : x ∈ uni l ↔ x ∈ l := by
 rw [uni, comp1_mem]; exact (List.mergeSort_perm l _).mem_iff
theorem uni_asc (l : List Int) : (uni l).Pairwise (· < ·) := by
 refine comp1_asc _ ?_
 have := List.pairwise_mergeSort (le := fun x y : Int => decide (x ≤ y)) (fun a b c h1 h2 => by simp at h1 h2 ⊢; omega) (fun a b => by simp; omega) l
 exact this.imp fun h => by simpa using h
theorem uni_nodup (l : List Int) : (uni l).Nodup := (uni_asc l).imp fun h => by omega
theorem uni_le (l : List Int) : (uni l).length ≤ l.length := by
 have := comp1_le (l.mergeSort fun x y => decide (x ≤ y))
 rw [List.length_mergeSort] at this; exact this
theorem uni_uniq {l m : List Int} (h : m.Pairwise (· < ·)) (hm : ∀ x, x ∈ m ↔ x ∈ l) : uni l = m := by
 have hp : (uni l).Perm m := (List.perm_ext_iff_of_nodup (uni_nodup l) (h.imp fun h => by omega)).2 fun x => by rw [uni_mem, hm]
 exact hp.eq_of_pairwise (fun a b _ _ h1 h2 => by omega) (uni_asc l) h
theorem grow_ok {k : Int} (h0 : 0 ≤ k) (h1 : k ≤ 4194304) : m_slices_Grow_Sint_int_n0 k = some [] := by
 unfold m_slices_Grow_Sint_int_n0
 have e0 : w64 (((0 : Nat) : Int) - ((0 : Nat) : Int)) = 0 := w64_id (by omega)
 rw [e0, w64_id (by omega)]
 refine Ok.to (.cf (decide_eq_false (by omega)) (.cond (fun h => ?_) fun _ => .ret rfl))
 have h := of_decide_eq_true h
 have e1 : apz 8 (k - 0) (0 : Int) = some (List.replicate (k - 0).toNat 0) := by unfold apz; rw [if_pos (by omega)]
 exact .eq e1 (.cut (i := 0) (j := 0) rfl rfl (Nat.le_refl _) (Nat.zero_le _) (.ret (by simp)))
theorem concat2_eq (a b : List Int) (ha : a.length ≤ 2097152) (hb : b.length ≤ 2097152) : m_slices_Concat_Sint_int [a, b] = some (a ++ b) := by
 have hg : m_slices_Grow_Sint_int_n0 ((a.length : Int) + b.length) = some [] := grow_ok (by omega) (by omega)
 unfold m_slices_Concat_Sint_int
 refine Ok.to (.forS (fun n s => (n = 0 ∧ s = 0) ∨ (n = 1 ∧ s = (a.length : Int)) ∨ (n = 2 ∧ s = (a.length : Int) + b.length)) (.inl ⟨rfl, rfl⟩) (fun n x s hx hI => ?_) (fun s hI => ?_))
 ·rcases hI with ⟨rfl, rfl⟩ | ⟨rfl, rfl⟩ | ⟨rfl, _⟩
  ·simp at hx; subst hx
   rw [w64_id (by omega)]
   exact .cf (decide_eq_false (by omega)) (.ret (.inr (.inl ⟨rfl, by omega⟩)))
  ·simp at hx; subst hx
   rw [w64_id (by omega)]
   exact .cf (decide_eq_false (by omega)) (.ret (.inr (.inr ⟨rfl, rfl⟩)))
  ·simp at hx
 ·have hs : s = (a.length : Int) + b.length := by
   rcases hI with ⟨h, _⟩ | ⟨h, _⟩ | ⟨_, h⟩
   ·simp at h
   ·simp at h
   ·exact h
  subst hs
  refine .eq hg (.forS (fun n s => (n = 0 ∧ s = []) ∨ (n = 1 ∧ s = a) ∨ (n = 2 ∧ s = a ++ b)) (.inl ⟨rfl, rfl⟩) (fun n x s hx hI => ?_) (fun s hI => .ret ?_))
  ·rcases hI with ⟨rfl, rfl⟩ | ⟨rfl, rfl⟩ | ⟨rfl, _⟩
   ·simp at hx; subst hx
    exact .app (by simp only [List.length_nil]; omega) (.ret (.inr (.inl ⟨rfl, rfl⟩)))
   ·simp at hx; subst hx
    exact .app (by omega) (.ret (.inr (.inr ⟨rfl, rfl⟩)))
   ·simp at hx
  ·rcases hI with ⟨h, _⟩ | ⟨h, _⟩ | ⟨_, h⟩
   ·simp at h
   ·simp at h
   ·exact h
theorem union_eq (a b : List Int) (ha : a.length ≤ 2097152) (hb : b.length ≤ 2097152) : m_impl_union a b = some (uni (a ++ b)) := by
 unfold m_impl_union
 refine Ok.to (.eq (concat2_eq a b ha hb) (.eq (a := ((), (a ++ b).mergeSort fun x y => decide (x ≤ y))) ?_ (.eq (a := uni (a ++ b)) ?_ (.ret rfl))))
 ·unfold m_slices_Sort_Sint_int; rw [if_pos (by rw [List.length_append]; omega)]
 ·unfold m_slices_Compact_Sint_int
  simp only
  rw [if_pos (by rw [List.length_mergeSort, List.length_append]; omega)]; rfl
end Go.Proofs.YtmecnecfkgneoaaGreat
set_option linter.unusedVariables false
set_option linter.unusedSimpArgs false
namespace Go.Proofs.YtmecnecfkgneoaaGreat
open Go Go.Proofs Go.Sep
theorem cmpL_drop {a b : List Int} {i : Nat} (h1 : i < a.length) (h2 : i < b.length) : cmpL (a.drop i) (b.drop i) = if a[i] < b[i] then -1 else if b[i] < a[i] then 1 else cmpL (a.drop (i + 1)) (b.drop (i + 1)) := by
 rw [List.drop_eq_getElem_cons h1, List.drop_eq_getElem_cons h2]; rfl
theorem cmpL_nil_r (a : List Int) : cmpL a [] = if a.length = 0 then 0 else 1 := by cases a <;> simp [cmpL]
theorem cmpL_nil_l (b : List Int) : cmpL [] b = if b.length = 0 then 0 else -1 := by cases b <;> simp [cmpL]
theorem cmp_Compare_eq (x y : Int) : m_cmp_Compare_int x y = some (if x < y then -1 else if y < x then 1 else 0) := by
 unfold m_cmp_Compare_int m_cmp_isNaN_int
 simp only [Option.bind_some, ne_eq, not_true_eq_false, decide_false, cond_false]
 by_cases h1 : x < y
 ·simp [h1]
 ·by_cases h2 : y < x <;> simp [h1, h2]
theorem slices_Compare_from (a b : List Int) : ∀ (k i : Nat), i + k = a.length → (forL (R := Int) (fun (t_1 : Int) (x_t_1 : Int) (_ : Unit) => cond (decide ((b.length : Int) ≤ (t_1 : Int))) (some (.ret 1)) ((getI b (t_1 : Int)).bind fun v_4 => (m_cmp_Compare_int x_t_1 v_4).bind fun r_9 => cond (decide (r_9 ≠ 0)) (some (.ret r_9)) (some (.next ())))) (a.drop i) (i : Int) ()).bind (fun O2_ => onS O2_ (fun (_ : Unit) => cond (decide ((a.length : Int) < (b.length : Int))) (some (-1)) (some 0)) (fun r => some r)) = some (cmpL (a.drop i) (b.drop i))
 | 0, i, hk => by
  rw [List.drop_eq_nil_of_le (show a.length ≤ i by omega), cmpL_nil_l]
  simp only [forL, Option.bind_some, onS, List.length_drop]
  by_cases h : a.length < b.length
  ·rw [cond_T' (by simpa using h), if_neg (by omega)]
  ·rw [cond_F' (by simpa using h), if_pos (by omega)]
 | k + 1, i, hk => by
  have hi : i < a.length := by omega
  rw [List.drop_eq_getElem_cons hi]
  simp only [forL]
  by_cases hb : b.length ≤ i
  ·rw [cond_T' (by simpa using hb), List.drop_eq_nil_of_le hb]; rfl
  ·rw [cond_F' (by simpa using hb), getI_lt (show i < b.length by omega), Option.bind_some, cmp_Compare_eq, Option.bind_some]
   rw [← List.drop_eq_getElem_cons hi, cmpL_drop hi (by omega)]
   by_cases h1 : a[i] < b[i]
   ·simp [h1, onS]
   ·by_cases h2 : b[i] < a[i]
    ·simp [h1, h2, onS]
    ·simp only [h1, h2, if_false, ne_eq, not_true_eq_false, decide_false, cond_false, Option.bind_some]
     exact slices_Compare_from a b k (i + 1) (by omega)
theorem slices_Compare_eq (a b : List Int) : m_slices_Compare_Sint_int a b = some (cmpL a b) := slices_Compare_from a b a.length 0 (by omega)
theorem l3Ints_cmp (a b : List Int) (u : Nat) (hu : a.length < u) (ha : a.length ≤ 1048576) (hb : b.length ≤ 9223372036854775807) : m_spec_l3Ints u a b = some (cmpL a b) := by
 unfold m_spec_l3Ints
 obtain ⟨o, h1, h2⟩ := while_ok (f := fun (i5 : Int) => cond ((decide (i5 < (a.length : Int))) && (decide (i5 < (b.length : Int)))) ((getI a i5).bind fun v_6 => (getI b i5).bind fun v_11 => cond (decide (v_6 < v_11)) (some (.ret (-1))) (cond (decide (v_11 < v_6)) (some (.ret 1)) (some (.next (w64 (i5 + 1)))))) (some (.brk i5)))
  (fun i => ∃ n : Nat, i = n ∧ n ≤ a.length ∧ n ≤ b.length ∧ cmpL a b = cmpL (a.drop n) (b.drop n)) (fun i => a.length - i.toNat) (fun i => ∃ n : Nat, i = n ∧ n ≤ a.length ∧ n ≤ b.length ∧ cmpL a b = cmpL (a.drop n) (b.drop n) ∧ (n = a.length ∨ n = b.length)) (fun (r : Int) => r = cmpL a b)
  (fun i ⟨n, hi, hn1, hn2, hI⟩ => by
   subst hi
   by_cases h : n < a.length ∧ n < b.length
   ·rw [cond_T' (by simp; omega), getI_lt h.1, Option.bind_some, getI_lt h.2, Option.bind_some]
    rw [cmpL_drop h.1 h.2] at hI
    by_cases c1 : a[n] < b[n]
    ·rw [cond_T' (by simpa using c1)]; exact ⟨_, rfl, by rw [if_pos c1] at hI; exact hI.symm⟩
    ·rw [cond_F' (by simpa using c1)]
     rw [if_neg c1] at hI
     by_cases c2 : b[n] < a[n]
     ·rw [cond_T' (by simpa using c2)]; exact ⟨_, rfl, by rw [if_pos c2] at hI; exact hI.symm⟩
     ·rw [cond_F' (by simpa using c2), w64_id (by omega)]
      rw [if_neg c2] at hI
      exact ⟨_, rfl, ⟨n + 1, by omega, h.1, h.2, hI⟩, by have := h.1; omega⟩
   ·rw [cond_F' (by simp; omega)]
    exact ⟨_, rfl, n, rfl, hn1, hn2, hI, by omega⟩)
  u 0 (by simpa using hu) ⟨0, rfl, by omega, by omega, rfl⟩
 rw [h1, Option.bind_some]
 cases o with
 | inr r => simp only [onS]; rw [h2]
 | inl i =>
  obtain ⟨n, rfl, hn1, hn2, hI, hn⟩ := h2
  simp only [onS]
  rw [hI]
  by_cases c1 : a.length < b.length
  ·have e : n = a.length := by omega
   rw [cond_T' (by simpa using c1), e, List.drop_eq_nil_of_le (Nat.le_refl _), cmpL_nil_l, if_neg (by simp; omega)]
  ·rw [cond_F' (by simpa using c1)]
   by_cases c2 : b.length < a.length
   ·have e : n = b.length := by omega
    rw [cond_T' (by simpa using c2), e, List.drop_eq_nil_of_le (Nat.le_refl b.length), cmpL_nil_r, if_neg (by simp; omega)]
   ·have e : n = a.length := by omega
    rw [cond_F' (by simpa using c2), e, List.drop_eq_nil_of_le (Nat.le_refl _), cmpL_nil_l, if_pos (by simp; omega)]
end Go.Proofs.YtmecnecfkgneoaaGreat
set_option linter.unusedVariables false
set_option linter.unusedSimpArgs false
namespace Go.Proofs.YtmecnecfkgneoaaGreat
open Go Go.Proofs Go.Sep
end Go.Proofs.YtmecnecfkgneoaaGreat
set_option linter.unusedVariables false
set_option linter.unusedSimpArgs false
namespace Go.Proofs.YtmecnecfkgneoaaGreat
open Go Go.Proofs Go.Sep
end Go.Proofs.YtmecnecfkgneoaaGreat
set_option linter.unusedVariables false
set_option linter.unusedSimpArgs false
namespace Go.Proofs.YtmecnecfkgneoaaGreat
open Go Go.Proofs Go.Sep
theorem eqf_loop {α : Type} [DecidableEq α] {f : α → α → Option Bool} (a b : List α) (hf : ∀ x ∈ a, ∀ y ∈ b, f x y = some (decide (x = y))) :
  (cond (decide ((a.length : Int) ≠ (b.length : Int))) (some false) ((forL (R := Bool) (fun (t_2 : Int) (x_t_2 : α) (_ : Unit) => (getI b (t_2 : Int)).bind fun v_4 => (f x_t_2 v_4).bind fun r_9 => cond (!r_9) (some (.ret false)) (some (.next ()))) a 0 ()).bind fun O3_ => onS O3_ (fun (_ : Unit) => some true) (fun r => some r))) = some (decide (a = b)) := by
 refine Ok.to (.cond (fun h => .ret ?_) fun h => ?_)
 ·have : a ≠ b := fun e => by subst e; simp at h
  simp [this]
 ·have hl : a.length = b.length := by have := of_decide_eq_false h; omega
  refine .forL (fun n _ => ∀ j, j < n → a[j]? = b[j]?) (fun _ => False) (fun r => r = false ∧ a ≠ b) (fun j hj => by omega) (fun n x s hx hI => ?_) (fun s hs => .ret ?_) (fun r hr => .ret (by rw [hr.1]; simp [hr.2]))
  ·have hn : n < a.length := (List.getElem?_eq_some_iff.1 hx).1
   have hb : n < b.length := by omega
   rw [List.getElem?_eq_getElem hn] at hx; cases hx
   refine .get rfl hb (.eq (hf _ (List.getElem_mem hn) _ (List.getElem_mem hb)) (.cond (fun hc => .out ⟨rfl, fun e => ?_⟩) fun hc => .next fun j hj => ?_))
   ·subst e; simp at hc
   ·have hc' : a[n] = b[n] := by simpa using hc
    by_cases e : j = n
    ·subst e; rw [List.getElem?_eq_getElem hn, List.getElem?_eq_getElem hb, hc']
    ·exact hI j (by omega)
  ·have h := hs.resolve_right id
   have : a = b := List.ext_getElem? fun j => by
    rcases Nat.lt_or_ge j a.length with g | g
    ·exact h j g
    ·rw [List.getElem?_eq_none g, List.getElem?_eq_none (by omega)]
   simp [this]
theorem Equal_ints (a b : List Int) : m_slices_Equal_Sint_int a b = some (decide (a = b)) := by
 have := eqf_loop (f := fun x y => some (decide (x = y))) a b (fun _ _ _ _ => rfl)
 unfold m_slices_Equal_Sint_int
 rw [← this]
 congr 2
 congr 1
 funext t x s
 cases getI b t with
 | none => rfl
 | some y => by_cases h : x = y <;> simp [h]
end Go.Proofs.YtmecnecfkgneoaaGreat
set_option linter.unusedVariables false
set_option linter.unusedSimpArgs false
namespace Go.Proofs.YtmecnecfkgneoaaGreat
open Go Go.Proofs Go.Sep
theorem and_byte (x : Int) : 0 ≤ bitI .and .i64 x 255 ∧ bitI .and .i64 x 255 ≤ 255 := by
 have h : (BitVec.ofInt 64 x &&& BitVec.ofInt 64 255).toNat ≤ 255 := by
  rw [BitVec.toNat_and]
  exact Nat.le_trans Nat.and_le_right (by decide)
 have e : bitI .and .i64 x 255 = w64 (((BitVec.ofInt 64 x &&& BitVec.ofInt 64 255).toNat : Nat) : Int) := rfl
 rw [e, w64_id (by omega)]; omega
def CurOK (c : l1Cur) : Prop := 0 ≤ c.i ∧ c.i ≤ (c.b.length : Int) ∧ c.b.length ≤ 1048576
theorem l1Byte_ok {c : l1Cur} (hc : CurOK c) : Ok (m_spec_l1Byte c) fun r => 0 ≤ r.1 ∧ r.1 ≤ 255 ∧ CurOK r.2 := by
 unfold m_spec_l1Byte
 obtain ⟨h0, h1, h2⟩ := hc
 refine .cond (fun h => ?_) fun h => ?_
 ·have hlt : c.i < (c.b.length : Int) := by simpa using h
  refine .get' h0 hlt fun n hn e => .ret ?_
  have := and_byte (w64 (bitI .and .i64 (bitI .xor .i64 (shrI .i64 (w64 (w64 (c.h * 6364136223846793005) + 1442695040888963407)) 33) (shrI .i64 (w64 (w64 (c.h * 6364136223846793005) + 1442695040888963407)) 45)) 255 + w64 c.b[n]))
  exact ⟨this.1, this.2, by show 0 ≤ w64 (c.i + 1); rw [w64_id (by omega)]; omega, by show w64 (c.i + 1) ≤ _; rw [w64_id (by omega)]; simp only; omega, h2⟩
 ·have := and_byte (bitI .xor .i64 (shrI .i64 (w64 (w64 (c.h * 6364136223846793005) + 1442695040888963407)) 33) (shrI .i64 (w64 (w64 (c.h * 6364136223846793005) + 1442695040888963407)) 45))
  exact .ret ⟨this.1, this.2, h0, h1, h2⟩
theorem tmod_lt {a n : Int} (h0 : 0 ≤ a) (hn : 0 < n) : 0 ≤ a.tmod n ∧ a.tmod n < n := ⟨Int.tmod_nonneg _ h0, Int.tmod_lt_of_pos _ hn⟩
theorem l1Below_ok {c : l1Cur} (hc : CurOK c) (n : Int) : Ok (m_spec_l1Below c n) fun r => CurOK r.2 ∧ 0 ≤ r.1 ∧ (0 < n → r.1 < n) ∧ (n ≤ 0 → r.1 = 0) := by
 unfold m_spec_l1Below
 refine .cond (fun h => .ret ⟨hc, by simp, fun h' => absurd h' (by have h2 := of_decide_eq_true h; omega), fun _ => rfl⟩) fun h => ?_
 have hn : 0 < n := by simpa using h
 refine .cond (fun h2 => ?_) fun h2 => ?_
 ·refine .bind (l1Byte_ok hc) fun r hr => .gD (by omega) (.ret ⟨hr.2.2, (tmod_lt hr.1 hn).1, fun _ => (tmod_lt hr.1 hn).2, fun h => by omega⟩)
 ·refine .bind (l1Byte_ok hc) fun a ha => .bind (l1Byte_ok ha.2.2) fun b hb => .bind (l1Byte_ok hb.2.2) fun d hd => .bind (l1Byte_ok hd.2.2) fun e he => .gD (by omega) (.ret ?_)
  have h0 : 0 ≤ w64 (w64 (w64 (w64 (a.1 * 16777216) + w64 (b.1 * 65536)) + w64 (d.1 * 256)) + e.1) := by
   have := ha.1; have := ha.2.1; have := hb.1; have := hb.2.1; have := hd.1; have := hd.2.1; have := he.1; have := he.2.1
   rw [w64_id (x := a.1 * 16777216) (by omega), w64_id (x := b.1 * 65536) (by omega), w64_id (x := d.1 * 256) (by omega), w64_id (x := a.1 * 16777216 + b.1 * 65536) (by omega), w64_id (x := a.1 * 16777216 + b.1 * 65536 + d.1 * 256) (by omega), w64_id (by omega)]
   omega
  exact ⟨he.2.2, (tmod_lt h0 hn).1, fun _ => (tmod_lt h0 hn).2, fun h => by omega⟩
theorem l1Once_ok {c : l1Cur} (hc : CurOK c) (n : Int) : Ok (m_spec_l1Once c n) fun r => CurOK r.2 := by
 unfold m_spec_l1Once
 exact .bind (l1Below_ok hc n) fun r hr => .ret hr.1
theorem l1New_ok {u : Nat} {code : List Int} (hl : code.length ≤ 1048576) (hu : 1048577 < u) : Ok (m_spec_l1New u code) CurOK := by
 unfold m_spec_l1New
 refine .while (fun (s : Int × Int) => 0 ≤ s.2 ∧ s.2 ≤ (code.length : Int)) (fun (s : Int × Int) => code.length - s.2.toNat) (fun _ => True) (fun _ => False) (by simp only; omega) ⟨by simp, by simp⟩ (fun ⟨h, i⟩ ⟨h0, h1⟩ => ?_) (fun ⟨h, i⟩ _ => .ret ⟨by simp, by simp, hl⟩) (fun _ h => h.elim)
 simp only at h0 h1 ⊢
 refine .cond (fun hc => ?_) fun _ => .brk trivial
 have hlt : i < (code.length : Int) := by simp only [Bool.and_eq_true, decide_eq_true_eq] at hc; exact hc.1
 refine .get' h0 hlt fun n hn e => .next ⟨⟨?_, ?_⟩, ?_⟩ <;> simp only <;> rw [w64_id (by omega)] <;> omega
end Go.Proofs.YtmecnecfkgneoaaGreat
set_option linter.unusedVariables false
set_option linter.unusedSimpArgs false
namespace Go.Proofs.YtmecnecfkgneoaaGreat
open Go Go.Proofs Go.Sep
theorem forM_gen {S : Type} {f : Int → S → Option S} : ∀ (k : Nat) (i0 : Int) (s : S) (I : Nat → S → Prop), I 0 s → (∀ (j : Nat) s, j < k → I j s → Ok (f (i0 + (j : Int)) s) (I (j + 1))) → Ok (forM f k i0 s) (I k)
 | 0, i0, s, I, h0, _ => ⟨s, rfl, h0⟩
 | k + 1, i0, s, I, h0, h => by
  obtain ⟨s', h1, h2⟩ := h 0 s (by omega) h0
  simp only [Int.natCast_zero, Int.add_zero] at h1
  obtain ⟨s2, h3, h4⟩ := forM_gen (f := f) k (i0 + 1) s' (fun j => I (j + 1)) h2 fun j s hj hI => by
   have := h (j + 1) s (by omega) hI
   rwa [show i0 + ((j + 1 : Nat) : Int) = i0 + 1 + (j : Int) by omega] at this
  exact ⟨s2, by simp only [Go.Sep.forM, h1, Option.bind_some, h3], h4⟩
def RB (b : Int) (es : List ConflictEdge) : Prop := ∀ e ∈ es, -1 ≤ e.a ∧ e.a ≤ b ∧ -1 ≤ e.b ∧ e.b ≤ b
theorem RB.re {es : List ConflictEdge} (h : RB 20 es) (hl : es.length ≤ 1000) : RE es := ⟨hl, fun e he => by have := h e he; omega⟩
theorem RB.snoc {b : Int} {es : List ConflictEdge} {e : ConflictEdge} (h : RB b es) (he : -1 ≤ e.a ∧ e.a ≤ b ∧ -1 ≤ e.b ∧ e.b ≤ b) : RB b (es ++ [e]) := fun x hx => by
 rcases List.mem_append.1 hx with hx | hx
 ·exact h x hx
 ·simp only [List.mem_singleton] at hx; subst hx; exact he
theorem l8Edges_ok {c : l1Cur} (hc : CurOK c) : Ok (m_spec_l8Edges c) fun r => CurOK r.2 ∧ 0 ≤ r.1.1 ∧ r.1.1 ≤ 8 ∧ r.1.2.length ≤ 64 ∧ RB 20 r.1.2 := by
 unfold m_spec_l8Edges
 refine .bind (l1Below_ok hc 9) fun r1 h1 => .bind (l1Below_ok h1.1 4) fun r3 h3 => ?_
 obtain ⟨n, c1⟩ := r1
 obtain ⟨d, c3⟩ := r3
 simp only at h1 h3 ⊢
 have hn := h1.2.2.1 (by omega)
 have hd := h3.2.2.1 (by omega)
 obtain ⟨N, rfl⟩ := Int.eq_ofNat_of_zero_le h1.2.1
 refine .gN (by omega) (.forM (fun i s => CurOK s.2 ∧ s.1.length ≤ 8 * i ∧ RB 20 s.1) ⟨h3.1, by simp, fun e he => by cases he⟩ (fun i s hi hI => ?_) (fun s hI => ?_))
 ·obtain ⟨l, b⟩ := s
  simp only at hI ⊢
  refine .gN (by omega) (.bind (forM_gen _ _ _ (fun j s => CurOK s.2 ∧ s.1.length ≤ 8 * i + j ∧ RB 20 s.1) ⟨hI.1, by simpa using hI.2.1, hI.2.2⟩ fun j s hj hJ => ?_) fun s hJ => .ret ⟨hJ.1, by have := hJ.2.1; simp only; omega, hJ.2.2⟩)
  obtain ⟨l', b'⟩ := s
  simp only at hJ ⊢
  refine .bind (l1Once_ok hJ.1 _) fun r hr => .cond (fun _ => .app (by simp; omega) (.ret ⟨hr, ?_, hJ.2.2.snoc ⟨?_, ?_, ?_, ?_⟩⟩)) fun _ => .ret ⟨hr, by have := hJ.2.1; simp only; omega, hJ.2.2⟩
  ·have := hJ.2.1
   rw [List.length_append]; simp only [List.length_cons, List.length_nil]; omega
  all_goals (simp only; omega)
 ·obtain ⟨l, b⟩ := s
  simp only at hI ⊢
  have hl64 : l.length ≤ 64 := by omega
  refine .bind (P := fun r => CurOK r.2 ∧ (r.1 = true → 0 < l.length)) (.cond (fun h => .bind (l1Once_ok hI.1 12) fun r hr => .ret ⟨hr, fun _ => by simpa using h⟩) fun h => .ret ⟨hI.1, fun h => by cases h⟩) fun r hr => ?_
  obtain ⟨t, b2⟩ := r
  simp only at hr ⊢
  refine .cond (fun h => ?_) fun h => .ret ⟨hr.1, by simp only; omega, by simp only; omega, hl64, hI.2.2⟩
  have hp := hr.2 h
  refine .bind (l1Below_ok hr.1 _) fun r22 h22 => .bind (l1Below_ok h22.1 _) fun r24 h24 => ?_
  have h22' := h22.2.2.1 (by omega)
  rw [w64_id (x := (N : Int) + 2) (by omega)] at h24
  have h24' := h24.2.2.1 (by omega)
  refine .get' h22.2.1 h22' fun q hq e => .ret ⟨h24.1, by simp only; omega, by simp only; omega, by simpa using hl64, fun x hx => ?_⟩
  rcases List.mem_or_eq_of_mem_set hx with hx | rfl
  ·exact hI.2.2 x hx
  ·have := hI.2.2 _ (List.getElem_mem hq)
   simp only
   rw [w64_id (by omega)]
   omega
theorem keep_ok (most : Int) : ∀ (l : List ConflictEdge), l.length ≤ 64 → RB 20 l → Ok (forS (fun (i_4 : Int) (x_i_4 : ConflictEdge) (keep9 : (List ConflictEdge)) => cond (decide (x_i_4.b < most)) ((app 16 keep9 ([x_i_4] : (List ConflictEdge))).bind fun us_7 => some us_7) (some keep9)) l 0 ([] : (List ConflictEdge))) fun k => k.length ≤ 64 ∧ RB 20 k := fun l hl hR => by
 have := Ok.forS (f := fun (i_4 : Int) (x_i_4 : ConflictEdge) (keep9 : (List ConflictEdge)) => cond (decide (x_i_4.b < most)) ((app 16 keep9 ([x_i_4] : (List ConflictEdge))).bind fun us_7 => some us_7) (some keep9)) (xs := l) (s := []) (g := some) (Q := fun k => k.length ≤ 64 ∧ RB 20 k) (fun n s => s.length ≤ n ∧ RB 20 s) ⟨by simp, fun e he => by cases he⟩ (fun n x s hx hI => ?_) (fun s hI => .ret ⟨by have := hI.1; omega, hI.2⟩)
 ·obtain ⟨r, h1, h2⟩ := this
  refine ⟨r, ?_, h2⟩
  rw [Option.bind_eq_some_iff] at h1
  obtain ⟨a, h3, h4⟩ := h1
  cases h4; exact h3
 ·have hn := (List.getElem?_eq_some_iff.1 hx).1
  have hxb := hR x (List.mem_of_getElem? hx)
  refine .cond (fun _ => .app (by simp; omega) (.ret ⟨by have := hI.1; simp; omega, hI.2.snoc hxb⟩)) fun _ => .ret ⟨by have := hI.1; omega, hI.2⟩
end Go.Proofs.YtmecnecfkgneoaaGreat
set_option linter.unusedVariables false
set_option linter.unusedSimpArgs false
namespace Go.Proofs.YtmecnecfkgneoaaGreat
open Go Go.Proofs Go.Sep
def sizes (a : List (List Int)) : Nat := (a.map List.length).sum
theorem sizes_cons (x : List Int) (a : List (List Int)) : sizes (x :: a) = x.length + sizes a := rfl
end Go.Proofs.YtmecnecfkgneoaaGreat
set_option linter.unusedVariables false
set_option linter.unusedSimpArgs false
namespace Go.Proofs.YtmecnecfkgneoaaGreat
open Go Go.Proofs Go.Sep
theorem w64_pred {b : Int} (h : -9223372036854775808 ≤ b ∧ b ≤ 9223372036854775807) : (b = -9223372036854775808 ∧ w64 (b - 1) = 9223372036854775807) ∨ (-9223372036854775808 < b ∧ w64 (b - 1) = b - 1) := wrap_pred h
theorem VE_no {n : Int} {es : List (Int × Int)} (h : ¬ (0 ≤ n ∧ n ≤ 14)) : ¬ VE n es := fun hv => h hv.1
theorem spec_AreValidEdges_gen {n : Int} (hn : -9223372036854775808 ≤ n ∧ n ≤ 9223372036854775807) {es : List ConflictEdge} (he : ∀ e ∈ es, RdConflictEdge e) : Ok (m_spec_AreValidEdges n es) fun b => (b = true ↔ VE n (Ee es)) := by
 by_cases h14 : 0 ≤ n ∧ n ≤ 14
 ·unfold m_spec_AreValidEdges m_spec_l1In
  refine .allL (OkE n (Ee es)) false (fun i x hx _ => .test ?_) (fun h => .eq rfl (.ret ?_)) (fun ⟨j, hj, h⟩ => .ret ?_)
  ·have hb := he x (List.mem_of_getElem? hx)
   have hp := w64_pred hb.2
   rw [OkE_at hx, w64_id (x := n - 1) (by omega)]
   generalize w64 (x.b - 1) = w at hp
   refine .eq rfl (.cond (fun h => .ret ?_) fun h => .eq rfl (.cond (fun h2 => .ret ?_) fun h2 => ?_))
   ·simp only [Bool.not_eq_true', Bool.and_eq_false_iff, decide_eq_false_iff_not] at h
    simp only [true_iff]
    omega
   ·simp only [Bool.not_eq_true', Bool.and_eq_false_iff, decide_eq_false_iff_not] at h2
    simp only [true_iff]
    omega
   ·simp only [Bool.not_eq_false', Bool.and_eq_true, decide_eq_true_eq] at h h2
    refine edge_prev hx (A := 0 ≤ x.a ∧ x.a < x.b ∧ x.b < n) (by omega) fun v => .cond (fun h3 => .ret ?_) fun h3 => .cond (fun h4 => .ret ?_) fun h4 => .ret ?_
    ·have := of_decide_eq_true h3
     simp only [true_iff]; omega
    ·have := of_decide_eq_true h4
     simp only [decide_eq_true_eq]; omega
    ·have := of_decide_eq_false h3
     have := of_decide_eq_false h4
     simp only [Bool.false_eq_true, false_iff]; omega
  ·have e : (decide (0 ≤ n) && decide (n ≤ 14)) = true := by simp [h14]
   rw [e]
   exact ⟨fun _ => ⟨h14, fun j hj => h j (by rwa [Ee_len] at hj)⟩, fun _ => rfl⟩
  ·simp only [Bool.false_eq_true, false_iff]
   exact fun hv => h (hv.2 j (by rw [Ee_len]; exact hj))
 ·refine Ok.mono (P := fun b => b = false) ?_ fun b hb => by subst hb; simp only [Bool.false_eq_true, false_iff]; exact VE_no h14
  unfold m_spec_AreValidEdges m_spec_l1In
  refine .forL (fun _ _ => True) (fun _ => False) (fun r => r = false) trivial (fun i x s hx _ => ?_) (fun s _ => .eq rfl (.ret ?_)) (fun r hr => .ret hr)
  ·refine .bind (P := fun _ => True) (.eq rfl (.cond (fun _ => .ret trivial) fun _ => .eq rfl (.cond (fun _ => .ret trivial) fun _ => ?_))) fun t _ => .cond (fun _ => .out rfl) fun _ => .next trivial
   have hi := (List.getElem?_eq_some_iff.1 hx).1
   refine .cond (fun h => ?_) fun _ => .ret trivial
   have h0 : 0 < i := by have := of_decide_eq_true h; omega
   exact .get (n := i - 1) (by omega) (by omega) (.cond (fun _ => .ret trivial) fun _ => .cond (fun _ => .ret trivial) fun _ => .ret trivial)
  ·simp only [Bool.and_eq_false_iff, decide_eq_false_iff_not]; omega
theorem impl_AreValidEdges_gen {n : Int} {es : List ConflictEdge} : Ok (m_impl_AreValidEdges n es) fun b => (b = true ↔ VE n (Ee es)) := by
 unfold m_impl_AreValidEdges m_impl_within
 refine .eq rfl (.cond (fun h => .ret ?_) fun h => ?_)
 ·simp only [Bool.false_eq_true, false_iff]
  refine VE_no fun hh => ?_
  simp only [Bool.not_eq_true', Bool.and_eq_false_iff, decide_eq_false_iff_not] at h
  omega
 ·have h14 : 0 ≤ n ∧ n ≤ 14 := by simpa using h
  refine .allL (OkE n (Ee es)) false (fun i x hx _ => .test ?_) (fun h => .ret ?_) (fun ⟨j, hj, h⟩ => .ret ?_)
  ·rw [OkE_at hx]
   refine .cond (fun h => .ret ?_) fun h => .cond (fun h2 => .ret ?_) fun h2 => .cond (fun h3 => .ret ?_) fun h3 => ?_
   ·have := of_decide_eq_true h
    simp only [true_iff]; omega
   ·have := of_decide_eq_true h2
    simp only [true_iff]; omega
   ·have := of_decide_eq_true h3
    simp only [true_iff]; omega
   ·have := of_decide_eq_false h
    have := of_decide_eq_false h2
    have := of_decide_eq_false h3
    refine edge_prev hx (A := 0 ≤ x.a ∧ x.a < x.b ∧ x.b < n) (by omega) fun v => .cond (fun h3 => .ret ?_) fun h3 => .cond (fun h4 => .ret ?_) fun h4 => .ret ?_
    ·have := of_decide_eq_true h3
     simp only [true_iff]; omega
    ·have := of_decide_eq_true h4
     simp only [decide_eq_true_eq]; omega
    ·have := of_decide_eq_false h3
     have := of_decide_eq_false h4
     simp only [Bool.false_eq_true, false_iff]; omega
  ·exact ⟨fun _ => ⟨h14, fun j hj => h j (by rwa [Ee_len] at hj)⟩, fun _ => rfl⟩
  ·simp only [Bool.false_eq_true, false_iff]
   exact fun hv => h (hv.2 j (by rw [Ee_len]; exact hj))
theorem VE_key {n : Int} {es : List (Int × Int)} (h : VE n es) : ∀ j, j < es.length → (j : Int) ≤ 15 * (es.getD j default).1 + (es.getD j default).2
 | 0, hj => by have := (h.2 0 hj).1; omega
 | j + 1, hj => by
  have h1 := VE_key h j (by omega)
  have h2 := (h.2 j (by omega)).1
  have h3 := h.2 (j + 1) hj
  have h4 := h3.2 (by omega)
  have h5 := h.1
  simp only [Nat.add_sub_cancel, lexlt] at h4
  have h6 := h3.1
  omega
theorem VE_RE {n : Int} {es : List ConflictEdge} (h : VE n (Ee es)) : RE es := by
 have h5 := h.1
 have hall : ∀ e ∈ es, -100 ≤ e.a ∧ e.a ≤ 100 ∧ -100 ≤ e.b ∧ e.b ≤ 100 := fun e he => by
  have := h.of_mem (e.a, e.b) (Ee_mem.2 he)
  simp only at this
  omega
 refine ⟨?_, hall⟩
 by_cases h0 : es.length = 0
 ·omega
 have hj : es.length - 1 < (Ee es).length := by rw [Ee_len]; omega
 have h1 := VE_key h _ hj
 have h2 := (h.2 _ hj).1
 omega
end Go.Proofs.YtmecnecfkgneoaaGreat
set_option linter.unusedVariables false
set_option linter.unusedSimpArgs false
namespace Go.Proofs.YtmecnecfkgneoaaGreat
open Go Go.Proofs Go.Sep
theorem impl_Valid_gen {u : Nat} (hu : 1048577 < u) {n : Int} {es : List ConflictEdge} (p : List ConflictEdge) : Ok (m_impl_IsValidPreference u n es p) fun b => (b = true ↔ VP n (Ee es) (Ee p)) := by
 by_cases h : VE n (Ee es)
 ·exact impl_IsValidPreference_ok hu h.1 (VE_RE h) p
 ·unfold m_impl_IsValidPreference
  refine .bind impl_AreValidEdges_gen fun b hb => .ct ?_ (.ret ?_)
  ·cases b with
   | false => rfl
   | true => exact (h (hb.1 rfl)).elim
  ·exact ⟨fun e => (by cases e), fun e => (h e.1).elim⟩
theorem spec_Valid_gen {n : Int} (hn : -9223372036854775808 ≤ n ∧ n ≤ 9223372036854775807) {es : List ConflictEdge} (he : ∀ e ∈ es, RdConflictEdge e) (p : List ConflictEdge) : Ok (m_spec_IsValidPreference n es p) fun b => (b = true ↔ VP n (Ee es) (Ee p)) := by
 by_cases h : VE n (Ee es)
 ·exact spec_IsValidPreference_ok h.1 (VE_RE h) p
 ·unfold m_spec_IsValidPreference
  refine .bind (spec_AreValidEdges_gen hn he) fun b hb => .ct ?_ (.ret ?_)
  ·cases b with
   | false => rfl
   | true => exact (h (hb.1 rfl)).elim
  ·exact ⟨fun e => (by cases e), fun e => (h e.1).elim⟩
def rest1 (es : List (Int × Int)) (left : List Int) (v : Int) : List Int := left.filter fun y => decide (y ≠ v) && !adjB es y v
def gre (es p : List (Int × Int)) : Nat → List Int → List Int
 | 0, _ => []
 | k + 1, left => match und p left with
  | [] => []
  | v :: _ => v :: gre es p k (rest1 es left v)
theorem rest1_lt {es : List (Int × Int)} {left : List Int} {v : Int} (h : v ∈ left) : (rest1 es left v).length < left.length := List.length_filter_lt_length_iff_exists.2 ⟨v, h, by simp⟩
theorem gre_mem (es p : List (Int × Int)) : ∀ (k : Nat) (left : List Int) (x : Int), x ∈ gre es p k left → x ∈ left
 | 0, _, x, h => by simp [gre] at h
 | k + 1, left, x, h => by
  unfold gre at h
  cases hu : und p left with
  | nil => rw [hu] at h; simp at h
  | cons v r =>
   rw [hu] at h
   rcases List.mem_cons.1 h with rfl | h
   ·exact (List.mem_filter.1 (show x ∈ und p left by rw [hu]; exact List.mem_cons_self ..)).1
   ·exact (List.mem_filter.1 (gre_mem es p k _ x h)).1
theorem gre_nodup (es p : List (Int × Int)) : ∀ (k : Nat) (left : List Int), (gre es p k left).Nodup
 | 0, _ => by simp [gre]
 | k + 1, left => by
  unfold gre
  cases hu : und p left with
  | nil => simp
  | cons v r =>
   refine List.nodup_cons.2 ⟨fun h => ?_, gre_nodup es p k _⟩
   have := (List.mem_filter.1 (gre_mem es p k _ v h)).2
   simp at this
theorem gre_nil (es p : List (Int × Int)) : ∀ k, gre es p k [] = []
 | 0 => rfl
 | k + 1 => rfl
theorem gre_fuel {n : Int} {es p : List (Int × Int)} (hc : ¬ Cyc n p) : ∀ (k : Nat) (left : List Int), left.length ≤ k → gre es p k left = gre es p left.length left
 | 0, left, h => by rw [List.length_eq_zero_iff.1 (Nat.le_zero.1 h)]; rfl
 | k + 1, left, h => by
  cases hl : left.length with
  | zero => rw [List.length_eq_zero_iff.1 hl, gre_nil]; rfl
  | succ m =>
   unfold gre
   cases hu : und p left with
   | nil => rfl
   | cons v r =>
    have hv : v ∈ left := (List.mem_filter.1 (show v ∈ und p left by rw [hu]; exact List.mem_cons_self ..)).1
    have hlt := rest1_lt (es := es) hv
    simp only
    rw [gre_fuel hc k (rest1 es left v) (by omega), gre_fuel hc m (rest1 es left v) (by omega)]
theorem uni_perm {l : List Int} (h : l.Nodup) : (uni l).Perm l := (List.perm_ext_iff_of_nodup (uni_nodup l) h).2 (uni_mem l)
theorem spec_Greedy_eq {u : Nat} (hu : 1048577 < u) {n : Int} (hn : -9223372036854775808 ≤ n ∧ n ≤ 9223372036854775807) {es : List ConflictEdge} (he : ∀ e ∈ es, RdConflictEdge e) (p : List ConflictEdge) : Ok (m_spec_GreedyRepair u n es p) fun r => (VP n (Ee es) (Ee p) → r = uni (gre (Ee es) (Ee p) n.toNat ((List.range n.toNat).map Int.ofNat))) ∧ (¬ VP n (Ee es) (Ee p) → r = []) := by
 unfold m_spec_GreedyRepair
 refine .bind (spec_Valid_gen hn he p) fun b hb => .cond (fun h => .ret ⟨fun hv => ?_, fun _ => rfl⟩) fun h => ?_
 ·rw [hb.2 hv] at h; cases h
 have hbt : b = true := by simpa using h
 have hv := hb.1 hbt
 obtain ⟨N, rfl⟩ := Int.eq_ofNat_of_zero_le hv.1.1.1
 have hN : N ≤ 14 := by have := hv.1.1; omega
 have hn14 := hv.1.1
 have hre := VE_RE hv.1
 rw [Int.toNat_natCast]
 refine .bind (l28All_ok hu hN) fun l0 hl0 => .while (fun (s : List Int × List Int) => AscB N s.2 ∧ s.1.length + s.2.length ≤ N ∧ s.1 ++ gre (Ee es) (Ee p) s.2.length s.2 = gre (Ee es) (Ee p) N l0) (fun (s : List Int × List Int) => s.2.length) (fun (s : List Int × List Int) => s.1.length ≤ N ∧ s.1 = gre (Ee es) (Ee p) N l0) (fun _ => False) (by rw [hl0]; simp; omega) ⟨by rw [hl0]; exact AscB_range N, by rw [hl0]; simp, by simp only [List.nil_append]; rw [hl0]; simp⟩ (fun ⟨out, left⟩ ⟨h1, h2, h3⟩ => ?_) (fun ⟨out, left⟩ h => ?_) (fun _ h => h.elim)
 ·simp only at h1 h2 h3 ⊢
  refine .cond (fun h4 => ?_) fun h4 => .brk ?_
  ·have hne : left ≠ [] := fun e => by subst e; simp at h4
   have hU : undF (N : Int) es p left = und (Ee p) left := by
    unfold undF
    rw [tr_true hv, tr_true h1]; rfl
   have hun := und_ne hv.2.2 hne fun x hx => by have := h1.1 x hx; omega
   obtain ⟨v, r, hvr⟩ : ∃ v r, und (Ee p) left = v :: r := by
    cases e : und (Ee p) left with
    | nil => exact (hun e).elim
    | cons v r => exact ⟨v, r, rfl⟩
   have hmem : v ∈ left := (List.mem_filter.1 (show v ∈ und (Ee p) left by rw [hvr]; exact List.mem_cons_self ..)).1
   have hlt := rest1_lt (es := Ee es) hmem
   refine .eq (spec_UndominatedFacts_eq hn14 hre p (by omega)) ?_
   rw [hU, hvr]
   refine .get (n := 0) rfl (by simp) (.app (by simp; omega) (.eq (l28Rest_eq es left _ (by omega)) (.next ⟨⟨h1.filter _, ?_, ?_⟩, ?_⟩)))
   ·show (out ++ [v]).length + (rest1 (Ee es) left v).length ≤ N
    simp only [List.length_append, List.length_cons, List.length_nil]; omega
   ·show (out ++ [v]) ++ gre (Ee es) (Ee p) (rest1 (Ee es) left v).length (rest1 (Ee es) left v) = _
    rw [← h3]
    obtain ⟨m, hm⟩ : ∃ m, left.length = m + 1 := ⟨left.length - 1, by omega⟩
    rw [hm]
    conv => rhs; unfold gre
    rw [hvr]
    simp only
    rw [gre_fuel hv.2.2 m (rest1 (Ee es) left v) (by omega)]
    simp
   ·exact hlt
  ·have : left = [] := List.length_eq_zero_iff.1 (by have := of_decide_eq_false h4; omega)
   subst this
   rw [gre_nil, List.append_nil] at h3
   exact ⟨by simp only; omega, h3⟩
 ·simp only at h ⊢
  obtain ⟨h1, rfl⟩ := h
  refine .eq (l7Sorted_eq (by omega) hu (uni_asc _) (uni_perm (gre_nodup _ _ _ _))) (.ret ⟨fun _ => by rw [hl0], fun hnv => (hnv hv).elim⟩)
theorem selected_eq {n : Int} {es : List ConflictEdge} (hv : VE n (Ee es)) (left : List Int) (v : Int) (hl : left.length ≤ 1048576) : m_impl_selected es left v = some (rest1 (Ee es) left v) := by
 unfold m_impl_selected rest1
 refine filter_run hl fun i y o hy ho => ?_
 refine Ok.to (.bind (P := fun t => t = (decide (y ≠ v) && !adjB (Ee es) y v)) (.cond (fun h => ?_) fun h => .ret (by rw [h]; rfl)) fun t ht => ?_)
 ·have hne : y ≠ v := of_decide_eq_true h
  have ha : adjB (Ee es) y v = (decide ((v, y) ∈ Ee es) || decide ((y, v) ∈ Ee es)) := by
   rw [Bool.eq_iff_iff, adjB_iff hv hne, Bool.or_eq_true, decide_eq_true_eq, decide_eq_true_eq, or_comm]
  have hc : m_impl_inConflict es v y = some (adjB (Ee es) y v) := by
   unfold m_impl_inConflict
   rw [Contains_edge, Contains_edge, ha]
   cases decide ((v, y) ∈ Ee es) <;> rfl
  exact .eq hc (.ret (by rw [h]; rfl))
 ·subst ht
  refine .cond (fun h => .app (by simp; omega) (.ret ?_)) fun h => .ret ?_
  ·rw [if_pos h]
  ·rw [if_neg (by rw [h]; decide)]
end Go.Proofs.YtmecnecfkgneoaaGreat
set_option linter.unusedVariables false
set_option linter.unusedSimpArgs false
namespace Go.Proofs.YtmecnecfkgneoaaGreat
open Go Go.Proofs Go.Sep
noncomputable def walkP (n : Int) (es : List ConflictEdge) : Nat → List Int → List (List Int)
 | 0, s => if tr (MI2 n es s) then [s] else []
 | k + 1, s => (if indB (Ee es) (s ++ [n - ((k : Int) + 1)]) then walkP n es k (s ++ [n - ((k : Int) + 1)]) else []) ++ walkP n es k s
theorem walkP_len (n : Int) (es : List ConflictEdge) : ∀ (k : Nat) (s : List Int), (walkP n es k s).length ≤ 2 ^ k
 | 0, s => by unfold walkP; split <;> simp
 | k + 1, s => by
  have h1 := walkP_len n es k (s ++ [n - ((k : Int) + 1)])
  have h2 := walkP_len n es k s
  unfold walkP
  rw [List.length_append, Nat.pow_succ]
  split
  ·omega
  ·rw [List.length_nil]; omega
theorem walkP_mem (n : Int) (es : List ConflictEdge) : ∀ (k : Nat) (s s' : List Int), s' ∈ walkP n es k s → MI2 n es s' ∧ s'.length ≤ s.length + k ∧ ∃ t, s' = s ++ t ∧ ∀ y ∈ t, n - (k : Int) ≤ y
 | 0, s, s', h => by
  unfold walkP at h
  split at h
  ·rename_i h2
   rw [List.mem_singleton] at h
   subst h
   exact ⟨tr_iff.1 h2, by omega, [], by simp, fun y hy => by cases hy⟩
  ·cases h
 | k + 1, s, s', h => by
  unfold walkP at h
  rcases List.mem_append.1 h with h | h
  ·split at h
   ·obtain ⟨h1, h2, t, h3, h4⟩ := walkP_mem n es k _ s' h
    refine ⟨h1, by simp at h2; omega, (n - ((k : Int) + 1)) :: t, by rw [h3]; simp, fun y hy => ?_⟩
    rcases List.mem_cons.1 hy with rfl | hy
    ·omega
    ·have := h4 y hy; omega
   ·cases h
  ·obtain ⟨h1, h2, t, h3, h4⟩ := walkP_mem n es k s s' h
   exact ⟨h1, by omega, t, h3, fun y hy => by have := h4 y hy; omega⟩
theorem walkP_sizes (n : Int) (es : List ConflictEdge) (k : Nat) (s : List Int) (h : s.length + k ≤ 14) : sizes (walkP n es k s) ≤ 14 * 2 ^ k := by
 have gen : ∀ l : List (List Int), (∀ x ∈ l, x.length ≤ 14) → sizes l ≤ 14 * l.length := by
  intro l
  induction l with
  | nil => intro _; simp [sizes]
  | cons x l ih =>
   intro hl
   have h1 := ih fun y hy => hl y (List.mem_cons_of_mem _ hy)
   have h2 := hl x List.mem_cons_self
   rw [sizes_cons, List.length_cons]; omega
 have h1 := gen (walkP n es k s) fun x hx => by have := (walkP_mem n es k s x hx).2.1; omega
 have h2 := walkP_len n es k s
 omega
theorem indB_unmet {es : List ConflictEdge} {x : Int} (h : ∀ e ∈ es, e.a ≠ x ∧ e.b ≠ x) (s : List Int) : indB (Ee es) (s ++ [x]) = indB (Ee es) s := by
 unfold indB
 rw [Ee_any, Ee_any]
 congr 1
 rw [Bool.eq_iff_iff, List.any_eq_true, List.any_eq_true]
 refine exists_congr fun e => and_congr_right fun he => ?_
 have := h e he
 simp [this.1, this.2]
theorem walkP_unmet {n : Int} {es : List ConflictEdge} {k : Nat} {s : List Int} {x : Nat} (hx : (x : Int) = n - ((k : Int) + 1)) (h : ∀ e ∈ es, e.a ≠ (x : Int) ∧ e.b ≠ (x : Int)) (hs : ∀ y ∈ s, y < (x : Int)) : walkP n es k s = [] := by
 rw [List.eq_nil_iff_forall_not_mem]
 intro s' hs'
 obtain ⟨h1, _, t, rfl, h3⟩ := walkP_mem n es k s s' hs'
 have hni : ¬ (x : Int) ∈ s ++ t := fun hm => by
  rcases List.mem_append.1 hm with hm | hm
  ·have := hs _ hm; omega
  ·have := h3 _ hm; omega
 have := h1.2.2.2 x (by omega)
 unfold fits at this
 rw [indB_unmet h, h1.2.2.1, decide_eq_false hni] at this
 cases this
theorem met_eq (es : List ConflictEdge) (x : Int) : forS (fun (i_16 : Int) (x_i_16 : ConflictEdge) (met10 : Bool) => cond met10 (some true) (cond (decide (x_i_16.a = x)) (some true) (some (decide (x_i_16.b = x))))) es 0 false = some (es.any fun e => decide (e.a = x) || decide (e.b = x)) := by
 obtain ⟨s, h1, h2⟩ := forS_ok (f := fun (i_16 : Int) (x_i_16 : ConflictEdge) (met10 : Bool) => cond met10 (some true) (cond (decide (x_i_16.a = x)) (some true) (some (decide (x_i_16.b = x))))) (xs := es) (s := false) (fun n s => s = (es.take n).any fun e => decide (e.a = x) || decide (e.b = x)) (by simp) fun n y s hy hI => by
  refine ⟨_, ?_, rfl⟩
  rw [List.take_add_one, hy, hI]
  simp only [Option.toList_some, List.any_append, List.any_cons, List.any_nil, Bool.or_false]
  cases (es.take n).any fun e => decide (e.a = x) || decide (e.b = x) <;> cases decide (y.a = x) <;> cases decide (y.b = x) <;> rfl
 rw [h1, h2, List.take_length]
theorem unmet_of {es : List ConflictEdge} {x : Int} (h : (es.any fun e => decide (e.a = x) || decide (e.b = x)) = false) : ∀ e ∈ es, e.a ≠ x ∧ e.b ≠ x := fun e he => by
 have := List.any_eq_false.1 h e he
 simp only [Bool.or_eq_true, decide_eq_true_eq, not_or] at this
 exact this
theorem spec_leaf {n : Int} (hn : 0 ≤ n ∧ n ≤ 14) {es : List ConflictEdge} (he : RE es) {s : List Int} (hs : s.length ≤ 14) : m_spec_IsMaximalIndependent n es s = some (tr (MI2 n es s)) := Ok_tr (spec_IsMaximalIndependent_ok hn he (by omega))
theorem impl_leaf {n : Int} (hn : 0 ≤ n ∧ n ≤ 14) {es : List ConflictEdge} (he : RE es) {s : List Int} (hs : s.length ≤ 14) : m_impl_IsMaximalIndependent n es s = some (tr (MI2 n es s)) := Ok_tr (impl_IsMaximalIndependent_ok hn he (by omega))
theorem pow_le14 {k : Nat} (h : k ≤ 14) : 2 ^ k ≤ 16384 := Nat.pow_le_pow_right (by decide) h
theorem l8Walk_eq {n : Int} (hn : 0 ≤ n ∧ n ≤ 14) {es : List ConflictEdge} (he : RE es) : ∀ (k u : Nat) (s : List Int) (x : Int), k < u → x = n - k → 0 ≤ x → s.length + k ≤ 14 → (∀ y ∈ s, y < x) → m_spec_l8Walk u n es s x = some (walkP n es k s)
 | 0, u + 1, s, x, hu, hx, h0, hs, hy => by
  simp only [m_spec_l8Walk]
  rw [cond_T' (by simp; omega), spec_leaf hn he (by omega), Option.bind_some]
  unfold walkP
  cases tr (MI2 n es s) with
  | true => simp only [cond_true, if_true]; rw [app_ok (by simp; omega)]; rfl
  | false => rfl
 | k + 1, u + 1, s, x, hu, hx, h0, hs, hy => by
  have hk : k ≤ 14 := by omega
  have h2k := pow_le14 hk
  have ex : x = n - ((k : Int) + 1) := by rw [hx]; push_cast; rfl
  have hxs : ¬ x ∈ s := fun h => by have := hy x h; omega
  have r1 := l8Walk_eq hn he k u (s ++ [x]) (x + 1) (by omega) (by omega) (by omega) (by simp; omega) (fun y h => by
   rcases List.mem_append.1 h with h | h
   ·have := hy y h; omega
   ·rw [List.mem_singleton] at h; omega)
  have r2 := l8Walk_eq hn he k u s (x + 1) (by omega) (by omega) (by omega) (by omega) (fun y h => by have := hy y h; omega)
  have l1 := walkP_len n es k (s ++ [x])
  have l2 := walkP_len n es k s
  obtain ⟨X, hX⟩ := Int.eq_ofNat_of_zero_le h0
  have un : (es.any fun e => decide (e.a = x) || decide (e.b = x)) = false → walkP n es k s = [] := fun h => by
   have h3 := unmet_of h
   subst hX
   exact walkP_unmet ex h3 hy
  simp only [m_spec_l8Walk]
  rw [cond_F' (by simp; omega), l8Fits_eq es s x (by omega), Option.bind_some, w64_id (by omega), r2, met_eq]
  simp only [Option.bind_some]
  have ef : fits (Ee es) s x = indB (Ee es) (s ++ [x]) := by unfold fits; rw [decide_eq_false hxs]; rfl
  have ew : walkP n es (k + 1) s = (if indB (Ee es) (s ++ [x]) then walkP n es k (s ++ [x]) else []) ++ walkP n es k s := by rw [walkP, ← ex]
  rw [ef, ew]
  cases indB (Ee es) (s ++ [x]) with
  | true =>
   simp only [cond_true, if_true]
   rw [app_ok (by simp; omega), Option.bind_some, app_ok (by simp; omega), Option.bind_some]
   simp only [List.nil_append]
   rw [r1, Option.bind_some]
   cases hm : es.any fun e => decide (e.a = x) || decide (e.b = x) with
   | true => simp only [cond_true]; rw [app_ok (by omega)]; rfl
   | false => rw [un hm]; simp
  | false =>
   simp only [cond_false]
   cases hm : es.any fun e => decide (e.a = x) || decide (e.b = x) with
   | true => simp only [cond_true]; rw [app_ok (by simp; omega)]; rfl
   | false => rw [un hm]; rfl
theorem search_eq {n : Int} (hn : 0 ≤ n ∧ n ≤ 14) {es : List ConflictEdge} (he : RE es) : ∀ (k u : Nat) (s : List Int) (x : Int) (out : List (List Int)), k < u → x = n - k → 0 ≤ x → s.length + k ≤ 14 → out.length + 2 ^ k ≤ 100000 → m_impl_MaximalIndependentSets_1 u x s n es out = some (out ++ walkP n es k s)
 | 0, u + 1, s, x, out, hu, hx, h0, hs, ho => by
  simp only [m_impl_MaximalIndependentSets_1]
  rw [cond_T' (by simp; omega), impl_leaf hn he (by omega), Option.bind_some]
  unfold walkP
  cases tr (MI2 n es s) with
  | true => simp only [cond_true, if_true]; rw [app_ok (by simp; omega), Option.bind_some, app_ok (by simp at ho ⊢; omega)]; rfl
  | false => simp
 | k + 1, u + 1, s, x, out, hu, hx, h0, hs, ho => by
  have hk : k ≤ 14 := by omega
  have h2k := pow_le14 hk
  rw [Nat.pow_succ] at ho
  have ex : x = n - ((k : Int) + 1) := by rw [hx]; push_cast; rfl
  have l1 := walkP_len n es k (s ++ [x])
  have r1 := search_eq hn he k u (s ++ [x]) (x + 1) out (by omega) (by omega) (by omega) (by simp; omega) (by omega)
  have r2 := search_eq hn he k u s (x + 1) out (by omega) (by omega) (by omega) (by omega) (by omega)
  have r3 := search_eq hn he k u s (x + 1) (out ++ walkP n es k (s ++ [x])) (by omega) (by omega) (by omega) (by omega) (by rw [List.length_append]; omega)
  have ew : walkP n es (k + 1) s = (if indB (Ee es) (s ++ [x]) then walkP n es k (s ++ [x]) else []) ++ walkP n es k s := by rw [walkP, ← ex]
  simp only [m_impl_MaximalIndependentSets_1]
  rw [cond_F' (by simp; omega), clone_eq s (by omega), Option.bind_some, app_ok (by simp; omega), Option.bind_some, impl_IsIndependent_eq, Option.bind_some, w64_id (by omega), ew]
  cases indB (Ee es) (s ++ [x]) with
  | true =>
   simp only [cond_true, if_true]
   rw [r1, Option.bind_some, r3]
   simp
  | false =>
   simp only [cond_false]
   rw [r2]
   simp
noncomputable def allMI (n : Int) (es : List ConflictEdge) : List (List Int) := if tr (VE n (Ee es)) then walkP n es n.toNat [] else []
theorem allMI_sizes (n : Int) (es : List ConflictEdge) : (allMI n es).length ≤ 16384 ∧ sizes (allMI n es) ≤ 229376 := by
 unfold allMI
 split
 ·rename_i h
  have hv := (tr_iff.1 h).1
  have h1 := walkP_len n es n.toNat []
  have h2 := walkP_sizes n es n.toNat [] (by simp; omega)
  have h3 := pow_le14 (k := n.toNat) (by omega)
  omega
 ·simp [sizes]
theorem allMI_mem {n : Int} {es : List ConflictEdge} {s : List Int} (h : s ∈ allMI n es) : MI2 n es s ∧ s.length ≤ 14 := by
 unfold allMI at h
 split at h
 ·rename_i h2
  have hv := (tr_iff.1 h2).1
  have := walkP_mem n es n.toNat [] s h
  exact ⟨this.1, by have := this.2.1; simp at this; omega⟩
 ·cases h
theorem spec_allMI {u : Nat} (hu : 1048577 < u) {n : Int} (hn : -9223372036854775808 ≤ n ∧ n ≤ 9223372036854775807) {es : List ConflictEdge} (he : ∀ e ∈ es, RdConflictEdge e) : m_spec_MaximalIndependentSets u n es = some (allMI n es) := by
 unfold m_spec_MaximalIndependentSets allMI
 rw [Ok_tr (spec_AreValidEdges_gen hn he), Option.bind_some]
 cases h : tr (VE n (Ee es)) with
 | false => rfl
 | true =>
  have hv := tr_iff.1 h
  have hn14 := hv.1
  simp only [Bool.not_true, cond_false, if_true]
  rw [l8Walk_eq hv.1 (VE_RE hv) n.toNat u [] 0 (by omega) (by omega) (by omega) (by simp; omega) (fun y hy => by cases hy)]
  rfl
theorem impl_allMI {u : Nat} (hu : 1048577 < u) {n : Int} {es : List ConflictEdge} : m_impl_MaximalIndependentSets u n es = some (allMI n es) := by
 unfold m_impl_MaximalIndependentSets allMI
 rw [Ok_tr impl_AreValidEdges_gen, Option.bind_some]
 cases h : tr (VE n (Ee es)) with
 | false => rfl
 | true =>
  have hv := tr_iff.1 h
  have hn14 := hv.1
  have h3 := pow_le14 (k := n.toNat) (by omega)
  simp only [Bool.not_true, cond_false, if_true]
  rw [search_eq hv.1 (VE_RE hv) n.toNat u [] 0 [] (by omega) (by omega) (by omega) (by simp; omega) (by simp; omega)]
  rfl
end Go.Proofs.YtmecnecfkgneoaaGreat
set_option linter.unusedVariables false
set_option linter.unusedSimpArgs false
namespace Go.Proofs.YtmecnecfkgneoaaGreat
open Go Go.Proofs Go.Sep
noncomputable def allPO (n : Int) (es p : List ConflictEdge) : List (List Int) := (allMI n es).filter fun s => tr (PO2 n es p s)
theorem allMI_VE {n : Int} {es : List ConflictEdge} {s : List Int} (h : s ∈ allMI n es) : (0 ≤ n ∧ n ≤ 14) ∧ RE es := by
 have := (allMI_mem h).1.1
 exact ⟨this.1, VE_RE this⟩
theorem impl_allPO {u : Nat} (hu : 1048577 < u) {n : Int} {es : List ConflictEdge} (p : List ConflictEdge) : m_impl_ParetoOptimalRepairs u n es p = some (allPO n es p) := by
 unfold m_impl_ParetoOptimalRepairs allPO
 rw [impl_allMI hu, Option.bind_some, forS_filter (fun s => tr (PO2 n es p s)) fun i s o hs ho => ?_]
 ·rfl
 ·have hl := (allMI_sizes n es).1
  have hm := List.mem_of_getElem? hs
  have hi := (List.getElem?_eq_some_iff.1 hs).1
  have hv := allMI_VE hm
  have hsl := (allMI_mem hm).2
  rw [Ok_tr (impl_IsParetoOptimal_ok hu hv.1 hv.2 p (s := s) (by omega)), Option.bind_some]
  cases tr (PO2 n es p s) with
  | true => simp only [cond_true, if_true]; rw [app_ok (by simp; omega)]; rfl
  | false => rfl
end Go.Proofs.YtmecnecfkgneoaaGreat
set_option linter.unusedVariables false
set_option linter.unusedSimpArgs false
namespace Go.Proofs.YtmecnecfkgneoaaGreat
open Go Go.Proofs Go.Sep
theorem adjB_comm (es : List (Int × Int)) (a b : Int) : adjB es a b = adjB es b a := by
 unfold adjB
 by_cases h1 : a < b
 ·have h2 : ¬ b < a := by omega
  simp only [h1, h2, if_true, if_false]
 ·by_cases h2 : b < a
  ·simp only [h1, h2, if_true, if_false]
  ·have : a = b := by omega
   subst this; rfl
theorem VE_ne {n : Int} {es : List (Int × Int)} (h : VE n es) {e : Int × Int} (he : e ∈ es) : e.1 ≠ e.2 := by
 obtain ⟨j, hj⟩ := List.getElem?_of_mem he
 have hl := (List.getElem?_eq_some_iff.1 hj).1
 have := h.2 j hl
 unfold OkE at this
 have e2 : es.getD j default = e := by simp [List.getD, hj]
 rw [e2] at this
 omega
theorem indB_sub {es : List (Int × Int)} {s t : List Int} (h : indB es t = true) (hs : ∀ x ∈ s, x ∈ t) : indB es s = true := by
 unfold indB at h ⊢
 rw [Bool.not_eq_true', List.any_eq_false] at h ⊢
 intro e he h2
 simp only [Bool.and_eq_true, decide_eq_true_eq] at h2
 exact h e he (by simp only [Bool.and_eq_true, decide_eq_true_eq]; exact ⟨hs _ h2.1, hs _ h2.2⟩)
theorem walkP_all {n : Int} {es : List ConflictEdge} : ∀ (k : Nat) (s t : List Int), MI2 n es (s ++ t) → (∀ y ∈ t, n - (k : Int) ≤ y) → s ++ t ∈ walkP n es k s
 | 0, s, t, h, ht => by
  have : t = [] := by
   cases t with
   | nil => rfl
   | cons y t =>
    have h1 := ht y (List.mem_cons_self ..)
    have h2 := h.2.1.1 y (by simp)
    omega
  subst this
  rw [List.append_nil] at h ⊢
  unfold walkP
  rw [if_pos (tr_true h)]
  exact List.mem_singleton.2 rfl
 | k + 1, s, t, h, ht => by
  unfold walkP
  rw [List.mem_append]
  by_cases hx : n - ((k : Int) + 1) ∈ t
  ·left
   cases t with
   | nil => cases hx
   | cons y t =>
    have hasc := h.2.1.2
    rw [List.pairwise_append] at hasc
    have h2 := List.pairwise_cons.1 hasc.2.1
    have hy : y = n - ((k : Int) + 1) := by
     rcases List.mem_cons.1 hx with e | e
     ·exact e.symm
     ·have h3 := h2.1 _ e
      have h4 := ht y (List.mem_cons_self ..)
      omega
    subst hy
    have e : s ++ (n - ((k : Int) + 1)) :: t = (s ++ [n - ((k : Int) + 1)]) ++ t := by simp
    rw [if_pos (indB_sub h.2.2.1 (fun x hx => by simp at hx ⊢; rcases hx with hx | hx <;> simp [hx])), e]
    refine walkP_all k _ t (by rw [← e]; exact h) fun y hy => ?_
    have := h2.1 y hy
    omega
  ·right
   refine walkP_all k s t h fun y hy => ?_
   have h1 := ht y hy
   have : y ≠ n - ((k : Int) + 1) := fun e => hx (e ▸ hy)
   omega
theorem allMI_all {n : Int} {es : List ConflictEdge} {s : List Int} (h : MI2 n es s) : s ∈ allMI n es := by
 unfold allMI
 rw [if_pos (tr_true h.1)]
 have := walkP_all n.toNat [] s (by simpa using h) fun y hy => by
  have := h.2.1.1 y hy
  have := h.1.1
  omega
 simpa using this
end Go.Proofs.YtmecnecfkgneoaaGreat
set_option linter.unusedVariables false
set_option linter.unusedSimpArgs false
namespace Go.Proofs.YtmecnecfkgneoaaGreat
open Go Go.Proofs Go.Sep
theorem sameInts_eq (a b : List Int) : m_laws_sameInts a b = some (decide (a = b)) := by
 unfold m_laws_sameInts
 by_cases hl : a.length = b.length
 ·rw [cond_F' (by simp [hl])]
  obtain ⟨o, h1, h2⟩ := forL_all (f := fun (i_2 : Int) (x_i_2 : Int) (_ : Unit) => (getI b (i_2 : Int)).bind fun v_4 => cond (decide (x_i_2 ≠ v_4)) (some (.ret false)) (some (.next ()))) (xs := a) (r := false) (fun n x => decide (b[n]? = some x)) (fun n x hx => by
   have hn : n < b.length := by have := (List.getElem?_eq_some_iff.1 hx).1; omega
   rw [getI_lt hn, Option.bind_some, List.getElem?_eq_getElem hn]
   by_cases e : x = b[n]
   ·simp [e]
   ·simp [e, Ne.symm e])
  rw [h1, Option.bind_some]
  rcases h2 with ⟨rfl, h⟩ | ⟨rfl, n, x, hx, hp⟩
  ·simp only [onS, Option.some.injEq]
   symm; simp only [decide_eq_true_eq]
   apply List.ext_getElem?
   intro n
   cases hx : a[n]? with
   | none => rw [List.getElem?_eq_none_iff] at hx; rw [List.getElem?_eq_none (by omega)]
   | some x => have := h n x hx; simp at this; exact this.symm
  ·simp only [onS, Option.some.injEq]
   symm; simp only [decide_eq_false_iff_not]
   rintro rfl
   simp [hx] at hp
 ·rw [cond_T' (by simp; omega)]
  have : a ≠ b := fun e => hl (by rw [e])
  simp [this]
end Go.Proofs.YtmecnecfkgneoaaGreat
set_option linter.unusedVariables false
set_option linter.unusedSimpArgs false
namespace Go.Proofs.YtmecnecfkgneoaaGreat
open Go Go.Proofs Go.Sep
structure OrdI {α : Type} (c : α → α → Int) : Prop where
  zero : ∀ x y, c x y = 0 ↔ x = y
  anti : ∀ x y, c y x = - c x y
  trans : ∀ x y z, c x y ≤ 0 → c y z ≤ 0 → c x z ≤ 0
  bnd : ∀ x y, -1 ≤ c x y ∧ c x y ≤ 1
section
variable {α : Type} {c : α → α → Int}
theorem OrdI.irr (h : OrdI c) (x : α) : c x x = 0 := (h.zero x x).2 rfl
theorem OrdI.lt_le (h : OrdI c) {x y z : α} (h1 : c x y < 0) (h2 : c y z ≤ 0) : c x z < 0 := by
 have h3 := h.trans x y z (by omega) h2
 rcases Int.lt_or_eq_of_le h3 with h4 | h4
 ·exact h4
 ·have := (h.zero x z).1 h4
  subst this
  have := h.anti x y
  omega
def AscO (c : α → α → Int) (l : List α) : Prop := l.Pairwise fun x y => c x y < 0
theorem AscO.nodup (h : OrdI c) {l : List α} (hl : AscO c l) : l.Nodup := hl.imp fun {x y} k e => by subst e; rw [h.irr] at k; omega
theorem AscO.uniq (h : OrdI c) : ∀ {l m : List α}, AscO c l → AscO c m → (∀ x, x ∈ l ↔ x ∈ m) → l = m
 | [], [], _, _, _ => rfl
 | [], b :: m, _, _, k => by have := (k b).2 (List.mem_cons_self ..); simp at this
 | a :: l, [], _, _, k => by have := (k a).1 (List.mem_cons_self ..); simp at this
 | a :: l, b :: m, hl, hm, k => by
  obtain ⟨h1, h2⟩ := List.pairwise_cons.1 hl
  obtain ⟨h3, h4⟩ := List.pairwise_cons.1 hm
  have hab : a = b := by
   rcases List.mem_cons.1 ((k a).1 (List.mem_cons_self ..)) with e | g1
   ·exact e
   ·rcases List.mem_cons.1 ((k b).2 (List.mem_cons_self ..)) with e | g2
    ·exact e.symm
    ·have := h1 b g2; have := h3 a g1; have := h.anti a b; omega
  subst hab
  congr 1
  refine AscO.uniq h h2 h4 fun x => ⟨fun hx => ?_, fun hx => ?_⟩
  ·rcases List.mem_cons.1 ((k x).1 (List.mem_cons_of_mem _ hx)) with e | g
   ·subst e; have := h1 x hx; rw [h.irr] at this; omega
   ·exact g
  ·rcases List.mem_cons.1 ((k x).2 (List.mem_cons_of_mem _ hx)) with e | g
   ·subst e; have := h3 x hx; rw [h.irr] at this; omega
   ·exact g
theorem cmpO_ok (h : OrdI c) {f : α → α → Option Int} (hf : ∀ x y, f x y = some (c x y)) (l : List α) : CmpOK f l where
 tot := fun x _ y _ => ⟨_, hf x y, by have := h.bnd x y; omega, by have := h.bnd x y; omega⟩
 irr := fun x _ r k => by rw [hf] at k; cases k; rw [h.irr]; omega
 tr := fun x _ y _ z _ r s t h1 h2 h3 h4 h5 => by
  rw [hf] at h1 h2 h3; cases h1; cases h2; cases h3
  exact h.lt_le h4 (by omega)
 ntr := fun x _ y _ z _ r s t h1 h2 h3 h4 h5 => by
  rw [hf] at h1 h2 h3; cases h1; cases h2; cases h3
  have e1 := h.anti x y; have e2 := h.anti y z; have e3 := h.anti x z
  have := h.trans z y x (by omega) (by omega)
  omega
 anti := fun x _ y _ r s h1 h2 h3 h4 => by
  rw [hf] at h1 h2; cases h1; cases h2
  have := h.anti x y
  exact (h.zero x y).1 (by omega)
theorem sortO (h : OrdI c) {f : α → α → Option Int} (hf : ∀ x y, f x y = some (c x y)) (l : List α) (hl : l.length < 4611686018427387904) : ∃ so, sortM f l = some so ∧ so.Perm l ∧ so.Pairwise fun x y => c x y ≤ 0 := by
 have hp : (l.mergeSort fun x y => decide (c x y ≤ 0)).Perm l := List.mergeSort_perm ..
 have hs : (l.mergeSort fun x y => decide (c x y ≤ 0)).Pairwise fun x y => c x y ≤ 0 := by
  have := List.pairwise_mergeSort (le := fun x y => decide (c x y ≤ 0)) (fun a b d h1 h2 => by simp only [decide_eq_true_eq] at h1 h2 ⊢; exact h.trans _ _ _ h1 h2) (fun a b => by have := h.anti a b; simp only [Bool.or_eq_true, decide_eq_true_eq]; omega) l
  simpa using this
 refine ⟨_, sortM_eq hl (cmpO_ok h hf l) ⟨hp, hs.imp fun {x y} k r hr => ?_⟩, hp, hs⟩
 have hr : f y x = some r := hr
 rw [hf] at hr; cases hr
 have := h.anti x y; omega
theorem compG_memO {e : α → α → Bool} (he : ∀ x y, e x y = true ↔ x = y) : ∀ (l : List α) (p x : α), x ∈ compG e p l ∨ x = p ↔ x ∈ l ∨ x = p
 | [], p, x => by simp [compG]
 | y :: l, p, x => by
  have h := compG_memO he l y x
  simp only [compG]
  split
  ·rename_i k
   have k := (he _ _).1 k
   subst k
   simp only [List.mem_cons]
   constructor
   ·intro g; rcases h.1 g with g | g
    ·exact .inl (.inr g)
    ·exact .inr g
   ·intro g; rcases g with (g | g) | g
    ·exact .inr g
    ·exact h.2 (.inl g)
    ·exact .inr g
  ·simp only [List.mem_cons]
   constructor
   ·intro g; rcases g with (g | g) | g
    ·exact .inl (.inl g)
    ·rcases h.1 (.inl g) with k | k
     ·exact .inl (.inr k)
     ·exact .inl (.inl k)
    ·exact .inr g
   ·intro g; rcases g with (g | g) | g
    ·exact .inl (.inl g)
    ·rcases h.2 (.inl g) with k | k
     ·exact .inl (.inr k)
     ·exact .inl (.inl k)
    ·exact .inr g
theorem compG_ascO (h : OrdI c) {e : α → α → Bool} (he : ∀ x y, e x y = true ↔ x = y) : ∀ (l : List α) (p : α), (p :: l).Pairwise (fun x y => c x y ≤ 0) → AscO c (p :: compG e p l)
 | [], p, _ => by simp [compG, AscO]
 | y :: l, p, k => by
  obtain ⟨h1, h2⟩ := List.pairwise_cons.1 k
  have ih := compG_ascO h he l y h2
  simp only [compG]
  split
  ·rename_i g
   have g := (he _ _).1 g
   subst g
   exact ih
  ·rename_i g
   have hy := h1 y (List.mem_cons_self ..)
   have hne : c p y < 0 := by
    have : c y p ≠ 0 := fun k => g ((he _ _).2 ((h.zero _ _).1 k))
    have := h.anti p y; omega
   refine List.pairwise_cons.2 ⟨fun z hz => ?_, ih⟩
   rcases List.mem_cons.1 hz with rfl | hz
   ·exact hne
   ·exact h.lt_le hne (by have := (List.pairwise_cons.1 ih).1 z hz; omega)
theorem compO (h : OrdI c) {f : α → α → Option Bool} {e : α → α → Bool} (hf : ∀ x y, f x y = some (e x y)) (he : ∀ x y, e x y = true ↔ x = y) {l : List α} (hs : l.Pairwise fun x y => c x y ≤ 0) (hl : l.length < 4611686018427387904) : ∃ r, compM f l = some r ∧ AscO c r ∧ ∀ x, x ∈ r ↔ x ∈ l := by
 refine ⟨compF e l, compM_eq (fun x _ y _ => hf x y) hl, ?_⟩
 cases l with
 | nil => exact ⟨.nil, fun x => Iff.rfl⟩
 | cons p l =>
  refine ⟨compG_ascO h he l p hs, fun x => ?_⟩
  have := compG_memO he l p x
  simp only [compF, List.mem_cons]
  rw [or_comm, this, or_comm]
theorem ascO_ins (h : OrdI c) {l : List α} {x : α} {n : Nat} (hl : AscO c l) (hx : x ∉ l) (h1 : ∀ (j : Nat) y, j < n → l[j]? = some y → c y x < 0) (h2 : ∀ y, l[n]? = some y → ¬ c y x < 0) : AscO c (l.take n ++ x :: l.drop n) ∧ ∀ y, y ∈ l.take n ++ x :: l.drop n ↔ y ∈ l ∨ y = x := by
 have hmem : ∀ y, y ∈ l.take n ++ x :: l.drop n ↔ y ∈ l ∨ y = x := fun y => by
  conv => rhs; rw [← List.take_append_drop n l]
  simp only [List.mem_append, List.mem_cons]
  constructor
  ·rintro (h | h | h)
   ·exact .inl (.inl h)
   ·exact .inr h
   ·exact .inl (.inr h)
  ·rintro ((h | h) | h)
   ·exact .inl h
   ·exact .inr (.inr h)
   ·exact .inr (.inl h)
 refine ⟨?_, hmem⟩
 have ha := hl
 unfold AscO at ha
 rw [← List.take_append_drop n l] at ha
 obtain ⟨k1, k2, k3⟩ := List.pairwise_append.1 ha
 have hlow : ∀ y ∈ l.take n, c y x < 0 := fun y hy => by
  obtain ⟨j, hj⟩ := List.getElem?_of_mem hy
  have hjn : j < n := by have := (List.getElem?_eq_some_iff.1 hj).1; simp only [List.length_take] at this; omega
  rw [List.getElem?_take_of_lt hjn] at hj
  exact h1 j y hjn hj
 have hhigh : ∀ y ∈ l.drop n, c x y < 0 := fun y hy => by
  have hnl : n < l.length := by
   rcases Nat.lt_or_ge n l.length with h | h
   ·exact h
   ·rw [List.drop_eq_nil_of_le h] at hy; simp at hy
  have h5 := h2 _ (List.getElem?_eq_getElem hnl)
  have h6 : c l[n] x ≠ 0 := fun k => hx ((h.zero _ _).1 k ▸ List.getElem_mem hnl)
  have h7 : c x l[n] < 0 := by have := h.anti x l[n]; omega
  rw [List.drop_eq_getElem_cons hnl] at hy k2
  rcases List.mem_cons.1 hy with rfl | hy
  ·exact h7
  ·exact h.lt_le h7 (by have := (List.pairwise_cons.1 k2).1 y hy; omega)
 refine List.pairwise_append.2 ⟨k1, List.pairwise_cons.2 ⟨hhigh, k2⟩, fun y hy z hz => ?_⟩
 rcases List.mem_cons.1 hz with rfl | hz
 ·exact hlow y hy
 ·exact k3 y hy z hz
end
theorem cmpL_ord : OrdI cmpL where
 zero := by
  intro a
  induction a with
  | nil => intro b; cases b <;> simp [cmpL]
  | cons x a ih =>
   intro b
   cases b with
   | nil => simp [cmpL]
   | cons y b =>
    have := ih b
    simp only [cmpL, List.cons.injEq]
    split
    ·constructor
     ·intro h; omega
     ·intro h; omega
    ·split
     ·constructor
      ·intro h; omega
      ·intro h; omega
     ·rw [this]
      exact ⟨fun h => ⟨by omega, h⟩, fun h => h.2⟩
 anti := by
  intro a
  induction a with
  | nil => intro b; cases b <;> simp [cmpL]
  | cons x a ih =>
   intro b
   cases b with
   | nil => simp [cmpL]
   | cons y b =>
    have := ih b
    simp only [cmpL]
    split <;> split <;> (try split) <;> (try split) <;> omega
 trans := by
  intro a
  induction a with
  | nil => intro b d _ _; cases d <;> simp [cmpL]
  | cons x a ih =>
   intro b d h1 h2
   cases b with
   | nil => simp [cmpL] at h1
   | cons y b =>
    cases d with
    | nil => simp [cmpL] at h2
    | cons z d =>
     have := ih b d
     simp only [cmpL] at h1 h2 ⊢
     by_cases g1 : x < z
     ·rw [if_pos g1]; omega
     ·rw [if_neg g1]
      by_cases g2 : x < y
      ·by_cases g3 : y < z
       ·omega
       ·rw [if_neg g3] at h2
        by_cases g4 : z < y
        ·rw [if_pos g4] at h2; omega
        ·omega
      ·rw [if_neg g2] at h1
       by_cases g5 : y < x
       ·rw [if_pos g5] at h1; omega
       ·rw [if_neg g5] at h1
        have e : x = y := by omega
        subst e
        rw [if_neg g1] at h2
        by_cases g6 : z < x
        ·rw [if_pos g6] at h2; omega
        ·rw [if_neg g6] at h2 ⊢
         exact this h1 h2
 bnd := by
  intro a
  induction a with
  | nil => intro b; cases b <;> simp [cmpL]
  | cons x a ih =>
   intro b
   cases b with
   | nil => simp [cmpL]
   | cons y b => have := ih b; simp only [cmpL]; split <;> (try split) <;> omega
end Go.Proofs.YtmecnecfkgneoaaGreat
set_option linter.unusedVariables false
set_option linter.unusedSimpArgs false
namespace Go.Proofs.YtmecnecfkgneoaaGreat
open Go Go.Proofs Go.Sep
def gall (es p : List (Int × Int)) : Nat → List Int → List (List Int)
 | 0, _ => [[]]
 | k + 1, left => if left = [] then [[]] else (und p left).flatMap fun v => (gall es p k (rest1 es left v)).map (v :: ·)
def fct : Nat → Nat
 | 0 => 1
 | n + 1 => (n + 1) * fct n
theorem fct7 : fct 7 = 5040 := by decide
theorem fct_mono {n m : Nat} (h : n ≤ m) : fct n ≤ fct m := by
 induction m with
 | zero => rw [Nat.le_zero.1 h]; exact Nat.le_refl _
 | succ m ih =>
  rcases Nat.lt_or_eq_of_le h with h | rfl
  ·refine Nat.le_trans (ih (by omega)) ?_
   show fct m ≤ (m + 1) * fct m
   exact Nat.le_mul_of_pos_left _ (Nat.succ_pos _)
  ·exact Nat.le_refl _
theorem flatMap_len {α β : Type} {f : α → List β} {b : Nat} : ∀ {l : List α}, (∀ x ∈ l, (f x).length ≤ b) → (l.flatMap f).length ≤ l.length * b
 | [], _ => by simp
 | x :: l, h => by
  have h1 := h x (List.mem_cons_self ..)
  have h2 := flatMap_len (l := l) fun y hy => h y (List.mem_cons_of_mem _ hy)
  simp only [List.flatMap_cons, List.length_append, List.length_cons, Nat.succ_mul]; omega
theorem und_le {p : List (Int × Int)} {left : List Int} : (und p left).length ≤ left.length := List.length_filter_le _ _
theorem gall_len (es p : List (Int × Int)) : ∀ (k : Nat) (left : List Int), left.length ≤ k → (gall es p k left).length ≤ fct left.length
 | 0, left, h => by rw [List.length_eq_zero_iff.1 (Nat.le_zero.1 h)]; exact Nat.le_refl _
 | k + 1, left, h => by
  unfold gall
  split
  ·rename_i e; subst e; exact Nat.le_refl _
  ·rename_i e
   obtain ⟨m, hm⟩ : ∃ m, left.length = m + 1 := ⟨left.length - 1, by have := List.length_pos_iff.2 e; omega⟩
   have h1 := flatMap_len (f := fun v => (gall es p k (rest1 es left v)).map (v :: ·)) (b := fct m) (l := und p left) fun v hv => by
    have hlt := rest1_lt (es := es) (List.mem_filter.1 hv).1
    rw [List.length_map]
    exact Nat.le_trans (gall_len es p k _ (by omega)) (fct_mono (by omega))
   have h2 : (und p left).length * fct m ≤ (m + 1) * fct m := Nat.mul_le_mul_right _ (by have := und_le (p := p) (left := left); omega)
   rw [hm]
   exact Nat.le_trans h1 h2
theorem gall_prop {n : Int} {es p : List (Int × Int)} : ∀ (k : Nat) (left t : List Int), left.length ≤ k → t ∈ gall es p k left → (∀ x ∈ t, x ∈ left) ∧ t.Nodup ∧ t.length ≤ k ∧ (∀ a ∈ t, ∀ b ∈ t, a ≠ b → adjB es a b = false) ∧ ∀ x ∈ left, x ∈ t ∨ ∃ v ∈ t, adjB es x v = true ∧ ¬ (x, v) ∈ p
 | 0, left, t, hl, ht => by
  have e : left = [] := List.length_eq_zero_iff.1 (Nat.le_zero.1 hl)
  subst e
  unfold gall at ht
  have := List.mem_singleton.1 ht
  subst this
  simp
 | k + 1, left, t, hl, ht => by
  unfold gall at ht
  split at ht
  ·rename_i e
   subst e
   have := List.mem_singleton.1 ht
   subst this
   simp
  ·obtain ⟨v, hv, ht2⟩ := List.mem_flatMap.1 ht
   obtain ⟨t', ht3, e3⟩ := List.mem_map.1 ht2
   subst e3
   clear ht ht2
   have hv2 := List.mem_filter.1 hv
   have hlt := rest1_lt (es := es) hv2.1
   obtain ⟨h1, h2, h3, h4, h5⟩ := gall_prop (n := n) k (rest1 es left v) t' (by omega) ht3
   have far : ∀ y ∈ t', y ≠ v ∧ adjB es y v = false := fun y hy => by
    have := (List.mem_filter.1 (h1 y hy)).2
    simpa using this
   refine ⟨fun x hx => ?_, List.nodup_cons.2 ⟨fun h => (far v h).1 rfl, h2⟩, by simp only [List.length_cons]; omega, fun a ha b hb hne => ?_, fun x hx => ?_⟩
   ·rcases List.mem_cons.1 hx with rfl | hx
    ·exact hv2.1
    ·exact (List.mem_filter.1 (h1 x hx)).1
   ·have comm : ∀ a b, adjB es a b = adjB es b a := fun a b => by
     unfold adjB
     by_cases h1 : a < b
     ·have h2 : ¬ b < a := by omega
      simp only [h1, h2, if_true, if_false]
     ·by_cases h2 : b < a
      ·simp only [h1, h2, if_true, if_false]
      ·have : a = b := by omega
       subst this; rfl
    rcases List.mem_cons.1 ha with e1 | ha1 <;> rcases List.mem_cons.1 hb with e2 | hb1
    ·exact (hne (e1.trans e2.symm)).elim
    ·rw [comm, e1]; exact (far b hb1).2
    ·rw [e2]; exact (far a ha1).2
    ·exact h4 a ha1 b hb1 hne
   ·have hnp : ¬ (x, v) ∈ p := fun h => by
     have h2 := hv2.2
     rw [Bool.not_eq_true', List.any_eq_false] at h2
     exact h2 x hx (decide_eq_true h)
    by_cases e : x = v
    ·exact .inl (by rw [e]; exact List.mem_cons_self ..)
    ·by_cases ha : adjB es x v = true
     ·exact .inr ⟨v, List.mem_cons_self .., ha, hnp⟩
     ·have hr : x ∈ rest1 es left v := List.mem_filter.2 ⟨hx, by simp [e, ha]⟩
      rcases h5 x hr with h | ⟨y, hy, g1, g2⟩
      ·exact .inl (List.mem_cons_of_mem _ h)
      ·exact .inr ⟨y, List.mem_cons_of_mem _ hy, g1, g2⟩
theorem greedy_all {n : Int} {es p : List ConflictEdge} (hv : VP n (Ee es) (Ee p)) : ∀ (k u : Nat) (left chosen : List Int) (out : List (List Int)), left.length ≤ k → k < u → (∀ x ∈ left, 0 ≤ x ∧ x < n) → chosen.length + k ≤ 1048576 → out.length + fct left.length ≤ 1000000 →
  m_impl_greedy_1 u left chosen out p es true = some (out ++ (gall (Ee es) (Ee p) k left).map fun t => uni (chosen ++ t))
 | k, u + 1, left, chosen, out, hk, hu, hin, hc, ho => by
  unfold m_impl_greedy_1
  by_cases h0 : left = []
  ·subst h0
   have hg : gall (Ee es) (Ee p) k [] = [[]] := by cases k <;> simp [gall]
   rw [hg, cond_T' (by simp), union_eq _ _ (by omega) (by simp), Option.bind_some, app_ok (by simp only [List.length_cons, List.length_nil]; omega), Option.bind_some]
   simp
  ·have hpos : 0 < left.length := List.length_pos_iff.2 h0
   obtain ⟨k, rfl⟩ : ∃ i, k = i + 1 := ⟨k - 1, by omega⟩
   obtain ⟨m, hm⟩ : ∃ m, left.length = m + 1 := ⟨left.length - 1, by omega⟩
   rw [cond_F' (by simp; exact h0), impl_undominated_eq p left (by omega), Option.bind_some]
   have hul := und_le (p := Ee p) (left := left)
   have hf : fct left.length = (m + 1) * fct m := by rw [hm]; rfl
   let G : Int → List (List Int) := fun v => (gall (Ee es) (Ee p) k (rest1 (Ee es) left v)).map fun t => uni (chosen ++ v :: t)
   have hG : ∀ v ∈ und (Ee p) left, (G v).length ≤ fct m ∧ (rest1 (Ee es) left v).length ≤ m := fun v hvu => by
    have hlt := rest1_lt (es := Ee es) (List.mem_filter.1 hvu).1
    refine ⟨?_, by omega⟩
    rw [List.length_map]
    exact Nat.le_trans (gall_len _ _ k _ (by omega)) (fct_mono (by omega))
   refine Ok.to (.forL (fun j box => box = out ++ ((und (Ee p) left).take j).flatMap G) (fun _ => False) (fun _ => False) (by simp) (fun j v box hx hI => ?_) (fun box hI => .ret ?_) (fun _ h => h.elim))
   ·have hvu := List.mem_of_getElem? hx
    have hj := (List.getElem?_eq_some_iff.1 hx).1
    have hvl := (List.mem_filter.1 hvu).1
    obtain ⟨_, g2⟩ := hG v hvu
    have hfm := fct_mono g2
    have hbl : box.length ≤ out.length + j * fct m := by
     rw [hI, List.length_append]
     have := flatMap_len (f := G) (b := fct m) (l := (und (Ee p) left).take j) fun y hy => (hG y (List.mem_of_mem_take hy)).1
     rw [List.length_take] at this
     have h2 : min j (und (Ee p) left).length * fct m ≤ j * fct m := Nat.mul_le_mul_right _ (Nat.min_le_left _ _)
     omega
    have hjm : (j + 1) * fct m ≤ (m + 1) * fct m := Nat.mul_le_mul_right _ (by omega)
    rw [Nat.succ_mul] at hjm
    have ih := greedy_all hv k u (rest1 (Ee es) left v) (chosen ++ [v]) box (by omega) (by omega) (fun x hx => hin x (List.mem_filter.1 hx).1) (by simp only [List.length_append, List.length_cons, List.length_nil]; omega) (by omega)
    refine .eq (selected_eq hv.1 left v (by omega)) (.eq (clone_eq chosen (by omega)) (.app (by simp only [List.length_cons, List.length_nil]; omega) (.eq ih (.cf rfl (.next ?_)))))
    rw [hI, List.take_add_one, hx, Option.toList_some, List.flatMap_append, List.append_assoc]
    simp [G]
   ·have hI := hI.resolve_right id
    rw [hI, List.take_length]
    unfold gall
    rw [if_neg h0, List.map_flatMap]
    simp only [List.map_map]
    rfl
def addU (K : List (List Int)) (x : List Int) : List (List Int) := if x ∈ K then K else K ++ [x]
theorem addU_mem : ∀ (l K : List (List Int)) (x : List Int), x ∈ l.foldl addU K ↔ x ∈ K ∨ x ∈ l
 | [], K, x => by simp
 | y :: l, K, x => by
  simp only [List.foldl_cons]
  rw [addU_mem l (addU K y) x]
  unfold addU
  split
  ·rename_i h
   simp only [List.mem_cons]
   exact ⟨fun g => g.elim .inl fun g => .inr (.inr g), fun g => g.elim .inl fun g => g.elim (fun e => .inl (e ▸ h)) .inr⟩
  ·simp only [List.mem_append, List.mem_cons, List.not_mem_nil, or_false, or_assoc]
theorem addU_nodup : ∀ (l K : List (List Int)), K.Nodup → (l.foldl addU K).Nodup
 | [], K, h => h
 | y :: l, K, h => by
  simp only [List.foldl_cons]
  refine addU_nodup l _ ?_
  unfold addU
  split
  ·exact h
  ·rename_i hy
   exact List.nodup_append.2 ⟨h, by simp, fun a ha b hb e => by simp at hb; subst hb; subst e; exact hy ha⟩
theorem addU_len : ∀ (l K : List (List Int)), (l.foldl addU K).length ≤ K.length + l.length
 | [], K => by simp
 | y :: l, K => by
  simp only [List.foldl_cons, List.length_cons]
  have h1 := addU_len l (addU K y)
  have h2 : (addU K y).length ≤ K.length + 1 := by unfold addU; split <;> simp
  omega
theorem walk_all {n : Int} {es p : List ConflictEdge} (hv : VP n (Ee es) (Ee p)) : ∀ (k u : Nat) (left s : List Int) (K : List (List Int)), left.length ≤ k → k + 1048578 < u → AscB n left → s.Nodup → (∀ x ∈ s, x ∉ left) → s.length + k ≤ 1000 → K.length + fct left.length ≤ 1000000 → (∀ x ∈ K, x.length ≤ 1000) →
  m_spec_l28Walk u n es p left s K = some (((gall (Ee es) (Ee p) k left).map fun t => uni (s ++ t)).foldl addU K)
 | k, u + 1, left, s, K, hk, hu, hasc, hsn, hsd, hsl, hK, hKl => by
  have hn14 := hv.1.1
  have hre := VE_RE hv.1
  unfold m_spec_l28Walk
  by_cases h0 : left = []
  ·subst h0
   have hg : gall (Ee es) (Ee p) k [] = [[]] := by cases k <;> simp [gall]
   rw [hg, cond_T' (by simp)]
   simp only [List.map_cons, List.map_nil, List.append_nil, List.foldl_cons, List.foldl_nil]
   have hfct : fct ([] : List Int).length = 1 := rfl
   have hxl := uni_le s
   refine Ok.to (.eq (l7Sorted_eq (by omega) (by omega) (uni_asc _) (uni_perm hsn)) ?_)
   refine .forL (fun j _ => ∀ (i : Nat) y, i < j → K[i]? = some y → y ≠ uni s) (fun _ => False) (fun r => r = K ∧ uni s ∈ K) (fun i y h => by omega) (fun j y _ hx hI => ?_) (fun _ hI => ?_) (fun r hr => .ret ?_)
   ·have hyl := hKl y (List.mem_of_getElem? hx)
    refine .eq (l3Ints_cmp y (uni s) u (by omega) (by omega) (by omega)) (.cond (fun h => .out ⟨rfl, ?_⟩) fun h => .next fun i z hi hz => ?_)
    ·have := (cmpL_ord.zero _ _).1 (of_decide_eq_true h)
     rw [← this]; exact List.mem_of_getElem? hx
    ·rcases Nat.lt_succ_iff_lt_or_eq.1 hi with g | rfl
     ·exact hI i z g hz
     ·rw [hx] at hz; cases hz
      exact fun e => of_decide_eq_false h ((cmpL_ord.zero _ _).2 e)
   ·have hI := hI.resolve_right id
    have hnot : uni s ∉ K := fun hm => by
     obtain ⟨i, hi⟩ := List.getElem?_of_mem hm
     exact hI i _ (List.getElem?_eq_some_iff.1 hi).1 hi rfl
    refine .app (by simp only [List.length_cons, List.length_nil]; omega) (.ret ?_)
    unfold addU; rw [if_neg hnot]
   ·rw [hr.1]; unfold addU; rw [if_pos hr.2]
  ·have hpos : 0 < left.length := List.length_pos_iff.2 h0
   obtain ⟨k, rfl⟩ : ∃ i, k = i + 1 := ⟨k - 1, by omega⟩
   obtain ⟨m, hm⟩ : ∃ m, left.length = m + 1 := ⟨left.length - 1, by omega⟩
   have hU : undF n es p left = und (Ee p) left := by
    unfold undF
    rw [tr_true hv, tr_true hasc]; rfl
   rw [cond_F' (by simp; exact h0), spec_UndominatedFacts_eq hn14 hre p (by omega), hU, Option.bind_some]
   have hul := und_le (p := Ee p) (left := left)
   have hf : fct left.length = (m + 1) * fct m := by rw [hm]; rfl
   let G : Int → List (List Int) := fun v => (gall (Ee es) (Ee p) k (rest1 (Ee es) left v)).map fun t => uni (s ++ v :: t)
   have hG : ∀ v ∈ und (Ee p) left, (G v).length ≤ fct m ∧ (rest1 (Ee es) left v).length ≤ m ∧ ∀ x ∈ G v, x.length ≤ 1000 := fun v hvu => by
    have hlt := rest1_lt (es := Ee es) (List.mem_filter.1 hvu).1
    refine ⟨?_, by omega, fun x hx => ?_⟩
    ·rw [List.length_map]
     exact Nat.le_trans (gall_len _ _ k _ (by omega)) (fct_mono (by omega))
    ·obtain ⟨t, ht, rfl⟩ := List.mem_map.1 hx
     have h1 := uni_le (s ++ v :: t)
     have h2 := (gall_prop (n := n) k _ t (by omega) ht).2.2.1
     simp only [List.length_append, List.length_cons] at h1
     omega
   refine Ok.to (.forS (fun j Q => Q = (((und (Ee p) left).take j).flatMap G).foldl addU K) (by simp) (fun j v Q hx hI => ?_) fun Q hI => .ret ?_)
   ·have hvu := List.mem_of_getElem? hx
    have hj := (List.getElem?_eq_some_iff.1 hx).1
    have hvl := (List.mem_filter.1 hvu).1
    obtain ⟨_, g2, _⟩ := hG v hvu
    have hfm := fct_mono g2
    have hQl : Q.length ≤ K.length + j * fct m := by
     rw [hI]
     have h1 := addU_len (((und (Ee p) left).take j).flatMap G) K
     have h2 := flatMap_len (f := G) (b := fct m) (l := (und (Ee p) left).take j) fun y hy => (hG y (List.mem_of_mem_take hy)).1
     rw [List.length_take] at h2
     have h3 : min j (und (Ee p) left).length * fct m ≤ j * fct m := Nat.mul_le_mul_right _ (Nat.min_le_left _ _)
     omega
    have hjm : (j + 1) * fct m ≤ (m + 1) * fct m := Nat.mul_le_mul_right _ (by omega)
    rw [Nat.succ_mul] at hjm
    have hQm : ∀ x ∈ Q, x.length ≤ 1000 := fun x hxq => by
     rw [hI, addU_mem] at hxq
     rcases hxq with h | h
     ·exact hKl x h
     ·obtain ⟨y, hy, h⟩ := List.mem_flatMap.1 h
      exact (hG y (List.mem_of_mem_take hy)).2.2 x h
    have ih := walk_all hv k u (rest1 (Ee es) left v) (s ++ [v]) Q (by omega) (by omega) (hasc.filter _) (List.nodup_append.2 ⟨hsn, by simp, fun a ha b hb e => by simp at hb; subst hb; subst e; exact hsd _ ha hvl⟩) (fun x hx hr => by
     have hr := List.mem_filter.1 hr
     rcases List.mem_append.1 hx with h | h
     ·exact hsd x h hr.1
     ·simp at h; subst h; simp at hr) (by simp only [List.length_append, List.length_cons, List.length_nil]; omega) (by omega) hQm
    refine .eq (l28Rest_eq es left v (by omega)) (.app (by simp only [List.length_nil]; omega) (.app (by simp only [List.length_append, List.length_cons, List.length_nil]; omega) (.eq ih (.ret ?_))))
    rw [hI, List.take_add_one, hx, Option.toList_some, List.flatMap_append, List.foldl_append]
    simp [G]
   ·rw [hI, List.take_length]
    unfold gall
    rw [if_neg h0, List.map_flatMap]
    simp only [List.map_map]
    rfl
theorem sizes_le {b : Nat} : ∀ {a : List (List Int)}, (∀ x ∈ a, x.length ≤ b) → (a.map List.length).sum ≤ a.length * b
 | [], _ => by simp
 | x :: a, h => by
  have h1 := h x (List.mem_cons_self ..)
  have h2 := sizes_le (a := a) fun y hy => h y (List.mem_cons_of_mem _ hy)
  simp only [List.map_cons, List.sum_cons, List.length_cons, Nat.succ_mul]; omega
def GR (n : Int) (es p : List ConflictEdge) (w : List (List Int)) : Prop := AscO cmpL w ∧ ∀ y, y ∈ w ↔ ∃ t ∈ gall (Ee es) (Ee p) n.toNat ((List.range n.toNat).map Int.ofNat), y = uni t
theorem GR.small {n : Int} {es p : List ConflictEdge} {w : List (List Int)} (h : GR n es p w) (hn : n ≤ 7) : w.length ≤ 5040 ∧ ∀ x ∈ w, x.length ≤ 7 := by
 obtain ⟨N, hN⟩ : ∃ N, N = n.toNat := ⟨_, rfl⟩
 unfold GR at h
 rw [← hN] at h
 have hN7 : N ≤ 7 := by omega
 have hll : ((List.range N).map Int.ofNat).length = N := by simp
 constructor
 ·have h1 : w.length ≤ ((gall (Ee es) (Ee p) N ((List.range N).map Int.ofNat)).map uni).length := List.Nodup.length_le_of_subset (h.1.nodup cmpL_ord) fun y hy => by
   obtain ⟨t, ht, rfl⟩ := (h.2 y).1 hy
   exact List.mem_map_of_mem ht
  have h2 := gall_len (Ee es) (Ee p) N ((List.range N).map Int.ofNat) (by omega)
  have h3 := fct_mono (n := ((List.range N).map Int.ofNat).length) (m := 7) (by omega)
  rw [List.length_map] at h1
  rw [fct7] at h3
  omega
 ·intro x hx
  obtain ⟨t, ht, rfl⟩ := (h.2 x).1 hx
  have h1 := uni_le t
  have h2 := (gall_prop (n := n) N _ t (by omega) ht).2.2.1
  omega
theorem GR.uniq {n : Int} {es p : List ConflictEdge} {w w' : List (List Int)} (h : GR n es p w) (h' : GR n es p w') : w = w' := AscO.uniq cmpL_ord h.1 h'.1 fun x => (h.2 x).trans (h'.2 x).symm
theorem impl_GR {u : Nat} (hu : 1048577 < u) {n : Int} {es : List ConflictEdge} (p : List ConflictEdge) : Ok (m_impl_GreedyRepairs u n es p) fun r => (VP n (Ee es) (Ee p) ∧ n ≤ 7 → GR n es p r) ∧ (¬ (VP n (Ee es) (Ee p) ∧ n ≤ 7) → r = []) := by
 unfold m_impl_GreedyRepairs
 refine .bind (P := fun t => (t = true ↔ ¬ (VP n (Ee es) (Ee p) ∧ n ≤ 7))) (.bind (impl_Valid_gen hu p) fun b hb => .cond (fun h => .ret ⟨fun _ hv => ?_, fun _ => rfl⟩) fun h => .ret ?_) fun t ht => ?_
 ·rw [hb.2 hv.1] at h; cases h
 ·have hbt : b = true := by simpa using h
  have hv := hb.1 hbt
  rw [decide_eq_true_eq]
  exact ⟨fun h1 h2 => by omega, fun h1 => Classical.byContradiction fun h2 => h1 ⟨hv, by omega⟩⟩
 refine .cond (fun h => .ret ⟨fun hv => (ht.1 h hv).elim, fun _ => rfl⟩) fun h => ?_
 obtain ⟨hv, hn7⟩ : VP n (Ee es) (Ee p) ∧ n ≤ 7 := Classical.byContradiction fun k => by rw [ht.2 k] at h; cases h
 obtain ⟨N, rfl⟩ := Int.eq_ofNat_of_zero_le hv.1.1.1
 have hN : N ≤ 7 := by omega
 have hll : ((List.range N).map Int.ofNat).length = N := by simp
 unfold m_impl_greedy
 have hf7 : fct N ≤ 5040 := by have := fct_mono (n := N) (m := 7) hN; rwa [fct7] at this
 have hg := greedy_all hv N u ((List.range N).map Int.ofNat) [] [] (by omega) (by omega) (fun x hx => by have := range_in hx; omega) (by simp only [List.length_nil]; omega) (by rw [hll]; simp only [List.length_nil]; omega)
 simp only [List.nil_append] at hg
 have hgl := gall_len (Ee es) (Ee p) N ((List.range N).map Int.ofNat) (by omega)
 rw [hll] at hgl
 obtain ⟨so, s1, s2, s3⟩ := sortO cmpL_ord (f := fun x y => m_slices_Compare_Sint_int x y) slices_Compare_eq ((gall (Ee es) (Ee p) N ((List.range N).map Int.ofNat)).map fun t => uni t) (by rw [List.length_map]; omega)
 obtain ⟨r, r1, r2, r3⟩ := compO cmpL_ord (f := fun x y => m_slices_Equal_Sint_int x y) (e := fun x y => decide (x = y)) Equal_ints (fun x y => by simp) s3 (by rw [s2.length_eq, List.length_map]; omega)
 refine .bind (P := fun r => GR (N : Int) es p r) (.gN (by omega) (.forM (fun i s => s = (List.range i).map Int.ofNat) rfl (fun i s hi hI => ?_) fun s hI => ?_)) fun r hr => .ret ⟨fun _ => hr, fun k => (k ⟨hv, hn7⟩).elim⟩
 ·subst hI
  refine .app (by simp; omega) (.ret ?_)
  rw [List.range_succ, List.map_append]; rfl
 ·subst hI
  refine .eq hg (.eq s1 (.eq r1 (.ret ⟨r2, fun y => ?_⟩)))
  rw [r3, s2.mem_iff, Int.toNat_natCast, List.mem_map]
  exact ⟨fun ⟨t, h1, h2⟩ => ⟨t, h1, h2.symm⟩, fun ⟨t, h1, h2⟩ => ⟨t, h1, h2.symm⟩⟩
theorem spec_GR {u : Nat} (hu : 1048590 < u) {n : Int} (hn : -9223372036854775808 ≤ n ∧ n ≤ 9223372036854775807) {es : List ConflictEdge} (he : ∀ e ∈ es, RdConflictEdge e) (p : List ConflictEdge) : Ok (m_spec_GreedyRepairs u n es p) fun r => (VP n (Ee es) (Ee p) ∧ n ≤ 7 → GR n es p r) ∧ (¬ (VP n (Ee es) (Ee p) ∧ n ≤ 7) → r = []) := by
 unfold m_spec_GreedyRepairs
 refine .bind (P := fun t => (t = true ↔ ¬ (VP n (Ee es) (Ee p) ∧ n ≤ 7))) (.bind (spec_Valid_gen hn he p) fun b hb => .cond (fun h => .ret ⟨fun _ hv => ?_, fun _ => rfl⟩) fun h => .ret ?_) fun t ht => ?_
 ·rw [hb.2 hv.1] at h; cases h
 ·have hbt : b = true := by simpa using h
  have hv := hb.1 hbt
  rw [decide_eq_true_eq]
  exact ⟨fun h1 h2 => by omega, fun h1 => Classical.byContradiction fun h2 => h1 ⟨hv, by omega⟩⟩
 refine .cond (fun h => .ret ⟨fun hv => (ht.1 h hv).elim, fun _ => rfl⟩) fun h => ?_
 obtain ⟨hv, hn7⟩ : VP n (Ee es) (Ee p) ∧ n ≤ 7 := Classical.byContradiction fun k => by rw [ht.2 k] at h; cases h
 obtain ⟨N, rfl⟩ := Int.eq_ofNat_of_zero_le hv.1.1.1
 have hN : N ≤ 7 := by omega
 have hll : ((List.range N).map Int.ofNat).length = N := by simp
 have hf7 : fct N ≤ 5040 := by have := fct_mono (n := N) (m := 7) hN; rwa [fct7] at this
 have hw := walk_all hv N u ((List.range N).map Int.ofNat) [] [] (by omega) (by omega) (AscB_range N) (by simp) (by simp) (by simp only [List.length_nil]; omega) (by rw [hll]; simp only [List.length_nil]; omega) (by simp)
 simp only [List.nil_append] at hw
 have hgl := gall_len (Ee es) (Ee p) N ((List.range N).map Int.ofNat) (by omega)
 rw [hll] at hgl
 have hmem : ∀ y, y ∈ ((gall (Ee es) (Ee p) N ((List.range N).map Int.ofNat)).map fun t => uni t).foldl addU [] ↔ ∃ t ∈ gall (Ee es) (Ee p) N ((List.range N).map Int.ofNat), y = uni t := fun y => by
  rw [addU_mem, List.mem_map]
  exact ⟨fun h => h.elim (fun h => by simp at h) fun ⟨t, h1, h2⟩ => ⟨t, h1, h2.symm⟩, fun ⟨t, h1, h2⟩ => .inr ⟨t, h1, h2.symm⟩⟩
 have hnd := addU_nodup ((gall (Ee es) (Ee p) N ((List.range N).map Int.ofNat)).map fun t => uni t) [] (by simp)
 have hlen := addU_len ((gall (Ee es) (Ee p) N ((List.range N).map Int.ofNat)).map fun t => uni t) []
 rw [List.length_map, List.length_nil] at hlen
 have hsm : ∀ y ∈ ((gall (Ee es) (Ee p) N ((List.range N).map Int.ofNat)).map fun t => uni t).foldl addU [], y.length ≤ 7 := fun y hy => by
  obtain ⟨t, ht, rfl⟩ := (hmem y).1 hy
  have h1 := uni_le t
  have h2 := (gall_prop (n := (N : Int)) N _ t (by omega) ht).2.2.1
  omega
 refine .bind (l28All_ok (by omega) (by omega)) fun l0 hl0 => ?_
 rw [hl0]
 refine .eq hw ?_
 generalize ((gall (Ee es) (Ee p) N ((List.range N).map Int.ofNat)).map fun t => uni t).foldl addU [] = Q at hmem hnd hlen hsm
 refine .forS (fun j out => AscO cmpL out ∧ out.length ≤ j ∧ ∀ y, y ∈ out ↔ y ∈ Q.take j) ⟨.nil, by simp, by simp⟩ (fun j x out hx hI => ?_) fun out hI => .ret ⟨fun _ => ⟨hI.1, fun y => ?_⟩, fun k => (k ⟨hv, hn7⟩).elim⟩
 ·obtain ⟨i1, i2, i3⟩ := hI
  have hj := (List.getElem?_eq_some_iff.1 hx).1
  have hxl := hsm x (List.mem_of_getElem? hx)
  have hol : ∀ y ∈ out, y.length ≤ 7 := fun y hy => hsm y (List.mem_of_mem_take ((i3 y).1 hy))
  have hnew : x ∉ out := fun hm => by
   have h1 := (i3 x).1 hm
   obtain ⟨i, hi⟩ := List.getElem?_of_mem h1
   have hij : i < j := by have := (List.getElem?_eq_some_iff.1 hi).1; simp only [List.length_take] at this; omega
   rw [List.getElem?_take_of_lt hij] at hi
   obtain ⟨a1, a2⟩ := List.getElem?_eq_some_iff.1 hi
   obtain ⟨b1, b2⟩ := List.getElem?_eq_some_iff.1 hx
   have := (List.getElem_inj hnd).1 (a2.trans b2.symm)
   omega
  refine .while (fun (i : Int) => ∃ m : Nat, i = (m : Int) ∧ m ≤ out.length ∧ ∀ (q : Nat) y, q < m → out[q]? = some y → cmpL y x < 0) (fun i => out.length - i.toNat) (fun (i : Int) => ∃ m : Nat, i = (m : Int) ∧ m ≤ out.length ∧ (∀ (q : Nat) y, q < m → out[q]? = some y → cmpL y x < 0) ∧ ∀ y, out[m]? = some y → ¬ cmpL y x < 0) (fun _ => False) (by omega) ⟨0, rfl, by omega, fun q y hq => by omega⟩ (fun i ⟨m, h1, h2, h3⟩ => ?_) (fun i ⟨m, h1, h2, h3, h4⟩ => ?_) (fun _ h => h.elim)
  ·subst h1
   by_cases hlt : m < out.length
   ·have hv7 := hol _ (List.getElem_mem hlt)
    by_cases hc : cmpL out[m] x < 0
    ·refine .bind (P := fun t => t = true) (.ct (decide_eq_true (by omega)) (.get rfl hlt (.eq (l3Ints_cmp _ x u (by omega) (by omega) (by omega)) (.ret (decide_eq_true hc))))) fun t ht => .ct ht (.next ⟨⟨m + 1, by rw [w64_id (by omega)]; simp, hlt, fun q y hq hy => ?_⟩, by rw [w64_id (by omega)]; omega⟩)
     rcases Nat.lt_succ_iff_lt_or_eq.1 hq with g | rfl
     ·exact h3 q y g hy
     ·rw [List.getElem?_eq_getElem hlt] at hy; cases hy; exact hc
    ·refine .bind (P := fun t => t = false) (.ct (decide_eq_true (by omega)) (.get rfl hlt (.eq (l3Ints_cmp _ x u (by omega) (by omega) (by omega)) (.ret (decide_eq_false hc))))) fun t ht => .cf ht (.brk ⟨m, rfl, h2, h3, fun y hy => ?_⟩)
     rw [List.getElem?_eq_getElem hlt] at hy; cases hy; exact hc
   ·refine .bind (P := fun t => t = false) (.cf (decide_eq_false (by omega)) (.ret rfl)) fun t ht => .cf ht (.brk ⟨m, rfl, h2, h3, fun y hy => ?_⟩)
    rw [List.getElem?_eq_none (by omega)] at hy; cases hy
  ·subst h1
   refine .cut (i := m) (j := out.length) rfl rfl h2 (Nat.le_refl _) (.app (by simp; omega) (.cut (i := 0) (j := m) rfl rfl (by omega) h2 (.app (by simp; omega) (.app (by simp; omega) (.ret ?_)))))
   have e : [] ++ (out.take m).drop 0 ++ ([x] ++ (out.take out.length).drop m) = out.take m ++ x :: out.drop m := by simp
   rw [e]
   obtain ⟨g1, g2⟩ := ascO_ins cmpL_ord i1 hnew h3 h4
   refine ⟨g1, by simp; omega, fun y => ?_⟩
   rw [g2, i3, List.take_add_one, hx]
   simp
 ·rw [hI.2.2, List.take_length, hmem, Int.toNat_natCast]
theorem greps_both {u : Nat} (hu : 1048590 < u) {n : Int} (hn : -9223372036854775808 ≤ n ∧ n ≤ 9223372036854775807) {es : List ConflictEdge} (he : ∀ e ∈ es, RdConflictEdge e) (p : List ConflictEdge) : ∃ w, m_impl_GreedyRepairs u n es p = some w ∧ m_spec_GreedyRepairs u n es p = some w ∧ w.length ≤ 5040 ∧ (w.map List.length).sum ≤ 35280 ∧ (VP n (Ee es) (Ee p) ∧ n ≤ 7 → GR n es p w) ∧ (¬ (VP n (Ee es) (Ee p) ∧ n ≤ 7) → w = []) := by
 obtain ⟨w, h1, h2, h3⟩ := impl_GR (u := u) (by omega) (n := n) (es := es) p
 obtain ⟨w', h1', h2', h3'⟩ := spec_GR hu hn he p
 by_cases hv : VP n (Ee es) (Ee p) ∧ n ≤ 7
 ·have e := (h2 hv).uniq (h2' hv)
  subst e
  obtain ⟨g1, g2⟩ := (h2 hv).small hv.2
  have := sizes_le g2
  exact ⟨w, h1, h1', g1, by omega, h2, h3⟩
 ·have e := h3 hv
  have e' := h3' hv
  subst e e'
  exact ⟨[], h1, h1', by simp, by simp, h2, h3⟩
end Go.Proofs.YtmecnecfkgneoaaGreat
set_option linter.unusedVariables false
set_option linter.unusedSimpArgs false
namespace Go.Proofs.YtmecnecfkgneoaaGreat
open Go Go.Proofs Go.Sep
theorem sameRows_self (a : List (List Int)) : m_laws_sameRows a a = some true := by
 unfold m_laws_sameRows
 refine Ok.to (.cf (by simp) (.forL (fun _ _ => True) (fun _ => False) (fun _ => False) trivial (fun j x s hx _ => ?_) (fun _ _ => .ret rfl) (fun _ h => h.elim)))
 obtain ⟨hj, e⟩ := List.getElem?_eq_some_iff.1 hx
 refine .get rfl hj ?_
 rw [e]
 exact .eq (sameInts_eq x x) (.cf (by simp) (.next trivial))
theorem l28Draw6_ok {c : l1Cur} (hc : CurOK c) : Ok (m_spec_l28Draw c 6) fun r => (0 ≤ r.1.1 ∧ r.1.1 ≤ 6) ∧ RE r.1.2.1 := by
 have key : ∀ (n : Int) (l : List ConflictEdge), 0 ≤ n ∧ n ≤ 6 → l.length ≤ 64 → RB 20 l → ∀ c : l1Cur, CurOK c → Ok ((forS (fun (i_9 : Int) (x_i_9 : ConflictEdge) (⟨p11, box0⟩ : (List ConflictEdge) × l1Cur) => (m_spec_l1Below box0 3).bind fun r_11 => cond (decide (r_11.1 = 0)) ((app 16 p11 ([x_i_9] : (List ConflictEdge))).bind fun us_14 => some (us_14, r_11.2)) (cond (decide (r_11.1 = 1)) ((m_spec_l1Once r_11.2 4).bind fun r_17 => cond r_17.1 ((app 16 p11 ([({ a := x_i_9.b, b := x_i_9.a } : ConflictEdge)] : (List ConflictEdge))).bind fun us_20 => some (us_20, r_17.2)) (some (p11, r_17.2))) (some (p11, r_11.2)))) l 0 (([] : (List ConflictEdge)), c)).bind fun (⟨p11, box0⟩ : (List ConflictEdge) × l1Cur) => (m_spec_l1Once box0 14).bind fun r_22 => cond r_22.1 ((m_spec_l1Below r_22.2 4).bind fun r_25 => (m_spec_l1Below r_25.2 4).bind fun r_27 => (app 16 p11 ([({ a := r_25.1, b := r_27.1 } : ConflictEdge)] : (List ConflictEdge))).bind fun us_29 => some ((n, l, us_29), r_27.2)) (some ((n, l, p11), r_22.2))) fun r => (0 ≤ r.1.1 ∧ r.1.1 ≤ 6) ∧ RE r.1.2.1 := fun n l hn hl hR c hc => by
  refine .forS (fun j s => CurOK s.2 ∧ s.1.length ≤ j) ⟨hc, by simp⟩ (fun j x s hx hI => ?_) (fun s hI => ?_)
  ·obtain ⟨p, b⟩ := s
   simp only at hI ⊢
   have hj := (List.getElem?_eq_some_iff.1 hx).1
   refine .bind (l1Below_ok hI.1 3) fun r h => .cond (fun _ => .app (by simp; omega) (.ret ⟨h.1, by simp; omega⟩)) fun _ => .cond (fun _ => .bind (l1Once_ok h.1 4) fun r2 h2 => .cond (fun _ => .app (by simp; omega) (.ret ⟨h2, by simp; omega⟩)) fun _ => .ret ⟨h2, by simp only; omega⟩) fun _ => .ret ⟨h.1, by simp only; omega⟩
  ·obtain ⟨p, b⟩ := s
   simp only at hI ⊢
   refine .bind (l1Once_ok hI.1 14) fun r h => .cond (fun _ => .bind (l1Below_ok h 4) fun r2 h2 => .bind (l1Below_ok h2.1 4) fun r3 h3 => .app (by simp; omega) (.ret ⟨hn, hR.re (by omega)⟩)) fun _ => .ret ⟨hn, hR.re (by omega)⟩
 unfold m_spec_l28Draw
 refine .bind (l8Edges_ok hc) fun r h => .cond (fun h2 => ?_) fun h2 => ?_
 ·obtain ⟨k, k1, k2⟩ := keep_ok 6 r.1.2 h.2.2.2.1 h.2.2.2.2
  exact .eq k1 (key 6 k ⟨by omega, by omega⟩ k2.1 k2.2 r.2 h.1)
 ·exact key r.1.1 r.1.2 ⟨h.2.1, by have := of_decide_eq_false h2; omega⟩ h.2.2.2.1 h.2.2.2.2 r.2 h.1
theorem sel_PO {n : Int} {es p : List ConflictEdge} (hv : VP n (Ee es) (Ee p)) {s : List Int} (hs : s ∈ gall (Ee es) (Ee p) n.toNat ((List.range n.toNat).map Int.ofNat)) : PO2 n es p (uni s) := by
 obtain ⟨N, rfl⟩ := Int.eq_ofNat_of_zero_le hv.1.1.1
 rw [Int.toNat_natCast] at hs
 have hlen : ((List.range N).map Int.ofNat).length = N := by simp
 have hin : ∀ x ∈ (List.range N).map Int.ofNat, 0 ≤ x ∧ x < (N : Int) := fun x hx => by have := range_in hx; omega
 have hmem : ∀ x : Nat, (x : Int) < N → (x : Int) ∈ (List.range N).map Int.ofNat := fun x hx => List.mem_map.2 ⟨x, List.mem_range.2 (by omega), rfl⟩
 obtain ⟨hsub, hnd, _, hap, hout0⟩ := gall_prop (n := (N : Int)) N _ s (by omega) hs
 have hout := fun (x : Nat) (hx : (x : Int) < N) => hout0 (x : Int) (hmem x hx)
 have hadj : ∀ x v : Int, adjB (Ee es) x v = true → ¬ x ∈ s → v ∈ s → ((x, v) ∈ Ee es ∨ (v, x) ∈ Ee es) := fun x v h h1 h2 => (adjB_iff hv.1 (fun e => h1 (by rw [e]; exact h2))).1 h
 refine ⟨hv, ⟨hv.1, ⟨fun x hx => by have := hin x (hsub x ((uni_mem s x).1 hx)); omega, uni_asc s⟩, ?_, fun x hx => ?_⟩, fun x hx => ?_⟩
 ·unfold indB
  rw [Bool.not_eq_true', List.any_eq_false]
  intro e he h
  simp only [Bool.and_eq_true, decide_eq_true_eq, uni_mem] at h
  have hne := VE_ne hv.1 he
  have := hap e.1 h.1 e.2 h.2 hne
  rw [(adjB_iff hv.1 hne).2 (.inl he)] at this
  cases this
 ·unfold fits
  by_cases hs : (x : Int) ∈ s
  ·rw [decide_eq_true ((uni_mem s x).2 hs)]; rfl
  ·rcases hout x hx with h | ⟨v, h1, h2, _⟩
   ·exact (hs h).elim
   ·have hE := hadj x v h2 hs h1
    have : indB (Ee es) (uni s ++ [(x : Int)]) = false := by
     unfold indB
     rw [Bool.not_eq_false', List.any_eq_true]
     rcases hE with hE | hE
     ·exact ⟨_, hE, by simp [uni_mem, h1]⟩
     ·exact ⟨_, hE, by simp [uni_mem, h1]⟩
    rw [this, Bool.and_false]
 ·unfold POx
  rcases hout x hx with h | ⟨v, h1, h2, h3⟩
  ·exact .inl ((uni_mem s x).2 h)
  ·by_cases hs : (x : Int) ∈ s
   ·exact .inl ((uni_mem s x).2 hs)
   ·exact .inr ⟨v, (uni_mem s v).2 h1, hadj x v h2 hs h1, h3⟩
theorem gre_gall {n : Int} {es p : List (Int × Int)} (hc : ¬ Cyc n p) : ∀ (k : Nat) (left : List Int), left.length ≤ k → (∀ x ∈ left, 0 ≤ x ∧ x < n) → gre es p k left ∈ gall es p k left
 | 0, left, _, _ => by simp [gre, gall]
 | k + 1, left, hl, hin => by
  cases hu : und p left with
  | nil =>
   by_cases e : left = []
   ·subst e
    rw [gre_nil]
    simp [gall]
   ·exact (und_ne hc e hin hu).elim
  | cons v r =>
   have hv := List.mem_filter.1 (show v ∈ und p left by rw [hu]; exact List.mem_cons_self ..)
   have hlt := rest1_lt (es := es) hv.1
   unfold gre gall
   rw [if_neg (List.ne_nil_of_mem hv.1), hu]
   exact List.mem_flatMap.2 ⟨v, List.mem_cons_self .., List.mem_map.2 ⟨_, gre_gall hc k _ (by omega) fun x hx => hin x (List.mem_filter.1 hx).1, rfl⟩⟩
theorem gall_any {es : List (Int × Int)} (comm : ∀ a b, adjB es a b = adjB es b a) : ∀ (k : Nat) (left s : List Int), left.length ≤ k → s.Nodup → (∀ x ∈ s, x ∈ left) → (∀ a ∈ s, ∀ b ∈ s, a ≠ b → adjB es a b = false) → (∀ x ∈ left, x ∈ s ∨ ∃ v ∈ s, adjB es x v = true) → ∃ t ∈ gall es [] k left, ∀ x, x ∈ t ↔ x ∈ s
 | 0, left, s, hl, _, hsub, _, _ => by
  have e : left = [] := List.length_eq_zero_iff.1 (Nat.le_zero.1 hl)
  subst e
  refine ⟨[], by simp [gall], fun x => ⟨fun h => by simp at h, fun h => by have := hsub x h; simp at this⟩⟩
 | k + 1, left, s, hl, hnd, hsub, hap, hmax => by
  by_cases e : left = []
  ·subst e
   refine ⟨[], by simp [gall], fun x => ⟨fun h => by simp at h, fun h => by have := hsub x h; simp at this⟩⟩
  ·cases s with
   | nil =>
    obtain ⟨y, hy⟩ := List.exists_mem_of_ne_nil _ e
    rcases hmax y hy with h | ⟨v, h, _⟩ <;> simp at h
   | cons v s =>
    obtain ⟨hvs, hnd2⟩ := List.nodup_cons.1 hnd
    have hv := hsub v (List.mem_cons_self ..)
    have hlt := rest1_lt (es := es) hv
    obtain ⟨t, ht, htm⟩ := gall_any comm k (rest1 es left v) s (by omega) hnd2 (fun x hx => List.mem_filter.2 ⟨hsub x (List.mem_cons_of_mem _ hx), by
     have hne : x ≠ v := fun e => hvs (e ▸ hx)
     simp [hne, hap x (List.mem_cons_of_mem _ hx) v (List.mem_cons_self ..) hne]⟩) (fun a ha b hb => hap a (List.mem_cons_of_mem _ ha) b (List.mem_cons_of_mem _ hb)) (fun x hx => by
     obtain ⟨h1, h2⟩ := List.mem_filter.1 hx
     simp only [Bool.and_eq_true, decide_eq_true_eq, Bool.not_eq_true'] at h2
     rcases hmax x h1 with h | ⟨w, hw, ha⟩
     ·rcases List.mem_cons.1 h with e | h
      ·exact (h2.1 e).elim
      ·exact .inl h
     ·rcases List.mem_cons.1 hw with e | hw
      ·rw [e, h2.2] at ha; cases ha
      ·exact .inr ⟨w, hw, ha⟩)
    refine ⟨v :: t, ?_, fun x => by simp only [List.mem_cons, htm]⟩
    unfold gall
    rw [if_neg e]
    have hu : v ∈ und [] left := List.mem_filter.2 ⟨hv, by simp⟩
    exact List.mem_flatMap.2 ⟨v, hu, List.mem_map.2 ⟨t, ht, rfl⟩⟩
theorem VP_nil {n : Int} {es : List (Int × Int)} (h : VE n es) : VP n es [] := ⟨h, fun e he => by simp at he, fun ⟨S, hne, hS⟩ => by
 obtain ⟨x, hx⟩ := List.exists_mem_of_ne_nil _ hne
 obtain ⟨_, a, _, h⟩ := hS x hx
 simp at h⟩
theorem MI2_out {n : Int} {es : List ConflictEdge} {s : List Int} (h : MI2 n es s) {x : Nat} (hx : (x : Int) < n) (hs : (x : Int) ∉ s) : ∃ v ∈ s, (((x : Int), v) ∈ Ee es ∨ (v, (x : Int)) ∈ Ee es) := by
 have h1 := h.2.2.2 x hx
 unfold fits at h1
 have h2 : indB (Ee es) (s ++ [(x : Int)]) = false := by
  cases hb : indB (Ee es) (s ++ [(x : Int)]) with
  | false => rfl
  | true => rw [hb] at h1; simp [hs] at h1
 unfold indB at h2
 rw [Bool.not_eq_false', List.any_eq_true] at h2
 obtain ⟨e, he, h3⟩ := h2
 simp only [Bool.and_eq_true, decide_eq_true_eq, List.mem_append, List.mem_singleton] at h3
 have hne := VE_ne h.1 he
 have hind := h.2.2.1
 unfold indB at hind
 rw [Bool.not_eq_true', List.any_eq_false] at hind
 have h4 := hind e he
 simp only [Bool.and_eq_true, decide_eq_true_eq, not_and] at h4
 obtain ⟨e1, e2⟩ := e
 simp only at h3 h4 hne
 rcases h3.1 with h5 | h5
 ·rcases h3.2 with h6 | h6
  ·exact (h4 h5 h6).elim
  ·subst h6; exact ⟨e1, h5, .inr he⟩
 ·rcases h3.2 with h6 | h6
  ·subst h5; exact ⟨e2, h6, .inl he⟩
  ·exact (hne (h5.trans h6.symm)).elim
theorem PO2_nil {n : Int} {es : List ConflictEdge} {s : List Int} (h : MI2 n es s) : PO2 n es [] s := by
 refine ⟨VP_nil h.1, h, fun x hx => ?_⟩
 unfold POx
 by_cases hs : (x : Int) ∈ s
 ·exact .inl hs
 ·obtain ⟨v, h1, h2⟩ := MI2_out h hx hs
  exact .inr ⟨v, h1, h2, by simp [Ee]⟩
theorem walkP_nodup (n : Int) (es : List ConflictEdge) : ∀ (k : Nat) (s : List Int), (walkP n es k s).Nodup
 | 0, s => by unfold walkP; split <;> simp
 | k + 1, s => by
  unfold walkP
  refine List.nodup_append.2 ⟨by split; exact walkP_nodup n es k _; simp, walkP_nodup n es k s, fun a ha b hb e => ?_⟩
  subst e
  split at ha
  ·obtain ⟨_, _, t, h1, _⟩ := walkP_mem n es k _ a ha
   obtain ⟨_, _, t', h2, h3⟩ := walkP_mem n es k _ a hb
   have h4 : n - ((k : Int) + 1) ∈ t' := by
    have : [n - ((k : Int) + 1)] ++ t = t' := by
     rw [h1, List.append_assoc] at h2
     exact List.append_cancel_left h2
    rw [← this]; simp
   have := h3 _ h4
   omega
  ·simp at ha
theorem allMI_nodup (n : Int) (es : List ConflictEdge) : (allMI n es).Nodup := by unfold allMI; split; exact walkP_nodup _ _ _ _; simp
theorem GR_free {n : Int} {es : List ConflictEdge} (hv : VE n (Ee es)) {w : List (List Int)} (h : GR n es [] w) : w.length = (allMI n es).length := by
 have hm : ∀ y, y ∈ w ↔ y ∈ allMI n es := fun y => by
  rw [h.2]
  constructor
  ·rintro ⟨t, ht, rfl⟩
   exact allMI_all (sel_PO (p := []) (VP_nil hv) ht).2.1
  ·intro hy
   have hM := (allMI_mem hy).1
   obtain ⟨N, rfl⟩ := Int.eq_ofNat_of_zero_le hv.1.1
   rw [Int.toNat_natCast]
   have hasc := hM.2.1
   have hrange : ∀ x ∈ y, x ∈ (List.range N).map Int.ofNat := fun x hx => by
    have := hasc.1 x hx
    obtain ⟨m, rfl⟩ := Int.eq_ofNat_of_zero_le this.1
    exact List.mem_map.2 ⟨m, List.mem_range.2 (by omega), rfl⟩
   have hind := hM.2.2.1
   unfold indB at hind
   rw [Bool.not_eq_true', List.any_eq_false] at hind
   obtain ⟨t, ht, htm⟩ := gall_any (adjB_comm (Ee es)) N ((List.range N).map Int.ofNat) y (by simp) (hasc.2.imp fun h => by omega) hrange (fun a ha b hb hne => by
    cases hb2 : adjB (Ee es) a b with
    | false => rfl
    | true =>
     rcases (adjB_iff hv hne).1 hb2 with h1 | h1
     ·have := hind _ h1; simp [ha, hb] at this
     ·have := hind _ h1; simp [ha, hb] at this) (fun x hx => by
    by_cases hs : x ∈ y
    ·exact .inl hs
    ·obtain ⟨m, hm, rfl⟩ := List.mem_map.1 hx
     have hmn : ((m : Nat) : Int) < N := by have := List.mem_range.1 hm; omega
     obtain ⟨v, h1, h2⟩ := MI2_out hM hmn hs
     exact .inr ⟨v, h1, (adjB_iff hv (fun e => hs (by rw [show Int.ofNat m = v from e]; exact h1))).2 h2⟩)
   exact ⟨t, ht, (uni_uniq hasc.2 fun x => (htm x).symm).symm⟩
 exact ((List.perm_ext_iff_of_nodup (h.1.nodup cmpL_ord) (allMI_nodup n es)).2 hm).length_eq
theorem allPO_free {n : Int} {es : List ConflictEdge} : allPO n es [] = allMI n es := by
 unfold allPO
 exact List.filter_eq_self.2 fun s hs => tr_true (PO2_nil (allMI_mem hs).1)
theorem law_GreedyRepairsD (code : List Int) (hc : ∀ x ∈ code, 0 ≤ x ∧ x ≤ 255) : m_laws_FnGreedyRepairs 1048600 code = some true := by
 unfold m_laws_FnGreedyRepairs m_laws_big
 refine Ok.to (.bind (Ok.of rfl) fun b hb => ?_)
 subst hb
 refine .cond (fun _ => .ret rfl) fun hbig => ?_
 have hl : code.length ≤ 1048576 := by have := of_decide_eq_false hbig; omega
 have d1 : Ok (m_spec_DrawGreedyRepairs 1048600 code) fun r => (0 ≤ r.1 ∧ r.1 ≤ 6) ∧ RE r.2.1 := by
  unfold m_spec_DrawGreedyRepairs
  exact .bind (l1New_ok hl (by omega)) fun c hc => .bind (l28Draw6_ok hc) fun r hr => .ret ⟨hr.1, hr.2⟩
 refine .bind d1 fun r4 h4 => ?_
 obtain ⟨n, es, p⟩ := r4
 simp only at h4 ⊢
 have hn14 : 0 ≤ n ∧ n ≤ 14 := by omega
 have hn64 : -9223372036854775808 ≤ n ∧ n ≤ 9223372036854775807 := by omega
 have he : ∀ e ∈ es, RdConflictEdge e := fun e h => by
  have := h4.2.2 e h
  unfold RdConflictEdge
  omega
 obtain ⟨w, hi, hs, hw1, hw2, hw3, hw4⟩ := greps_both (u := 1048600) (by omega) hn64 he p
 have v2 := Ok_tr (spec_Valid_gen hn64 he p)
 refine .eq hi (.eq hs (.eq (sameRows_self w) (.cf rfl (.eq v2 ?_))))
 by_cases hv : VP n (Ee es) (Ee p)
 ·rw [tr_true hv]
  refine .cf rfl ?_
  have hG := hw3 ⟨hv, by omega⟩
  have hsm := (hG.small (by omega)).2
  obtain ⟨g, g1, g2, _⟩ := spec_Greedy_eq (u := 1048600) (by omega) hn64 he p
  have g2 := g2 hv
  have hin : g ∈ w := by
   rw [hG.2, g2]
   refine ⟨_, gre_gall hv.2.2 n.toNat _ (by simp) (fun x hx => ?_), rfl⟩
   have := range_in hx; omega
  have hall : ∀ s ∈ w, PO2 n es p s ∧ s.length ≤ 14 := fun s hs => by
   have h7 := hsm s hs
   obtain ⟨t, ht, rfl⟩ := (hG.2 s).1 hs
   exact ⟨sel_PO hv ht, by omega⟩
  refine .eq g1 ?_
  obtain ⟨f, f1, _, _, _, f3, _⟩ := greps_both (u := 1048600) (by omega) hn64 he ([] : List ConflictEdge)
  have hfree := GR_free hv.1 (f3 ⟨VP_nil hv.1, by omega⟩)
  refine .forL (fun i met => met = decide (g ∈ w.take i)) (fun _ => False) (fun _ => False) (by simp) (fun i x met hx hI => ?_) (fun met hm => ?_) (fun _ h => h.elim)
  ·have hxm := List.mem_of_getElem? hx
   have hPx := hall x hxm
   have e : w.take (i + 1) = w.take i ++ [x] := by rw [List.take_add_one, hx]; rfl
   refine .eq (Ok_tr (impl_IsParetoOptimal_ok (u := 1048600) (by omega) hn14 h4.2 p (s := x) (by omega))) (.cf (by rw [tr_true hPx.1]; rfl) (.cond (fun h => .next ?_) fun h => .eq (sameInts_eq x g) (.next ?_)))
   ·rw [hI] at h
    rw [e]
    refine (decide_eq_true ?_).symm
    rw [List.mem_append]; exact .inl (of_decide_eq_true h)
   ·rw [hI] at h
    have h := of_decide_eq_false h
    rw [e]
    by_cases hxw : x = g
    ·subst hxw; simp
    ·have : ¬ g = x := fun e => hxw e.symm
     simp [h, hxw, this]
  ·have hm := hm.resolve_right id
   rw [List.take_length, decide_eq_true hin] at hm
   refine .eq f1 (.bind (P := fun t => t = true) (.ct hm (.eq (spec_allMI (u := 1048600) (by omega) hn64 he) (.ct (decide_eq_true (by rw [hfree])) (.eq (impl_allPO (u := 1048600) (by omega) (n := n) (es := es) []) (.ret ?_))))) fun t ht => .ret ht)
   rw [allPO_free, hfree]; simp
 ·rw [tr_false hv]
  refine .ct rfl (.ret ?_)
  rw [hw4 fun h => hv h.1]; rfl
end Go.Proofs.YtmecnecfkgneoaaGreat

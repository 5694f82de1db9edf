import Derived.Test.YtmecnecfkgneoaaM0
import Derived.Test.YtmecnecfkgneoaaCRC
import Derived.Test.YtmecnecfkgneoaaCRD
import Derived.Test.YtmecnecfkgneoaaCRE
namespace Go.Proofs.Ytmecnecfkgneoaa
open Go Go.Proofs Go.Sep
def m_impl_areIndices (indices0 : (List Int)) (n1 : Int) : Option Bool :=
 (forL (R := Bool) (fun (t_1 : Int) (x_t_1 : Int) (_ : Unit) => ((m_impl_within x_t_1 0 (w64 (n1 - 1))).bind fun r_5 => cond (!r_5) (some true) (cond (decide (0 < (t_1 : Int))) ((getI indices0 ((t_1 : Int) - 1)).bind fun v_9 => some (decide (x_t_1 ≤ v_9))) (some false))).bind fun (t31_3 : Bool) => cond t31_3 (some (.ret false)) (some (.next ()))) indices0 0 ()).bind fun O2_ => onS O2_ (fun (_ : Unit) => some true) (fun r => some r)
end Go.Proofs.Ytmecnecfkgneoaa
set_option linter.unusedVariables false
set_option linter.unusedSimpArgs false
namespace Go.Proofs.Ytmecnecfkgneoaa
open Go Go.Proofs Go.Sep
theorem contains_eq (l : List Int) (v : Int) : m_slices_Contains_Sint_int l v = some (decide (v ∈ l)) := by
 unfold m_slices_Contains_Sint_int m_slices_Index_Sint_int
 refine (Ok.bind (P := fun z => decide (0 ≤ z) = decide (v ∈ l)) (Ok.forL (fun n _ => ∀ (j : Nat), j < n → l[j]? ≠ some v) (fun _ => False) (fun z => 0 ≤ z ∧ v ∈ l) (fun j hj => by omega) (fun n x s hx hI => ?_) (fun s hs => .ret ?_) (fun z hz => .ret ?_)) fun z hz => ⟨_, rfl, hz⟩).to
 ·refine .cond (fun h => .out ⟨by omega, ?_⟩) fun h => .next fun j hj hjv => ?_
  ·rw [of_decide_eq_true h]; exact List.mem_of_getElem? hx
  ·by_cases e : j = n
   ·subst e; rw [hx] at hjv; cases hjv; exact (of_decide_eq_false h) rfl
   ·exact hI j (by omega) hjv
 ·have h := hs.resolve_right id
  have : v ∉ l := fun hm => by
   obtain ⟨j, hj⟩ := List.getElem?_of_mem hm
   exact h j (List.getElem?_eq_some_iff.1 hj).1 hj
  simp [this]
 ·simp [hz.1, hz.2]
theorem without_eq (a b : List Int) (ha : a.length ≤ 1048576) : m_impl_without a b = some (a.filter fun x => !decide (x ∈ b)) := by
 unfold m_impl_without
 refine Ok.to (.forS (fun n s => s = (a.take n).filter fun x => !decide (x ∈ b)) (by simp) (fun n x s hx hI => ?_) (fun s hI => .ret (by rw [hI, List.take_length])))
 have hn := (List.getElem?_eq_some_iff.1 hx).1
 have e : a.take (n + 1) = a.take n ++ [x] := by rw [List.take_add_one, hx]; rfl
 have hl := List.length_filter_le (fun x => !decide (x ∈ b)) (a.take n)
 rw [List.length_take] at hl
 subst hI
 refine .eq (contains_eq b x) (.cond (fun h => .app (by simp only [List.length_cons, List.length_nil]; omega) (.ret ?_)) fun h => .ret ?_)
 ·rw [e, List.filter_append, List.filter_cons_of_pos (by simpa using h), List.filter_nil]
 ·rw [e, List.filter_append, List.filter_cons_of_neg (by simpa using h), List.filter_nil, List.append_nil]
end Go.Proofs.Ytmecnecfkgneoaa
set_option linter.unusedVariables false
set_option linter.unusedSimpArgs false
namespace Go.Proofs.Ytmecnecfkgneoaa
open Go Go.Proofs Go.Sep
def AscB (n : Int) (l : List Int) : Prop := (∀ x ∈ l, 0 ≤ x ∧ x ≤ n - 1) ∧ l.Pairwise (· < ·)
theorem areIndices_iff (l : List Int) (n : Int) (h0 : 0 ≤ n) (h1 : n ≤ 1048576) : Ok (m_impl_areIndices l n) fun b => (b = true ↔ AscB n l) := by
 unfold m_impl_areIndices m_impl_within
 have adj : ∀ (l : List Int), (∀ (j : Nat) x y, l[j]? = some x → l[j + 1]? = some y → x < y) → l.Pairwise (· < ·) := by
  intro l
  induction l with
  | nil => intro _; exact .nil
  | cons a l ih =>
   intro h
   have hl := ih fun j x y hx hy => h (j + 1) x y (by simpa using hx) (by simpa using hy)
   refine .cons (fun y hy => ?_) hl
   cases l with
   | nil => cases hy
   | cons b l =>
    have hab := h 0 a b rfl rfl
    rcases List.mem_cons.1 hy with rfl | hy
    ·exact hab
    ·exact Int.lt_trans hab ((List.pairwise_cons.1 hl).1 y hy)
 refine Ok.forL (fun m _ => (∀ (j : Nat) x, j < m → l[j]? = some x → 0 ≤ x ∧ x ≤ n - 1) ∧ ∀ (j : Nat) x y, j + 1 < m → l[j]? = some x → l[j + 1]? = some y → x < y) (fun _ => False) (fun (r : Bool) => r = false ∧ ¬ AscB n l) ⟨fun j x hj => by omega, fun j x y hj => by omega⟩ (fun m x s hx ⟨hI, hJ⟩ => ?_) (fun s hs => .ret ⟨fun _ => ?_, fun _ => rfl⟩) (fun r hr => .ret ⟨fun h => absurd h (by rw [hr.1]; exact Bool.false_ne_true), fun h => (hr.2 h).elim⟩)
 ·have hm : m < l.length := (List.getElem?_eq_some_iff.1 hx).1
  rw [w64_id (x := n - 1) (by omega)]
  refine .bind (P := fun t => (t = true → ¬ AscB n l) ∧ (t = false → (0 ≤ x ∧ x ≤ n - 1) ∧ ∀ (j : Nat) y, j + 1 = m → l[j]? = some y → y < x)) ?_ fun t ht => .cond (fun h => .out ⟨rfl, ht.1 h⟩) fun h => .next ⟨fun j y hj hy => ?_, fun j y z hj hy hz => ?_⟩
  ·refine .bind (Ok.of rfl) fun b hb => ?_
   subst hb
   refine .cond (fun h => .ret ⟨fun _ ha => ?_, fun h => by cases h⟩) fun h => ?_
   ·have := ha.1 x (List.mem_of_getElem? hx)
    simp at h; omega
   ·have hr : 0 ≤ x ∧ x ≤ n - 1 := by simpa using h
    refine .cond (fun h0 => ?_) fun h0 => .ret ⟨(fun h => by cases h), fun _ => ⟨hr, fun j y hj hy => absurd (show (0 : Int) < (m : Int) by omega) (of_decide_eq_false h0)⟩⟩
    have hm0 : 0 < m := by simpa using h0
    refine .get (n := m - 1) (by omega) (by omega) (.ret ⟨fun h ha => ?_, fun h => ⟨hr, fun j y hj hy => ?_⟩⟩)
    ·have h1 : x ≤ l[m - 1] := by simpa using h
     have h2 := List.pairwise_iff_getElem.1 ha.2 (m - 1) m (by omega) hm (by omega)
     rw [List.getElem?_eq_getElem hm] at hx; cases hx
     omega
    ·have h1 : ¬ x ≤ l[m - 1] := by simpa using h
     have e : j = m - 1 := by omega
     subst e
     rw [List.getElem?_eq_getElem (by omega)] at hy; cases hy
     omega
  ·by_cases e : j = m
   ·subst e; rw [hx] at hy; cases hy; exact (ht.2 h).1
   ·exact hI j y (by omega) hy
  ·by_cases e : j + 1 = m
   ·subst e; rw [hx] at hz; cases hz; exact (ht.2 h).2 j y rfl hy
   ·exact hJ j y z (by omega) hy hz
 ·have h := hs.resolve_right id
  refine ⟨fun x hx => ?_, adj l fun j x y hx hy => h.2 j x y (List.getElem?_eq_some_iff.1 hy).1 hx hy⟩
  obtain ⟨j, hj⟩ := List.getElem?_of_mem hx
  exact h.1 j x (List.getElem?_eq_some_iff.1 hj).1 hj
end Go.Proofs.Ytmecnecfkgneoaa
set_option linter.unusedVariables false
set_option linter.unusedSimpArgs false
namespace Go.Proofs.Ytmecnecfkgneoaa
open Go Go.Proofs Go.Sep
theorem take_succ_getD {α : Type} (xs : List α) (d : α) (i : Nat) (h : i < xs.length) : xs.take (i + 1) = xs.take i ++ [xs.getD i d] := by
 rw [List.take_add_one]; simp [List.getD, h]
theorem wrap_pred {b : Int} (h : -9223372036854775808 ≤ b ∧ b ≤ 9223372036854775807) : (b = -9223372036854775808 ∧ IntKind.i64.wrap (b - 1) = 9223372036854775807) ∨ (-9223372036854775808 < b ∧ IntKind.i64.wrap (b - 1) = b - 1) := by
 by_cases e : b = -9223372036854775808
 ·subst e; exact .inl ⟨rfl, by decide⟩
 ·exact .inr ⟨by omega, (fits64 (by omega) (by omega)).symm⟩
def lexlt (a b : Int × Int) : Prop := a.1 < b.1 ∨ (a.1 = b.1 ∧ a.2 < b.2)
def OkE (n : Int) (es : List (Int × Int)) (j : Nat) : Prop := (0 ≤ (es.getD j default).1 ∧ (es.getD j default).1 < (es.getD j default).2 ∧ (es.getD j default).2 < n) ∧ (0 < j → lexlt (es.getD (j - 1) default) (es.getD j default))
def VE (n : Int) (es : List (Int × Int)) : Prop := (0 ≤ n ∧ n ≤ 14) ∧ ∀ j, j < es.length → OkE n es j
noncomputable def tr (p : Prop) : Bool := @decide p (Classical.propDecidable p)
theorem tr_true {p : Prop} (h : p) : tr p = true := by unfold tr; simp [h]
theorem tr_false {p : Prop} (h : ¬ p) : tr p = false := by unfold tr; simp [h]
theorem getD_mem {α : Type} {xs : List α} {d : α} {i : Nat} (h : i < xs.length) : xs.getD i d ∈ xs := by simp [List.getD, h]
def Closed (n : Int) (p : List (Int × Int)) (S : List Int) : Prop := ∀ x ∈ S, (0 ≤ x ∧ x < n) ∧ ∃ a ∈ S, (a, x) ∈ p
def Cyc (n : Int) (p : List (Int × Int)) : Prop := ∃ S : List Int, S ≠ [] ∧ Closed n p S
def VP (n : Int) (es p : List (Int × Int)) : Prop := VE n es ∧ (∀ e ∈ p, e ∈ es ∨ (e.2, e.1) ∈ es) ∧ ¬ Cyc n p
def und (p : List (Int × Int)) (left : List Int) : List Int := left.filter (fun b => !(left.any fun a => decide ((a, b) ∈ p)))
def rst (p : List (Int × Int)) (left : List Int) : List Int := left.filter (fun n => !decide (n ∈ und p left))
theorem rst_closed {n p S left} (h : Closed n p S) (hs : ∀ x ∈ S, x ∈ left) : ∀ x ∈ S, x ∈ rst p left := fun x hx => by
 obtain ⟨_, a, ha, hp⟩ := h x hx
 refine List.mem_filter.2 ⟨hs x hx, ?_⟩
 simp only [Bool.not_eq_true', decide_eq_false_iff_not, und, List.mem_filter, not_and, Bool.not_eq_true, Bool.not_eq_false', Bool.not_eq_false]
 exact fun _ => List.any_eq_true.2 ⟨a, hs a ha, by simpa using hp⟩
theorem rst_len (p : List (Int × Int)) (left : List Int) : (rst p left).length ≤ left.length := List.length_filter_le _ _
theorem rst_sub {p : List (Int × Int)} {left : List Int} : ∀ x ∈ rst p left, x ∈ left := fun x hx => (List.mem_filter.1 hx).1
theorem rst_same {p left} (h : (rst p left).length = left.length) : ∀ b ∈ left, ∃ a ∈ left, (a, b) ∈ p := fun b hb => by
 have h1 := List.length_filter_eq_length_iff.1 h b hb
 simp only [Bool.not_eq_true', decide_eq_false_iff_not, und, List.mem_filter, not_and, Bool.not_eq_true, Bool.not_eq_false', Bool.not_eq_false] at h1
 obtain ⟨a, ha, h2⟩ := List.any_eq_true.1 (h1 hb)
 exact ⟨a, ha, by simpa using h2⟩
theorem range_mem {n : Int} {i : Nat} (h : ¬ (i : Int) < n) (x : Int) (h0 : 0 ≤ x ∧ x < n) : x ∈ (List.range i).map Int.ofNat :=
 List.mem_map.2 ⟨x.toNat, List.mem_range.2 (by omega), by simp; omega⟩
theorem range_in {i : Nat} {x : Int} (h : x ∈ (List.range i).map Int.ofNat) : 0 ≤ x ∧ x < i := by
 obtain ⟨j, hj, rfl⟩ := List.mem_map.1 h
 have := List.mem_range.1 hj
 simp; omega
theorem VE.of_mem {n es} (h : VE n es) : ∀ e ∈ es, 0 ≤ e.1 ∧ e.1 < e.2 ∧ e.2 < n := fun e he => by
 obtain ⟨j, hj, rfl⟩ := List.getElem_of_mem he
 have := (h.2 j hj).1
 simpa [List.getD, hj] using this
theorem pref_iff {n es} (h : VE n es) (a b : Int) : (a ≠ b ∧ ((if b < a then b else a), (if a < b then b else a)) ∈ es) ↔ ((a, b) ∈ es ∨ (b, a) ∈ es) := by
 constructor
 ·rintro ⟨h1, h2⟩
  by_cases hab : a < b
  ·rw [if_neg (by omega), if_pos hab] at h2; exact .inl h2
  ·rw [if_pos (by omega), if_neg hab] at h2; exact .inr h2
 ·rintro (h2 | h2)
  ·have := h.of_mem _ h2
   simp only at this
   exact ⟨by omega, by rw [if_neg (by omega), if_pos (by omega)]; exact h2⟩
  ·have := h.of_mem _ h2
   simp only at this
   exact ⟨by omega, by rw [if_pos (by omega), if_neg (by omega)]; exact h2⟩
theorem pref_in {n : Int} {es p : List (Int × Int)} (h : VE n es) (hp : ∀ e ∈ p, e ∈ es ∨ (e.2, e.1) ∈ es) {j : Nat} (hj : j < p.length) : (0 ≤ (p.getD j default).1 ∧ (p.getD j default).1 < n) ∧ (0 ≤ (p.getD j default).2 ∧ (p.getD j default).2 < n) := by
 rcases hp _ (getD_mem (d := default) hj) with h1 | h1
 ·have := h.of_mem _ h1; omega
 ·have := h.of_mem _ h1; simp only at this; omega
def cnt (g : List Bool) : Nat := g.count true
def Blocked (p : List (Int × Int)) (g : List Bool) (y : Nat) : Prop := ∃ a : Nat, a < g.length ∧ ((a : Int), (y : Int)) ∈ p ∧ g.getD a false = false
def Stable (p : List (Int × Int)) (g : List Bool) : Prop := ∀ y, y < g.length → g.getD y false = false → Blocked p g y
def freeA (p : List (Int × Int)) (g : List Bool) (x : Int) (i : Nat) : Bool := (p.take i).all (fun e => decide (e.2 ≠ x) || g.getD e.1.toNat false)
def Sound (n : Int) (p : List (Int × Int)) (g : List Bool) : Prop := ∀ S, Closed n p S → ∀ x ∈ S, g.getD x.toNat false = false
def RX (p : List (Int × Int)) (g0 g : List Bool) (x : Nat) : Prop := (g = g0 ∧ ∀ y, y < x → g0.getD y false = false → Blocked p g0 y) ∨ (cnt g0 < cnt g ∧ ¬ Stable p g0)
def PK (p : List (Int × Int)) (k : Nat) (g : List Bool) : Prop := k ≤ cnt g ∨ Stable p g
theorem freeA_succ (p : List (Int × Int)) (g : List Bool) (x : Int) (i : Nat) (h : i < p.length) : freeA p g x (i + 1) = (freeA p g x i && (decide ((p.getD i default).2 ≠ x) || g.getD (p.getD i default).1.toNat false)) := by
 unfold freeA; rw [take_succ_getD p default i h, List.all_append]; simp
theorem getD_set_ne (g : List Bool) (x y : Nat) (h : x ≠ y) : (g.set x true).getD y false = g.getD y false := by simp [List.getD, List.getElem?_set_ne h]
theorem cnt_set : ∀ (g : List Bool) (x : Nat), x < g.length → g.getD x false = false → cnt (g.set x true) = cnt g + 1
 | [], x, h, _ => by simp at h
 | b :: g, 0, h, e => by simp at e; subst e; simp [cnt]
 | b :: g, x + 1, h, e => by
  have := cnt_set g x (by simpa using h) (by simpa using e)
  unfold cnt at *
  simp only [List.set_cons_succ, List.count_cons, this]; omega
theorem set_same (g : List Bool) (x : Nat) (h : x < g.length) (e : g.getD x false = true) : g.set x true = g := by
 apply List.ext_getElem (by simp)
 intro j h1 h2
 rw [List.getElem_set]
 split
 ·rename_i hx; subst hx; simp [List.getD, h2] at e; exact e.symm
 ·rfl
theorem cnt_lt {g : List Bool} {x : Nat} (h : x < g.length) (e : g.getD x false = false) : cnt g < g.length := by
 have h1 := cnt_set g x h e
 have h2 : cnt (g.set x true) ≤ (g.set x true).length := List.count_le_length
 rw [List.length_set] at h2; omega
theorem free_false {p : List (Int × Int)} {g : List Bool} {x : Nat} (hin : ∀ j, j < p.length → 0 ≤ (p.getD j default).1 ∧ (p.getD j default).1 < g.length) (h : freeA p g x p.length = false) : Blocked p g x := by
 unfold freeA at h
 rw [List.take_length, List.all_eq_false] at h
 obtain ⟨e, he, h1⟩ := h
 obtain ⟨j, hj, rfl⟩ := List.getElem_of_mem he
 have h2 := hin j hj
 simp only [List.getD, List.getElem?_eq_getElem hj, Option.getD_some] at h2
 simp only [ne_eq, decide_not, Bool.or_eq_true, Bool.not_eq_true', decide_eq_false_iff_not, not_or, Decidable.not_not, Bool.not_eq_true] at h1
 refine ⟨p[j].1.toNat, by omega, ?_, h1.2⟩
 have e1 : ((p[j].1.toNat : Nat) : Int) = p[j].1 := by omega
 rw [e1, ← h1.1]; exact he
theorem free_true {p : List (Int × Int)} {g : List Bool} {x a : Int} (h : freeA p g x p.length = true) (hp : (a, x) ∈ p) : g.getD a.toNat false = true := by
 unfold freeA at h
 rw [List.take_length, List.all_eq_true] at h
 have := h _ hp
 simpa using this
theorem Sound.set {n p g} {x : Nat} (h : Sound n p g) (hx : x < g.length) (hf : freeA p g x p.length = true) : Sound n p (g.set x true) := fun S hS y hy => by
 obtain ⟨h1, a, ha, hp⟩ := hS y hy
 by_cases e : x = y.toNat
 ·have e2 : y = (x : Int) := by omega
  rw [e2] at hp
  have h2 := free_true hf hp
  rw [h S hS a ha] at h2; cases h2
 ·rw [getD_set_ne _ _ _ e]; exact h S hS y hy
theorem RX.free {p g0 g} {x : Nat} (h : RX p g0 g x) (hx : x < g.length) (hf : freeA p g x p.length = true) : RX p g0 (g.set x true) (x + 1) := by
 cases hb : g.getD x false with
 | true =>
  rw [set_same g x hx hb]
  rcases h with ⟨rfl, h⟩ | h
  ·refine .inl ⟨rfl, fun y hy hg => ?_⟩
   rcases Nat.lt_or_eq_of_le (Nat.le_of_lt_succ hy) with h1 | rfl
   ·exact h y h1 hg
   ·rw [hb] at hg; cases hg
  ·exact .inr h
 | false =>
  right
  rw [cnt_set g x hx hb]
  rcases h with ⟨rfl, h⟩ | h
  ·refine ⟨by omega, fun hs => ?_⟩
   obtain ⟨a, h1, h2, h3⟩ := hs x hx hb
   have := free_true hf h2
   simp only [Int.toNat_natCast] at this
   rw [h3] at this; cases this
  ·exact ⟨by omega, h.2⟩
theorem RX.stuck {p g0 g} {x : Nat} (hin : ∀ j, j < p.length → 0 ≤ (p.getD j default).1 ∧ (p.getD j default).1 < g.length) (h : RX p g0 g x) (hf : freeA p g x p.length = false) : RX p g0 g (x + 1) := by
 rcases h with ⟨rfl, h⟩ | h
 ·refine .inl ⟨rfl, fun y hy hg => ?_⟩
  rcases Nat.lt_or_eq_of_le (Nat.le_of_lt_succ hy) with h1 | rfl
  ·exact h y h1 hg
  ·exact free_false hin hf
 ·exact .inr h
theorem PK.next {p g0 g} {k x : Nat} (h : RX p g0 g x) (hx : g0.length ≤ x) (hk : PK p k g0) : PK p (k + 1) g := by
 rcases h with ⟨rfl, h⟩ | h
 ·exact .inr fun y hy hg => h y (by omega) hg
 ·rcases hk with hk | hk
  ·exact .inl (by omega)
  ·exact absurd hk h.2
theorem PK.end {p g} {k x : Nat} (hk : PK p k g) (hl : g.length ≤ k) (hx : x < g.length) (hb : g.getD x false = false) : Cyc g.length p := by
 rcases hk with hk | hs
 ·have := cnt_lt hx hb; omega
 ·refine ⟨((List.range g.length).filter fun y => !g.getD y false).map Int.ofNat, fun e => ?_, fun y hy => ?_⟩
  ·have : (x : Int) ∈ ((List.range g.length).filter fun y => !g.getD y false).map Int.ofNat := List.mem_map.2 ⟨x, List.mem_filter.2 ⟨List.mem_range.2 hx, by rw [hb]; rfl⟩, rfl⟩
   rw [e] at this; cases this
  ·obtain ⟨z, hz, rfl⟩ := List.mem_map.1 hy
   obtain ⟨hz1, hz2⟩ := List.mem_filter.1 hz
   have hz1 := List.mem_range.1 hz1
   obtain ⟨a, h1, h2, h3⟩ := hs z hz1 (by simpa using hz2)
   exact ⟨⟨by simp, by simp; omega⟩, (a : Int), List.mem_map.2 ⟨a, List.mem_filter.2 ⟨List.mem_range.2 h1, by rw [h3]; rfl⟩, rfl⟩, h2⟩
theorem sound_start (n : Int) (p : List (Int × Int)) (N : Nat) : Sound n p (List.replicate N false) := fun S hS x hx => by
 simp only [List.getD, List.getElem?_replicate]; split <;> rfl
theorem sound_end {N : Nat} {p g} (h : Sound N p g) (hl : g.length = N) (hall : ∀ x, x < N → g.getD x false = true) : ¬ Cyc N p := fun ⟨S, hne, hS⟩ => by
 obtain ⟨x, hx⟩ := List.exists_mem_of_ne_nil S hne
 have h1 := h S hS x hx
 have h2 := (hS x hx).1
 rw [hall x.toNat (by omega)] at h1; cases h1
def adjB (es : List (Int × Int)) (a b : Int) : Bool := decide (((if b < a then b else a), (if a < b then b else a)) ∈ es)
theorem adjB_iff {n es} (h : VE n es) {a b : Int} (hne : a ≠ b) : adjB es a b = true ↔ ((a, b) ∈ es ∨ (b, a) ∈ es) := by
 unfold adjB
 rw [decide_eq_true_eq, ← pref_iff h]
 exact ⟨fun h => ⟨hne, h⟩, fun h => h.2⟩
end Go.Proofs.Ytmecnecfkgneoaa
set_option linter.unusedVariables false
set_option linter.unusedSimpArgs false
namespace Go.Proofs.Ytmecnecfkgneoaa
open Go Go.Proofs Go.Sep
theorem Ok_tr {e : Option Bool} {P : Prop} (h : Ok e fun b => (b = true ↔ P)) : e = some (tr P) := by
 obtain ⟨b, h1, h2⟩ := h
 rw [h1]
 congr 1
 cases b with
 | true => rw [tr_true (h2.1 rfl)]
 | false => rw [tr_false (fun h => by have := h2.2 h; cases this)]
def Ee (l : List ConflictEdge) : List (Int × Int) := l.map fun e => (e.a, e.b)
theorem Ee_len (l : List ConflictEdge) : (Ee l).length = l.length := by simp [Ee]
theorem Ee_at {l : List ConflictEdge} {i : Nat} {e : ConflictEdge} (h : l[i]? = some e) : (Ee l).getD i default = (e.a, e.b) := by simp [Ee, List.getD, h]
theorem Ee_mem {l : List ConflictEdge} {e : ConflictEdge} : (e.a, e.b) ∈ Ee l ↔ e ∈ l := by
 simp only [Ee, List.mem_map]
 constructor
 ·rintro ⟨x, hx, h⟩
  cases x; cases e
  simp only [Prod.mk.injEq] at h
  obtain ⟨rfl, rfl⟩ := h
  exact hx
 ·intro h; exact ⟨e, h, rfl⟩
theorem Contains_edge (l : List ConflictEdge) (v : ConflictEdge) : m_slices_Contains_Simpl_ConflictEdge_impl_ConflictEdge l v = some (decide ((v.a, v.b) ∈ Ee l)) := by
 unfold m_slices_Contains_Simpl_ConflictEdge_impl_ConflictEdge m_slices_Index_Simpl_ConflictEdge_impl_ConflictEdge
 refine (Ok.bind (P := fun z => decide (0 ≤ z) = decide ((v.a, v.b) ∈ Ee l)) (Ok.forL (fun n _ => ∀ (j : Nat), j < n → l[j]? ≠ some v) (fun _ => False) (fun z => 0 ≤ z ∧ v ∈ l) (fun j hj => by omega) (fun n x s hx hI => ?_) (fun s hs => .ret ?_) (fun z hz => .ret ?_)) fun z hz => ⟨_, rfl, hz⟩).to
 ·refine .cond (fun h => .out ⟨by omega, ?_⟩) fun h => .next fun j hj hjv => ?_
  ·have h1 := of_decide_eq_true h
   have : v = x := by cases v; cases x; simp only [Prod.mk.injEq] at h1; obtain ⟨rfl, rfl⟩ := h1; rfl
   rw [this]; exact List.mem_of_getElem? hx
  ·by_cases e : j = n
   ·subst e; rw [hx] at hjv; cases hjv; exact (of_decide_eq_false h) rfl
   ·exact hI j (by omega) hjv
 ·have h := hs.resolve_right id
  have : v ∉ l := fun hm => by
   obtain ⟨j, hj⟩ := List.getElem?_of_mem hm
   exact h j (List.getElem?_eq_some_iff.1 hj).1 hj
  rw [decide_eq_false (fun h => this (Ee_mem.1 h))]; rfl
 ·rw [decide_eq_true (Ee_mem.2 hz.2)]; simp [hz.1]
theorem impl_IsPreferred_eq (p : List ConflictEdge) (a b : Int) : m_impl_IsPreferred p a b = some (decide ((a, b) ∈ Ee p)) := by
 unfold m_impl_IsPreferred
 rw [Contains_edge]; rfl
theorem some_edge {l : List ConflictEdge} {a b : Int} {c : ConflictEdge → Bool} (hc : ∀ e, c e = true ↔ (e.a = a ∧ e.b = b)) : ((forL (R := Bool) (fun (i_1 : Int) (x_i_1 : ConflictEdge) (_ : Unit) => cond (c x_i_1) (some (.ret true)) (some (.next ()))) l 0 ()).bind fun O2_ => onS O2_ (fun (_ : Unit) => some false) (fun r => some r)) = some (decide ((a, b) ∈ Ee l)) := by
 refine Ok.to (.allL (fun n => ∀ e, l[n]? = some e → c e = false) true (fun n x hx _ => .cond (fun h => .out ⟨rfl, fun h2 => by rw [h2 x hx] at h; cases h⟩) fun h => .next fun e he => by rw [hx] at he; cases he; exact h) (fun h => .ret ?_) (fun ⟨j, hj, h⟩ => .ret ?_))
 ·symm
  refine decide_eq_false fun hm => ?_
  obtain ⟨j, hj⟩ := List.getElem?_of_mem ((Ee_mem (e := (⟨a, b⟩ : ConflictEdge))).1 hm)
  have := h j (List.getElem?_eq_some_iff.1 hj).1 _ hj
  rw [(hc _).2 ⟨rfl, rfl⟩] at this; cases this
 ·symm
  refine decide_eq_true ?_
  have : c l[j] = true := by
   cases h2 : c l[j] with
   | true => rfl
   | false => exact (h fun e he => by rw [List.getElem?_eq_getElem hj] at he; cases he; exact h2).elim
  obtain ⟨h1, h2⟩ := (hc _).1 this
  rw [← h1, ← h2]
  exact Ee_mem.2 (List.getElem_mem hj)
theorem spec_IsPreferred_eq (p : List ConflictEdge) (a b : Int) : m_spec_IsPreferred p a b = some (decide ((a, b) ∈ Ee p)) := some_edge (c := fun e => decide (e.a = a) && decide (e.b = b)) fun e => by simp
theorem l28Edge_eq (l : List ConflictEdge) (a b : Int) : m_spec_l28Edge l a b = some (adjB (Ee l) a b) := some_edge (c := fun e => decide (e.a = (if b < a then b else a)) && decide (e.b = (if a < b then b else a))) fun e => by simp
def RE (es : List ConflictEdge) : Prop := es.length ≤ 1000 ∧ ∀ e ∈ es, -100 ≤ e.a ∧ e.a ≤ 100 ∧ -100 ≤ e.b ∧ e.b ≤ 100
theorem OkE_at {n : Int} {l : List ConflictEdge} {i : Nat} {e : ConflictEdge} (h : l[i]? = some e) : OkE n (Ee l) i ↔ (0 ≤ e.a ∧ e.a < e.b ∧ e.b < n) ∧ (0 < i → ∀ v, l[i - 1]? = some v → v.a < e.a ∨ (v.a = e.a ∧ v.b < e.b)) := by
 unfold OkE
 rw [Ee_at h]
 refine and_congr Iff.rfl ?_
 constructor
 ·intro h1 h0 v hv
  have := h1 h0
  rw [Ee_at hv] at this
  exact this
 ·intro h1 h0
  have hi : i - 1 < l.length := by have := (List.getElem?_eq_some_iff.1 h).1; omega
  rw [Ee_at (List.getElem?_eq_getElem hi)]
  exact h1 h0 _ (List.getElem?_eq_getElem hi)
theorem edge_prev {l : List ConflictEdge} {n : Nat} {x : ConflictEdge} (hx : l[n]? = some x) {f : ConflictEdge → Option Bool} {A : Prop} (hA : A) (hf : ∀ v, Ok (f v) fun t => (t = true ↔ ¬ (v.a < x.a ∨ (v.a = x.a ∧ v.b < x.b)))) : Ok (cond (decide (0 < (n : Int))) ((getI l ((n : Int) - 1)).bind f) (some false)) fun t => (t = true ↔ ¬ (A ∧ (0 < n → ∀ v, l[n - 1]? = some v → v.a < x.a ∨ (v.a = x.a ∧ v.b < x.b)))) := by
 have hn := (List.getElem?_eq_some_iff.1 hx).1
 refine .cond (fun h => ?_) fun h => .ret ?_
 ·have h0 : 0 < n := by have := of_decide_eq_true h; omega
  have hi : n - 1 < l.length := by omega
  refine .get (n := n - 1) (by omega) hi ((hf _).mono fun t ht => ?_)
  rw [ht]
  constructor
  ·intro h1 h2; exact h1 (h2.2 h0 _ (List.getElem?_eq_getElem hi))
  ·intro h1 h2
   refine h1 ⟨hA, fun _ v hv => ?_⟩
   rw [List.getElem?_eq_getElem hi] at hv; cases hv; exact h2
 ·have h0 : ¬ 0 < n := by have := of_decide_eq_false h; omega
  simp [hA, h0]
theorem spec_AreValidEdges_ok {n : Int} (hn : 0 ≤ n ∧ n ≤ 14) {es : List ConflictEdge} (he : RE es) : Ok (m_spec_AreValidEdges n es) fun b => (b = true ↔ VE n (Ee es)) := by
 unfold m_spec_AreValidEdges m_spec_l1In
 refine .allL (OkE n (Ee es)) false (fun i x hx _ => .test ?_) (fun h => .eq rfl (.ret ?_)) (fun ⟨j, hj, h⟩ => .ret ?_)
 ·have hb := he.2 x (List.mem_of_getElem? hx)
  rw [OkE_at hx, w64_id (x := x.b - 1) (by omega), w64_id (x := n - 1) (by omega)]
  refine .eq rfl (.cond (fun h => .ret ?_) fun h => .eq rfl (.cond (fun h2 => .ret ?_) fun h2 => ?_))
  ·simp only [Bool.not_eq_true', Bool.and_eq_false_iff, decide_eq_false_iff_not] at h
   simp only [true_iff]
   omega
  ·simp only [Bool.not_eq_true', Bool.and_eq_false_iff, decide_eq_false_iff_not] at h2
   simp only [true_iff]
   omega
  ·simp only [Bool.not_eq_false', Bool.and_eq_true, decide_eq_true_eq] at h h2
   refine edge_prev hx (A := 0 ≤ x.a ∧ x.a < x.b ∧ x.b < n) (by omega) fun v => .cond (fun h3 => .ret ?_) fun h3 => .cond (fun h4 => .ret ?_) fun h4 => .ret ?_
   ·have := of_decide_eq_true h3
    simp only [true_iff]; omega
   ·have := of_decide_eq_true h4
    simp only [decide_eq_true_eq]; omega
   ·have := of_decide_eq_false h3
    have := of_decide_eq_false h4
    simp only [Bool.false_eq_true, false_iff]; omega
 ·have e : (decide (0 ≤ n) && decide (n ≤ 14)) = true := by simp [hn]
  rw [e]
  exact ⟨fun _ => ⟨hn, fun j hj => h j (by rwa [Ee_len] at hj)⟩, fun _ => rfl⟩
 ·simp only [Bool.false_eq_true, false_iff]
  exact fun hv => h (hv.2 j (by rw [Ee_len]; exact hj))
theorem impl_AreValidEdges_ok {n : Int} (hn : 0 ≤ n ∧ n ≤ 14) {es : List ConflictEdge} (he : RE es) : Ok (m_impl_AreValidEdges n es) fun b => (b = true ↔ VE n (Ee es)) := by
 unfold m_impl_AreValidEdges m_impl_within
 refine .eq rfl (.cf (by simp [hn]) (.allL (OkE n (Ee es)) false (fun i x hx _ => .test ?_) (fun h => .ret ?_) (fun ⟨j, hj, h⟩ => .ret ?_)))
 ·rw [OkE_at hx]
  refine .cond (fun h => .ret ?_) fun h => .cond (fun h2 => .ret ?_) fun h2 => .cond (fun h3 => .ret ?_) fun h3 => ?_
  ·have := of_decide_eq_true h
   simp only [true_iff]; omega
  ·have := of_decide_eq_true h2
   simp only [true_iff]; omega
  ·have := of_decide_eq_true h3
   simp only [true_iff]; omega
  ·have := of_decide_eq_false h
   have := of_decide_eq_false h2
   have := of_decide_eq_false h3
   refine edge_prev hx (A := 0 ≤ x.a ∧ x.a < x.b ∧ x.b < n) (by omega) fun v => .cond (fun h3 => .ret ?_) fun h3 => .cond (fun h4 => .ret ?_) fun h4 => .ret ?_
   ·have := of_decide_eq_true h3
    simp only [true_iff]; omega
   ·have := of_decide_eq_true h4
    simp only [decide_eq_true_eq]; omega
   ·have := of_decide_eq_false h3
    have := of_decide_eq_false h4
    simp only [Bool.false_eq_true, false_iff]; omega
 ·exact ⟨fun _ => ⟨hn, fun j hj => h j (by rwa [Ee_len] at hj)⟩, fun _ => rfl⟩
 ·simp only [Bool.false_eq_true, false_iff]
  exact fun hv => h (hv.2 j (by rw [Ee_len]; exact hj))
theorem containsI_eq (l : List Int) (p : Int → Bool) {f : Int → Option Bool} (hf : ∀ x ∈ l, f x = some (p x)) : m_slices_ContainsFunc_Sint_int l f = some (l.any p) := by
 unfold m_slices_ContainsFunc_Sint_int m_slices_IndexFunc_Sint_int
 refine (Ok.bind (P := fun z => decide (0 ≤ z) = l.any p) (Ok.forL (fun n _ => ∀ (j : Nat) x, j < n → l[j]? = some x → p x = false) (fun _ => False) (fun z => 0 ≤ z ∧ ∃ x ∈ l, p x = true) (fun j x hj => by omega) (fun n x s hx hI => ?_) (fun s hs => ?_) (fun z hz => .ret ?_)) fun z hz => ⟨_, rfl, hz⟩).to
 ·refine .eq (hf x (List.mem_of_getElem? hx)) (.cond (fun h => .out ⟨by omega, x, List.mem_of_getElem? hx, h⟩) fun h => .next fun j y hj hy => ?_)
  by_cases e : j = n
  ·subst e; rw [hx] at hy; cases hy; exact h
  ·exact hI j y (by omega) hy
 ·refine .ret ?_
  have h := hs.resolve_right id
  have : l.any p = false := by
   rw [List.any_eq_false]
   intro x hx
   obtain ⟨j, hj⟩ := List.getElem?_of_mem hx
   rw [h j x (List.getElem?_eq_some_iff.1 hj).1 hj]; simp
  rw [this]; rfl
 ·have : l.any p = true := List.any_eq_true.2 hz.2
  rw [this]; simpa using hz.1
theorem filter_run {l : List Int} {q : Int → Bool} {f : Int → Int → List Int → Option (List Int)} (hl : l.length ≤ 1048576) (hf : ∀ (i : Int) x o, x ∈ l → o.length ≤ 1048576 → f i x o = some (if q x = true then o ++ [x] else o)) : ((forS f l 0 ([] : List Int)).bind fun o => some o) = some (l.filter q) := by
 refine Ok.to (.forS (fun n s => s = (l.take n).filter q) (by simp) (fun n x s hx hI => ?_) (fun s hI => .ret (by rw [hI, List.take_length])))
 have hn := (List.getElem?_eq_some_iff.1 hx).1
 have e : l.take (n + 1) = l.take n ++ [x] := by rw [List.take_add_one, hx]; rfl
 have h1 := List.length_filter_le q (l.take n)
 rw [List.length_take] at h1
 subst hI
 rw [hf _ _ _ (List.mem_of_getElem? hx) (by omega)]
 refine .ret ?_
 by_cases h : q x = true
 ·rw [if_pos h, e, List.filter_append, List.filter_cons_of_pos h, List.filter_nil]
 ·rw [if_neg h, e, List.filter_append, List.filter_cons_of_neg h, List.filter_nil, List.append_nil]
theorem impl_undominated_eq (p : List ConflictEdge) (left : List Int) (hl : left.length ≤ 1048576) : m_impl_undominated p left = some (und (Ee p) left) := by
 unfold m_impl_undominated
 refine filter_run hl fun i x o hx ho => ?_
 refine Ok.to (.eq (containsI_eq left (fun a => decide ((a, x) ∈ Ee p)) fun a _ => by unfold m_impl_undominated_1; rw [impl_IsPreferred_eq]; rfl) (.cond (fun h => .app (by simp; omega) (.ret ?_)) fun h => .ret ?_))
 ·rw [if_pos h]
 ·rw [if_neg (by rw [h]; decide)]
theorem spec_und_run (p : List ConflictEdge) (left : List Int) (hl : left.length ≤ 1048576) : ((forS (fun (i_9 : Int) (x_i_9 : Int) (out9 : (List Int)) => (forS (fun (k_11 : Int) (x_k_11 : Int) (top11 : Bool) => cond top11 ((m_spec_IsPreferred p x_k_11 x_i_9).bind fun r_14 => some (!r_14)) (some false)) left 0 true).bind fun (top11 : Bool) => cond top11 ((app 8 out9 ([x_i_9] : (List Int))).bind fun us_17 => some us_17) (some out9)) left 0 ([] : (List Int))).bind fun (out9 : (List Int)) => some out9) = some (und (Ee p) left) := by
 refine filter_run hl fun i x o hx ho => ?_
 refine Ok.to (.forS (fun n s => s = !((left.take n).any fun a => decide ((a, x) ∈ Ee p))) rfl (fun n y s hy hI => ?_) (fun s hI => ?_))
 ·have e : left.take (n + 1) = left.take n ++ [y] := by rw [List.take_add_one, hy]; rfl
  rw [e, List.any_append]
  refine .cond (fun h => .eq (spec_IsPreferred_eq p y x) (.ret ?_)) fun h => .ret ?_
  ·rw [h] at hI
   have : ((left.take n).any fun a => decide ((a, x) ∈ Ee p)) = false := by simpa using hI.symm
   rw [this]; simp
  ·rw [h] at hI
   have : ((left.take n).any fun a => decide ((a, x) ∈ Ee p)) = true := by simpa using hI.symm
   rw [this]; simp
 ·rw [List.take_length] at hI
  subst hI
  refine .cond (fun h => .app (by simp; omega) (.ret ?_)) fun h => .ret ?_
  ·rw [if_pos h]
  ·rw [if_neg (by rw [h]; decide)]
end Go.Proofs.Ytmecnecfkgneoaa
set_option linter.unusedVariables false
set_option linter.unusedSimpArgs false
namespace Go.Proofs.Ytmecnecfkgneoaa
open Go Go.Proofs Go.Sep
theorem areAcyclic_ok {u : Nat} (hu : 1048577 < u) {n : Int} (hn : 0 ≤ n ∧ n ≤ 14) (p : List ConflictEdge) : Ok (m_impl_areAcyclic u n p) fun b => (b = true ↔ ¬ Cyc n (Ee p)) := by
 unfold m_impl_areAcyclic
 obtain ⟨N, rfl⟩ := Int.eq_ofNat_of_zero_le hn.1
 refine .gN (by omega) (.forM (fun i s => s = (List.range i).map Int.ofNat) rfl (fun i s hi hI => ?_) (fun s hI => ?_))
 ·subst hI
  refine .app (by simp; omega) (.ret ?_)
  rw [List.range_succ, List.map_append]; rfl
 ·refine .while (fun left => left.length ≤ 14 ∧ (∀ x ∈ left, 0 ≤ x ∧ x < (N : Int)) ∧ ∀ S, Closed N (Ee p) S → ∀ x ∈ S, x ∈ left) (fun left => left.length) (fun left => left = [] ∧ ∀ S, Closed N (Ee p) S → ∀ x ∈ S, x ∈ left) (fun r => r = false ∧ Cyc N (Ee p)) (by rw [hI]; simp; omega) ⟨by rw [hI]; simp; omega, fun x hx => by rw [hI] at hx; exact range_in hx, fun S hS x hx => by rw [hI]; exact range_mem (by omega) x (hS x hx).1⟩ (fun left ⟨h1, h2, h3⟩ => ?_) (fun left h => .ret ?_) (fun r hr => .ret ?_)
  ·refine .cond (fun h => .eq (impl_undominated_eq p left (by omega)) (.eq (without_eq left _ (by omega)) (.cond (fun h4 => .out ⟨rfl, ?_⟩) fun h4 => .next ?_))) fun h => .brk ?_
   ·have h5 : (rst (Ee p) left).length = left.length := by have := of_decide_eq_true h4; unfold rst; omega
    refine ⟨left, fun e => ?_, fun x hx => ⟨h2 x hx, rst_same h5 x hx⟩⟩
    subst e; simp at h
   ·have h5 : (rst (Ee p) left).length ≠ left.length := by have := of_decide_eq_false h4; unfold rst; omega
    have h6 := rst_len (Ee p) left
    show (_ ∧ _ ∧ _) ∧ _
    refine ⟨⟨?_, fun x hx => h2 x (rst_sub x hx), fun S hS x hx => rst_closed hS (h3 S hS) x hx⟩, ?_⟩
    ·show (rst (Ee p) left).length ≤ 14; omega
    ·show (rst (Ee p) left).length < left.length; omega
   ·have : left.length = 0 := by have := of_decide_eq_false h; omega
    exact ⟨List.eq_nil_of_length_eq_zero this, h3⟩
  ·obtain ⟨rfl, h⟩ := h
   refine ⟨fun _ ⟨S, hne, hS⟩ => ?_, fun _ => rfl⟩
   obtain ⟨x, hx⟩ := List.exists_mem_of_ne_nil S hne
   have := h S hS x hx
   cases this
  ·rw [hr.1]
   exact ⟨fun h => (by cases h), fun h => (h hr.2).elim⟩
def inE (es : List ConflictEdge) (p : List ConflictEdge) (j : Nat) : Prop := ∀ e, p[j]? = some e → (e.a, e.b) ∈ Ee es ∨ (e.b, e.a) ∈ Ee es
theorem inE_all {es p : List ConflictEdge} (h : ∀ j, j < p.length → inE es p j) : ∀ e ∈ Ee p, e ∈ Ee es ∨ (e.2, e.1) ∈ Ee es := fun e he => by
 obtain ⟨x, hx, rfl⟩ := List.mem_map.1 he
 obtain ⟨j, hj⟩ := List.getElem?_of_mem hx
 exact h j (List.getElem?_eq_some_iff.1 hj).1 x hj
theorem inE_of {es p : List ConflictEdge} (h : ∀ e ∈ Ee p, e ∈ Ee es ∨ (e.2, e.1) ∈ Ee es) (j : Nat) : inE es p j := fun e he => h (e.a, e.b) (Ee_mem.2 (List.mem_of_getElem? he))
theorem impl_IsValidPreference_ok {u : Nat} (hu : 1048577 < u) {n : Int} (hn : 0 ≤ n ∧ n ≤ 14) {es : List ConflictEdge} (he : RE es) (p : List ConflictEdge) : Ok (m_impl_IsValidPreference u n es p) fun b => (b = true ↔ VP n (Ee es) (Ee p)) := by
 unfold m_impl_IsValidPreference
 refine .bind (impl_AreValidEdges_ok hn he) fun b hb => .cond (fun h => .ret ?_) fun h => .allL (inE es p) false (fun i x hx _ => .test ?_) (fun h2 => .bind (areAcyclic_ok hu hn p) fun c hc => .ret ?_) (fun ⟨j, hj, h2⟩ => .ret ?_)
 ·have : b = false := by simpa using h
  subst this
  exact ⟨fun h => (by cases h), fun h => by have := hb.2 h.1; cases this⟩
 ·refine .eq (Contains_edge es x) (.cond (fun h2 => .eq (Contains_edge es ⟨x.b, x.a⟩) (.ret ?_)) fun h2 => .ret ?_)
  ·have h2' : (x.a, x.b) ∉ Ee es := by simpa using h2
   simp only [Bool.not_eq_true', decide_eq_false_iff_not]
   constructor
   ·intro h3 h4
    rcases h4 x hx with h5 | h5
    ·exact h2' h5
    ·exact h3 h5
   ·intro h3 h4
    exact h3 fun e he => by rw [hx] at he; cases he; exact .inr h4
  ·have h2' : (x.a, x.b) ∈ Ee es := by simpa using h2
   simp only [Bool.false_eq_true, false_iff, Classical.not_not]
   exact fun e he => by rw [hx] at he; cases he; exact .inl h2'
 ·have : b = true := by simpa using h
  subst this
  rw [hc]
  exact ⟨fun h3 => ⟨hb.1 rfl, inE_all h2, h3⟩, fun h3 => h3.2.2⟩
 ·simp only [Bool.false_eq_true, false_iff]
  exact fun h3 => h2 (inE_of h3.2.1 j)
theorem spec_IsValidPreference_ok {n : Int} (hn : 0 ≤ n ∧ n ≤ 14) {es : List ConflictEdge} (he : RE es) (p : List ConflictEdge) : Ok (m_spec_IsValidPreference n es p) fun b => (b = true ↔ VP n (Ee es) (Ee p)) := by
 unfold m_spec_IsValidPreference
 refine .bind (spec_AreValidEdges_ok hn he) fun b hb => .cond (fun h => .ret ?_) fun h => ?_
 ·have : b = false := by simpa using h
  subst this
  exact ⟨fun h => (by cases h), fun h => by have := hb.2 h.1; cases this⟩
 have hbt : b = true := by simpa using h
 have hve := hb.1 hbt
 refine .allL (inE es p) false (fun i x hx _ => .test ?_) (fun h2 => ?_) (fun ⟨j, hj, h2⟩ => .ret ?_)
 ·have hi := pref_iff hve x.a x.b
  have hin : inE es p i ↔ ((x.a, x.b) ∈ Ee es ∨ (x.b, x.a) ∈ Ee es) := ⟨fun h => h x hx, fun h e he => by rw [hx] at he; cases he; exact h⟩
  rw [hin, ← hi]
  refine .cond (fun h2 => .ret ?_) fun h2 => .eq (l28Edge_eq es x.a x.b) (.ret ?_)
  ·have := of_decide_eq_true h2
   simp [this]
  ·have := of_decide_eq_false h2
   unfold adjB
   simp [this]
 ·obtain ⟨N, rfl⟩ := Int.eq_ofNat_of_zero_le hn.1
  have hq := inE_all h2
  have hpin : ∀ j, j < (Ee p).length → 0 ≤ ((Ee p).getD j default).1 ∧ ((Ee p).getD j default).1 < (N : Int) := fun j hj => (pref_in hve hq hj).1
  refine .mk (n := N) (by omega) (by omega) (.gN (by omega) (.forM (fun k g => g.length = N ∧ Sound N (Ee p) g ∧ PK (Ee p) k g) ⟨by simp, sound_start _ _ _, .inl (Nat.zero_le _)⟩ (fun k g hk ⟨hgl, hso, hpk⟩ => ?_) (fun g ⟨hgl, hso, hpk⟩ => .gN (by omega) (.allN (fun x => g.getD x false = true) false (fun x hx => ?_) (fun hall => .ret ?_) (fun ⟨x, hx, hb⟩ => .ret ?_)))))
  ·refine .gN (by omega) (.forM (fun x g' => g'.length = N ∧ Sound N (Ee p) g' ∧ RX (Ee p) g g' x) ⟨hgl, hso, .inl ⟨rfl, fun y hy => by omega⟩⟩ (fun x g' hx ⟨h4, h5, h6⟩ => ?_) (fun g' ⟨h4, h5, h6⟩ => .ret ⟨h4, h5, PK.next h6 (by omega) hpk⟩))
   have hin' : ∀ j, j < (Ee p).length → 0 ≤ ((Ee p).getD j default).1 ∧ ((Ee p).getD j default).1 < (g'.length : Int) := fun j hj => by rw [h4]; exact hpin j hj
   refine .forS (fun j f => f = freeA (Ee p) g' (x : Int) j) (by simp [freeA]) (fun j e f he hI => ?_) (fun f hI => ?_)
   ·have hj := (List.getElem?_eq_some_iff.1 he).1
    have hjE : j < (Ee p).length := by rw [Ee_len]; exact hj
    rw [freeA_succ _ _ _ _ hjE, Ee_at he, ← hI]
    have hp := hpin j hjE
    rw [Ee_at he] at hp
    refine .cond (fun hf => .cond (fun h7 => .ret ?_) fun h7 => .get' hp.1 (by rw [h4]; exact hp.2) fun q hq2 e2 => .ret ?_) fun hf => .ret ?_
    ·have := of_decide_eq_true h7
     rw [hf]; simp [this]
    ·have h8 : e.b = (x : Int) := by simpa using h7
     rw [hf, h8, e2]
     simp [List.getD, hq2]
    ·rw [hf]; simp
   ·rw [← Ee_len] at hI
    refine .cond (fun hf => .get rfl (by omega) (.ret ?_)) fun hf => .ret ?_
    ·have hfa : freeA (Ee p) g' (x : Int) (Ee p).length = true := by rw [← hI]; exact hf
     simp only [Int.toNat_natCast]
     exact ⟨by simpa using h4, h5.set (by omega) hfa, h6.free (by omega) hfa⟩
    ·have hfa : freeA (Ee p) g' (x : Int) (Ee p).length = false := by rw [← hI]; exact hf
     exact ⟨h4, h5, h6.stuck hin' hfa⟩
  ·have hx' : x < g.length := by omega
   refine .get rfl hx' (.cond (fun h7 => .out ⟨rfl, ?_⟩) fun h7 => .next ?_)
   ·have : g[x] = false := by simpa using h7
    simp [List.getD, hx', this]
   ·have : g[x] = true := by simpa using h7
    simp [List.getD, hx', this]
  ·exact ⟨fun _ => ⟨hve, hq, sound_end hso hgl hall⟩, fun _ => rfl⟩
  ·simp only [Bool.false_eq_true, false_iff]
   intro h7
   have hb' : g.getD x false = false := by simpa using hb
   have := PK.end hpk (by omega) (by omega) hb'
   rw [hgl] at this
   exact h7.2.2 this
 ·simp only [Bool.false_eq_true, false_iff]
  exact fun h3 => h2 (inE_of h3.2.1 j)
theorem l8Set_eq (n : Int) (s : List Int) : m_spec_l8Set n s = m_impl_areIndices s n := rfl
end Go.Proofs.Ytmecnecfkgneoaa
set_option linter.unusedVariables false
set_option linter.unusedSimpArgs false
namespace Go.Proofs.Ytmecnecfkgneoaa
open Go Go.Proofs Go.Sep
theorem clone_eq (s : List Int) (hs : s.length ≤ 1048576) : m_slices_Clone_Sint_int s = some s := by
 unfold m_slices_Clone_Sint_int
 first
  | (exact Ok.to (.app (by simp; omega) (.ret (by simp))))
  | (exact Ok.to (.cut (i := 0) (j := 0) rfl rfl (by omega) (by omega) (.app (by simp; omega) (.ret (by simp)))))
  | (refine Ok.to (.cond (fun h => .ret ?_) fun h => .app (by simp; omega) (.ret (by simp))); simpa using h)
end Go.Proofs.Ytmecnecfkgneoaa
set_option linter.unusedVariables false
set_option linter.unusedSimpArgs false
namespace Go.Proofs.Ytmecnecfkgneoaa
open Go Go.Proofs Go.Sep
noncomputable def undF (n : Int) (es p : List ConflictEdge) (left : List Int) : List Int := if tr (VP n (Ee es) (Ee p)) && tr (AscB n left) then und (Ee p) left else []
theorem spec_UndominatedFacts_eq {n : Int} (hn : 0 ≤ n ∧ n ≤ 14) {es : List ConflictEdge} (he : RE es) (p : List ConflictEdge) {left : List Int} (hl : left.length ≤ 1048576) : m_spec_UndominatedFacts n es p left = some (undF n es p left) := by
 unfold m_spec_UndominatedFacts undF
 have h1 := Ok_tr (spec_IsValidPreference_ok hn he p)
 have h2 := Ok_tr (areIndices_iff left n hn.1 (by omega))
 rw [h1, Option.bind_some]
 cases tr (VP n (Ee es) (Ee p)) with
 | false => rfl
 | true =>
  rw [l8Set_eq, h2, Option.bind_some]
  cases tr (AscB n left) with
  | false => rfl
  | true =>
   refine Ok.to (.bind (Ok.of rfl) fun t ht => .cf (by rw [ht]; rfl) ?_)
   exact ⟨_, spec_und_run p left hl, rfl⟩
end Go.Proofs.Ytmecnecfkgneoaa
set_option linter.unusedVariables false
set_option linter.unusedSimpArgs false
namespace Go.Proofs.Ytmecnecfkgneoaa
open Go Go.Proofs Go.Sep
theorem l28Rest_eq (l : List ConflictEdge) (left : List Int) (x : Int) (hl : left.length ≤ 1048576) : m_spec_l28Rest l left x = some (left.filter fun y => decide (y ≠ x) && !adjB (Ee l) y x) := by
 unfold m_spec_l28Rest
 refine filter_run hl fun i y o hy ho => ?_
 refine Ok.to (.bind (P := fun t => t = (decide (y ≠ x) && !adjB (Ee l) y x)) (.cond (fun h => .eq (l28Edge_eq l y x) (.ret (by rw [h]; rfl))) fun h => .ret (by rw [h]; rfl)) fun t ht => ?_)
 subst ht
 refine .cond (fun h => .app (by simp; omega) (.ret ?_)) fun h => .ret ?_
 ·rw [if_pos h]
 ·rw [if_neg (by rw [h]; decide)]
theorem l28All_ok {u : Nat} (hu : 1048577 < u) {N : Nat} (hn : N ≤ 14) : Ok (m_spec_l28All u N) fun l => l = (List.range N).map Int.ofNat := by
 unfold m_spec_l28All
 refine .while (fun l => l.length ≤ N ∧ l = (List.range l.length).map Int.ofNat) (fun l => N - l.length) (fun l => l = (List.range N).map Int.ofNat) (fun _ => False) (by simp only [List.length_nil]; omega) ⟨by simp, rfl⟩ (fun l ⟨h1, h2⟩ => ?_) (fun l h => .ret h) (fun _ h => h.elim)
 refine .cond (fun h => .app (by simp; omega) (.next ⟨⟨?_, ?_⟩, ?_⟩)) fun h => .brk ?_
 ·have := of_decide_eq_true h
  simp; omega
 ·have e : (l ++ [(l.length : Int)]).length = l.length + 1 := by simp
  rw [e, List.range_succ, List.map_append, ← h2]; rfl
 ·have := of_decide_eq_true h
  simp; omega
 ·have := of_decide_eq_false h
  have e : l.length = N := by omega
  rw [← e]; exact h2
theorem AscB.filter {n : Int} {l : List Int} (q : Int → Bool) (h : AscB n l) : AscB n (l.filter q) := ⟨fun x hx => h.1 x ((List.mem_filter.1 hx).1), h.2.filter q⟩
theorem AscB_range (N : Nat) : AscB (N : Int) ((List.range N).map Int.ofNat) := by
 refine ⟨fun x hx => ?_, ?_⟩
 ·have := range_in hx; omega
 ·rw [List.pairwise_map]
  exact List.pairwise_lt_range.imp fun h => by simpa using h
end Go.Proofs.Ytmecnecfkgneoaa
set_option linter.unusedVariables false
set_option linter.unusedSimpArgs false
namespace Go.Proofs.Ytmecnecfkgneoaa
open Go Go.Proofs Go.Sep
theorem l7Sorted_ok {u : Nat} (l : List Int) (hl : l.length ≤ 1048576) (hu : 1048577 < u) : Ok (m_spec_l7Sorted u l) fun s => s.Pairwise (· ≤ ·) ∧ s.Perm l := by
 unfold m_spec_l7Sorted
 refine .forS (fun n out => out.Pairwise (· ≤ ·) ∧ out.Perm (l.take n)) ⟨.nil, by simp⟩ (fun n x out hx ⟨hp, hq⟩ => ?_) (fun s hs => .ret ⟨hs.1, by have := hs.2; rwa [List.take_length] at this⟩)
 have hn : n < l.length := (List.getElem?_eq_some_iff.1 hx).1
 have hol : out.length = n := by rw [hq.length_eq]; simp; omega
 refine .while (fun (k : Int) => ∃ m : Nat, k = (m : Int) ∧ m ≤ out.length ∧ ∀ (j : Nat) y, m ≤ j → out[j]? = some y → x < y) (fun k => k.toNat) (fun (k : Int) => ∃ m : Nat, k = (m : Int) ∧ m ≤ out.length ∧ (∀ (j : Nat) y, m ≤ j → out[j]? = some y → x < y) ∧ (0 < m → ∀ y, out[m - 1]? = some y → y ≤ x)) (fun _ => False) (by omega) ⟨out.length, rfl, Nat.le_refl _, fun j y hj hy => by rw [List.getElem?_eq_none hj] at hy; cases hy⟩ (fun k ⟨m, h1, h2, h3⟩ => ?_) (fun k ⟨m, h1, h2, h3, h4⟩ => ?_) (fun _ h => h.elim)
 ·subst h1
  refine .bind (P := fun t => (t = true → 0 < m ∧ ∀ y, out[m - 1]? = some y → x < y) ∧ (t = false → 0 < m → ∀ y, out[m - 1]? = some y → y ≤ x)) (.cond (fun h => ?_) fun h => (.ret ⟨fun h => Bool.noConfusion h, fun _ h0 => absurd (show (0 : Int) < (m : Int) by omega) (of_decide_eq_false h)⟩)) fun t ht => .cond (fun h => .next ⟨⟨m - 1, ?_, by omega, fun j y hj hy => ?_⟩, ?_⟩) fun h => .brk ⟨m, rfl, h2, h3, ht.2 h⟩
  ·have h0 : 0 < m := by simpa using h
   have e : w64 ((m : Int) - 1) = ((m - 1 : Nat) : Int) := by rw [w64_id (by omega)]; omega
   refine .get e (by omega) (.ret ⟨fun h => ⟨h0, fun y hy => ?_⟩, fun h _ y hy => ?_⟩)
   ·rw [List.getElem?_eq_getElem (by omega)] at hy; cases hy; exact of_decide_eq_true h
   ·rw [List.getElem?_eq_getElem (by omega)] at hy; cases hy; have := of_decide_eq_false h; omega
  ·have := (ht.1 h).1; rw [w64_id (by omega)]; omega
  ·rcases Nat.lt_or_ge j m with g | g
   ·have e : j = m - 1 := by omega
    subst e; exact (ht.1 h).2 y hy
   ·exact h3 j y g hy
  ·have := (ht.1 h).1; rw [w64_id (by omega)]; omega
 ·subst h1
  refine .cut (i := 0) rfl rfl (Nat.zero_le _) h2 (.app (by simp; omega) (.app (by simp; omega) (.cut rfl rfl h2 (Nat.le_refl _) (.app (by simp; omega) (.ret ?_)))))
  rw [List.take_length, List.drop_zero, List.nil_append]
  have hsp := List.take_append_drop m out
  have hpa : (out.take m ++ out.drop m).Pairwise (· ≤ ·) := by rw [hsp]; exact hp
  obtain ⟨p1, p2, p3⟩ := List.pairwise_append.1 hpa
  have hlo : ∀ a ∈ out.take m, a ≤ x := fun a ha => by
   obtain ⟨j, hj⟩ := List.getElem?_of_mem ha
   have hjm : j < (out.take m).length := (List.getElem?_eq_some_iff.1 hj).1
   rw [List.length_take] at hjm
   have hj' : out[j]? = some a := by rwa [List.getElem?_take_of_lt (by omega)] at hj
   have hm1 : m - 1 < out.length := by omega
   have hx1 := h4 (by omega) _ (List.getElem?_eq_getElem hm1)
   rcases Nat.lt_or_ge j (m - 1) with g | g
   ·have := List.pairwise_iff_getElem.1 hp j (m - 1) (by omega) hm1 g
    have e : out[j] = a := by have := hj'; rw [List.getElem?_eq_getElem (by omega)] at this; simpa using this
    omega
   ·have e : j = m - 1 := by omega
    subst e
    rw [List.getElem?_eq_getElem hm1] at hj'; cases hj'; exact hx1
  have hhi : ∀ b ∈ out.drop m, x ≤ b := fun b hb => by
   obtain ⟨j, hj⟩ := List.getElem?_of_mem hb
   rw [List.getElem?_drop] at hj
   exact Int.le_of_lt (h3 (m + j) b (by omega) hj)
  refine ⟨?_, ?_⟩
  ·rw [List.append_assoc]
   refine List.pairwise_append.2 ⟨p1, ?_, fun a ha b hb => ?_⟩
   ·exact .cons hhi p2
   ·rcases List.mem_cons.1 hb with rfl | hb
    ·exact hlo a ha
    ·exact p3 a ha b hb
  ·rw [List.take_add_one, hx]
   refine List.Perm.trans ?_ (hq.append_right _)
   rw [List.append_assoc, List.singleton_append]
   refine List.Perm.trans (List.perm_middle) ?_
   rw [hsp]
   exact (List.perm_append_comm (l₁ := [x]) (l₂ := out))
theorem l7Sorted_eq {u : Nat} {l s : List Int} (hl : l.length ≤ 1048576) (hu : 1048577 < u) (hs : s.Pairwise (· < ·)) (hp : s.Perm l) : m_spec_l7Sorted u l = some s := by
 obtain ⟨s', h1, h2, h3⟩ := l7Sorted_ok l hl hu
 have : s' = s := List.Perm.eq_of_pairwise (fun a b _ _ h1 h2 => Int.le_antisymm h1 h2) h2 (hs.imp Int.le_of_lt) (h3.trans hp.symm)
 rw [h1, this]
end Go.Proofs.Ytmecnecfkgneoaa
set_option linter.unusedVariables false
set_option linter.unusedSimpArgs false
namespace Go.Proofs.Ytmecnecfkgneoaa
open Go Go.Proofs Go.Sep
theorem comp2_mem : ∀ (l : List Int) (p x : Int), x ∈ comp2 p l ∨ x = p ↔ x ∈ l ∨ x = p
 | [], p, x => by simp [comp2]
 | y :: l, p, x => by
  simp only [comp2]
  by_cases h : y = p
  ·subst h
   rw [if_pos rfl, comp2_mem l y x, List.mem_cons]
   exact ⟨fun h => h.elim (fun h => .inl (.inr h)) .inr, fun h => h.elim (fun h => h.elim .inr .inl) .inr⟩
  ·rw [if_neg h, List.mem_cons, List.mem_cons]
   have := comp2_mem l y x
   constructor
   ·rintro ((h1 | h1) | h1)
    ·exact .inl (.inl h1)
    ·rcases this.1 (.inl h1) with h2 | h2
     ·exact .inl (.inr h2)
     ·exact .inl (.inl h2)
    ·exact .inr h1
   ·rintro ((h1 | h1) | h1)
    ·exact .inl (.inl h1)
    ·rcases this.2 (.inl h1) with h2 | h2
     ·exact .inl (.inr h2)
     ·exact .inl (.inl h2)
    ·exact .inr h1
theorem comp1_mem (l : List Int) (x : Int) : x ∈ comp1 l ↔ x ∈ l := by
 cases l with
 | nil => rfl
 | cons y l =>
  simp only [comp1, List.mem_cons]
  have := comp2_mem l y x
  constructor
  ·rintro (h | h)
   ·exact .inl h
   ·exact (this.1 (.inl h)).symm
  ·rintro (h | h)
   ·exact .inl h
   ·exact (this.2 (.inl h)).symm
theorem comp2_asc : ∀ (l : List Int) (p : Int), (p :: l).Pairwise (· ≤ ·) → (p :: comp2 p l).Pairwise (· < ·)
 | [], p, _ => by simp [comp2]
 | y :: l, p, h => by
  simp only [comp2]
  have h1 := List.pairwise_cons.1 h
  by_cases e : y = p
  ·subst e
   rw [if_pos rfl]; exact comp2_asc l y h1.2
  ·rw [if_neg e]
   have ih := comp2_asc l y h1.2
   have hy := h1.1 y (List.mem_cons_self ..)
   refine List.pairwise_cons.2 ⟨fun z hz => ?_, ih⟩
   rcases List.mem_cons.1 hz with rfl | hz
   ·omega
   ·have := (List.pairwise_cons.1 ih).1 z hz; omega
theorem comp1_asc (l : List Int) (h : l.Pairwise (· ≤ ·)) : (comp1 l).Pairwise (· < ·) := by
 cases l with
 | nil => exact .nil
 | cons x l => exact comp2_asc l x h
def uni (l : List Int) : List Int := comp1 (l.mergeSort fun x y => decide (x ≤ y))
theorem uni_mem (l : List Int) (x : Int) : x ∈ uni l ↔ x ∈ l := by
 rw [uni, comp1_mem]; exact (List.mergeSort_perm l _).mem_iff
theorem uni_asc (l : List Int) : (uni l).Pairwise (· < ·) := by
 refine comp1_asc _ ?_
 have := List.pairwise_mergeSort (le := fun x y : Int => decide (x ≤ y)) (fun a b c h1 h2 => by simp at h1 h2 ⊢; omega) (fun a b => by simp; omega) l
 exact this.imp fun h => by simpa using h
theorem uni_nodup (l : List Int) : (uni l).Nodup := (uni_asc l).imp fun h => by omega
theorem uni_le (l : List Int) : (uni l).length ≤ l.length := by
 have := comp1_le (l.mergeSort fun x y => decide (x ≤ y))
 rw [List.length_mergeSort] at this; exact this
theorem grow_ok {k : Int} (h0 : 0 ≤ k) (h1 : k ≤ 4194304) : m_slices_Grow_Sint_int_n0 k = some [] := by
 unfold m_slices_Grow_Sint_int_n0
 have e0 : w64 (((0 : Nat) : Int) - ((0 : Nat) : Int)) = 0 := w64_id (by omega)
 rw [e0, w64_id (by omega)]
 refine Ok.to (.cf (decide_eq_false (by omega)) (.cond (fun h => ?_) fun _ => .ret rfl))
 have h := of_decide_eq_true h
 have e1 : apz 8 (k - 0) (0 : Int) = some (List.replicate (k - 0).toNat 0) := by unfold apz; rw [if_pos (by omega)]
 exact .eq e1 (.cut (i := 0) (j := 0) rfl rfl (Nat.le_refl _) (Nat.zero_le _) (.ret (by simp)))
theorem concat2_eq (a b : List Int) (ha : a.length ≤ 2097152) (hb : b.length ≤ 2097152) : m_slices_Concat_Sint_int [a, b] = some (a ++ b) := by
 have hg : m_slices_Grow_Sint_int_n0 ((a.length : Int) + b.length) = some [] := grow_ok (by omega) (by omega)
 unfold m_slices_Concat_Sint_int
 refine Ok.to (.forS (fun n s => (n = 0 ∧ s = 0) ∨ (n = 1 ∧ s = (a.length : Int)) ∨ (n = 2 ∧ s = (a.length : Int) + b.length)) (.inl ⟨rfl, rfl⟩) (fun n x s hx hI => ?_) (fun s hI => ?_))
 ·rcases hI with ⟨rfl, rfl⟩ | ⟨rfl, rfl⟩ | ⟨rfl, _⟩
  ·simp at hx; subst hx
   rw [w64_id (by omega)]
   exact .cf (decide_eq_false (by omega)) (.ret (.inr (.inl ⟨rfl, by omega⟩)))
  ·simp at hx; subst hx
   rw [w64_id (by omega)]
   exact .cf (decide_eq_false (by omega)) (.ret (.inr (.inr ⟨rfl, rfl⟩)))
  ·simp at hx
 ·have hs : s = (a.length : Int) + b.length := by
   rcases hI with ⟨h, _⟩ | ⟨h, _⟩ | ⟨_, h⟩
   ·simp at h
   ·simp at h
   ·exact h
  subst hs
  refine .eq hg (.forS (fun n s => (n = 0 ∧ s = []) ∨ (n = 1 ∧ s = a) ∨ (n = 2 ∧ s = a ++ b)) (.inl ⟨rfl, rfl⟩) (fun n x s hx hI => ?_) (fun s hI => .ret ?_))
  ·rcases hI with ⟨rfl, rfl⟩ | ⟨rfl, rfl⟩ | ⟨rfl, _⟩
   ·simp at hx; subst hx
    exact .app (by simp only [List.length_nil]; omega) (.ret (.inr (.inl ⟨rfl, rfl⟩)))
   ·simp at hx; subst hx
    exact .app (by omega) (.ret (.inr (.inr ⟨rfl, rfl⟩)))
   ·simp at hx
  ·rcases hI with ⟨h, _⟩ | ⟨h, _⟩ | ⟨_, h⟩
   ·simp at h
   ·simp at h
   ·exact h
theorem union_eq (a b : List Int) (ha : a.length ≤ 2097152) (hb : b.length ≤ 2097152) : m_impl_union a b = some (uni (a ++ b)) := by
 unfold m_impl_union
 refine Ok.to (.eq (concat2_eq a b ha hb) (.eq (a := ((), (a ++ b).mergeSort fun x y => decide (x ≤ y))) ?_ (.eq (a := uni (a ++ b)) ?_ (.ret rfl))))
 ·unfold m_slices_Sort_Sint_int; rw [if_pos (by rw [List.length_append]; omega)]
 ·unfold m_slices_Compact_Sint_int
  simp only
  rw [if_pos (by rw [List.length_mergeSort, List.length_append]; omega)]; rfl
end Go.Proofs.Ytmecnecfkgneoaa
set_option linter.unusedVariables false
set_option linter.unusedSimpArgs false
namespace Go.Proofs.Ytmecnecfkgneoaa
open Go Go.Proofs Go.Sep
theorem cmpL_drop {a b : List Int} {i : Nat} (h1 : i < a.length) (h2 : i < b.length) : cmpL (a.drop i) (b.drop i) = if a[i] < b[i] then -1 else if b[i] < a[i] then 1 else cmpL (a.drop (i + 1)) (b.drop (i + 1)) := by
 rw [List.drop_eq_getElem_cons h1, List.drop_eq_getElem_cons h2]; rfl
theorem cmpL_nil_r (a : List Int) : cmpL a [] = if a.length = 0 then 0 else 1 := by cases a <;> simp [cmpL]
theorem cmpL_nil_l (b : List Int) : cmpL [] b = if b.length = 0 then 0 else -1 := by cases b <;> simp [cmpL]
theorem cmp_Compare_eq (x y : Int) : m_cmp_Compare_int x y = some (if x < y then -1 else if y < x then 1 else 0) := by
 unfold m_cmp_Compare_int m_cmp_isNaN_int
 simp only [Option.bind_some, ne_eq, not_true_eq_false, decide_false, cond_false]
 by_cases h1 : x < y
 ·simp [h1]
 ·by_cases h2 : y < x <;> simp [h1, h2]
theorem slices_Compare_from (a b : List Int) : ∀ (k i : Nat), i + k = a.length → (forL (R := Int) (fun (t_1 : Int) (x_t_1 : Int) (_ : Unit) => cond (decide ((b.length : Int) ≤ (t_1 : Int))) (some (.ret 1)) ((getI b (t_1 : Int)).bind fun v_4 => (m_cmp_Compare_int x_t_1 v_4).bind fun r_9 => cond (decide (r_9 ≠ 0)) (some (.ret r_9)) (some (.next ())))) (a.drop i) (i : Int) ()).bind (fun O2_ => onS O2_ (fun (_ : Unit) => cond (decide ((a.length : Int) < (b.length : Int))) (some (-1)) (some 0)) (fun r => some r)) = some (cmpL (a.drop i) (b.drop i))
 | 0, i, hk => by
  rw [List.drop_eq_nil_of_le (show a.length ≤ i by omega), cmpL_nil_l]
  simp only [forL, Option.bind_some, onS, List.length_drop]
  by_cases h : a.length < b.length
  ·rw [cond_T' (by simpa using h), if_neg (by omega)]
  ·rw [cond_F' (by simpa using h), if_pos (by omega)]
 | k + 1, i, hk => by
  have hi : i < a.length := by omega
  rw [List.drop_eq_getElem_cons hi]
  simp only [forL]
  by_cases hb : b.length ≤ i
  ·rw [cond_T' (by simpa using hb), List.drop_eq_nil_of_le hb]; rfl
  ·rw [cond_F' (by simpa using hb), getI_lt (show i < b.length by omega), Option.bind_some, cmp_Compare_eq, Option.bind_some]
   rw [← List.drop_eq_getElem_cons hi, cmpL_drop hi (by omega)]
   by_cases h1 : a[i] < b[i]
   ·simp [h1, onS]
   ·by_cases h2 : b[i] < a[i]
    ·simp [h1, h2, onS]
    ·simp only [h1, h2, if_false, ne_eq, not_true_eq_false, decide_false, cond_false, Option.bind_some]
     exact slices_Compare_from a b k (i + 1) (by omega)
theorem slices_Compare_eq (a b : List Int) : m_slices_Compare_Sint_int a b = some (cmpL a b) := slices_Compare_from a b a.length 0 (by omega)
theorem l3Ints_cmp (a b : List Int) (u : Nat) (hu : a.length < u) (ha : a.length ≤ 1048576) (hb : b.length ≤ 9223372036854775807) : m_spec_l3Ints u a b = some (cmpL a b) := by
 unfold m_spec_l3Ints
 obtain ⟨o, h1, h2⟩ := while_ok (f := fun (i5 : Int) => cond ((decide (i5 < (a.length : Int))) && (decide (i5 < (b.length : Int)))) ((getI a i5).bind fun v_6 => (getI b i5).bind fun v_11 => cond (decide (v_6 < v_11)) (some (.ret (-1))) (cond (decide (v_11 < v_6)) (some (.ret 1)) (some (.next (w64 (i5 + 1)))))) (some (.brk i5)))
  (fun i => ∃ n : Nat, i = n ∧ n ≤ a.length ∧ n ≤ b.length ∧ cmpL a b = cmpL (a.drop n) (b.drop n)) (fun i => a.length - i.toNat) (fun i => ∃ n : Nat, i = n ∧ n ≤ a.length ∧ n ≤ b.length ∧ cmpL a b = cmpL (a.drop n) (b.drop n) ∧ (n = a.length ∨ n = b.length)) (fun (r : Int) => r = cmpL a b)
  (fun i ⟨n, hi, hn1, hn2, hI⟩ => by
   subst hi
   by_cases h : n < a.length ∧ n < b.length
   ·rw [cond_T' (by simp; omega), getI_lt h.1, Option.bind_some, getI_lt h.2, Option.bind_some]
    rw [cmpL_drop h.1 h.2] at hI
    by_cases c1 : a[n] < b[n]
    ·rw [cond_T' (by simpa using c1)]; exact ⟨_, rfl, by rw [if_pos c1] at hI; exact hI.symm⟩
    ·rw [cond_F' (by simpa using c1)]
     rw [if_neg c1] at hI
     by_cases c2 : b[n] < a[n]
     ·rw [cond_T' (by simpa using c2)]; exact ⟨_, rfl, by rw [if_pos c2] at hI; exact hI.symm⟩
     ·rw [cond_F' (by simpa using c2), w64_id (by omega)]
      rw [if_neg c2] at hI
      exact ⟨_, rfl, ⟨n + 1, by omega, h.1, h.2, hI⟩, by have := h.1; omega⟩
   ·rw [cond_F' (by simp; omega)]
    exact ⟨_, rfl, n, rfl, hn1, hn2, hI, by omega⟩)
  u 0 (by simpa using hu) ⟨0, rfl, by omega, by omega, rfl⟩
 rw [h1, Option.bind_some]
 cases o with
 | inr r => simp only [onS]; rw [h2]
 | inl i =>
  obtain ⟨n, rfl, hn1, hn2, hI, hn⟩ := h2
  simp only [onS]
  rw [hI]
  by_cases c1 : a.length < b.length
  ·have e : n = a.length := by omega
   rw [cond_T' (by simpa using c1), e, List.drop_eq_nil_of_le (Nat.le_refl _), cmpL_nil_l, if_neg (by simp; omega)]
  ·rw [cond_F' (by simpa using c1)]
   by_cases c2 : b.length < a.length
   ·have e : n = b.length := by omega
    rw [cond_T' (by simpa using c2), e, List.drop_eq_nil_of_le (Nat.le_refl b.length), cmpL_nil_r, if_neg (by simp; omega)]
   ·have e : n = a.length := by omega
    rw [cond_F' (by simpa using c2), e, List.drop_eq_nil_of_le (Nat.le_refl _), cmpL_nil_l, if_pos (by simp; omega)]
end Go.Proofs.Ytmecnecfkgneoaa
set_option linter.unusedVariables false
set_option linter.unusedSimpArgs false
namespace Go.Proofs.Ytmecnecfkgneoaa
open Go Go.Proofs Go.Sep
end Go.Proofs.Ytmecnecfkgneoaa
set_option linter.unusedVariables false
set_option linter.unusedSimpArgs false
namespace Go.Proofs.Ytmecnecfkgneoaa
open Go Go.Proofs Go.Sep
end Go.Proofs.Ytmecnecfkgneoaa
set_option linter.unusedVariables false
set_option linter.unusedSimpArgs false
namespace Go.Proofs.Ytmecnecfkgneoaa
open Go Go.Proofs Go.Sep
theorem eqf_loop {α : Type} [DecidableEq α] {f : α → α → Option Bool} (a b : List α) (hf : ∀ x ∈ a, ∀ y ∈ b, f x y = some (decide (x = y))) :
  (cond (decide ((a.length : Int) ≠ (b.length : Int))) (some false) ((forL (R := Bool) (fun (t_2 : Int) (x_t_2 : α) (_ : Unit) => (getI b (t_2 : Int)).bind fun v_4 => (f x_t_2 v_4).bind fun r_9 => cond (!r_9) (some (.ret false)) (some (.next ()))) a 0 ()).bind fun O3_ => onS O3_ (fun (_ : Unit) => some true) (fun r => some r))) = some (decide (a = b)) := by
 refine Ok.to (.cond (fun h => .ret ?_) fun h => ?_)
 ·have : a ≠ b := fun e => by subst e; simp at h
  simp [this]
 ·have hl : a.length = b.length := by have := of_decide_eq_false h; omega
  refine .forL (fun n _ => ∀ j, j < n → a[j]? = b[j]?) (fun _ => False) (fun r => r = false ∧ a ≠ b) (fun j hj => by omega) (fun n x s hx hI => ?_) (fun s hs => .ret ?_) (fun r hr => .ret (by rw [hr.1]; simp [hr.2]))
  ·have hn : n < a.length := (List.getElem?_eq_some_iff.1 hx).1
   have hb : n < b.length := by omega
   rw [List.getElem?_eq_getElem hn] at hx; cases hx
   refine .get rfl hb (.eq (hf _ (List.getElem_mem hn) _ (List.getElem_mem hb)) (.cond (fun hc => .out ⟨rfl, fun e => ?_⟩) fun hc => .next fun j hj => ?_))
   ·subst e; simp at hc
   ·have hc' : a[n] = b[n] := by simpa using hc
    by_cases e : j = n
    ·subst e; rw [List.getElem?_eq_getElem hn, List.getElem?_eq_getElem hb, hc']
    ·exact hI j (by omega)
  ·have h := hs.resolve_right id
   have : a = b := List.ext_getElem? fun j => by
    rcases Nat.lt_or_ge j a.length with g | g
    ·exact h j g
    ·rw [List.getElem?_eq_none g, List.getElem?_eq_none (by omega)]
   simp [this]
theorem Equal_ints (a b : List Int) : m_slices_Equal_Sint_int a b = some (decide (a = b)) := by
 have := eqf_loop (f := fun x y => some (decide (x = y))) a b (fun _ _ _ _ => rfl)
 unfold m_slices_Equal_Sint_int
 rw [← this]
 congr 2
 congr 1
 funext t x s
 cases getI b t with
 | none => rfl
 | some y => by_cases h : x = y <;> simp [h]
end Go.Proofs.Ytmecnecfkgneoaa
set_option linter.unusedVariables false
set_option linter.unusedSimpArgs false
namespace Go.Proofs.Ytmecnecfkgneoaa
open Go Go.Proofs Go.Sep
theorem eqIntS_eq (a b : List Int) : m_laws_eqIntS a b = some (decide (a = b)) := by
 unfold m_laws_eqIntS
 by_cases hl : a.length = b.length
 ·rw [cond_F' (by simp [hl])]
  obtain ⟨o, h1, h2⟩ := forL_all (f := fun (i_2 : Int) (x_i_2 : Int) (_ : Unit) => (getI b (i_2 : Int)).bind fun v_4 => cond (decide (x_i_2 ≠ v_4)) (some (.ret false)) (some (.next ()))) (xs := a) (r := false) (fun n x => decide (b[n]? = some x)) (fun n x hx => by
   have hn : n < b.length := by have := (List.getElem?_eq_some_iff.1 hx).1; omega
   rw [getI_lt hn, Option.bind_some, List.getElem?_eq_getElem hn]
   by_cases e : x = b[n]
   ·simp [e]
   ·simp [e, Ne.symm e])
  rw [h1, Option.bind_some]
  rcases h2 with ⟨rfl, h⟩ | ⟨rfl, n, x, hx, hp⟩
  ·simp only [onS, Option.some.injEq]
   symm; simp only [decide_eq_true_eq]
   apply List.ext_getElem?
   intro n
   cases hx : a[n]? with
   | none => rw [List.getElem?_eq_none_iff] at hx; rw [List.getElem?_eq_none (by omega)]
   | some x => have := h n x hx; simp at this; exact this.symm
  ·simp only [onS, Option.some.injEq]
   symm; simp only [decide_eq_false_iff_not]
   rintro rfl
   simp [hx] at hp
 ·rw [cond_T' (by simp; omega)]
  have : a ≠ b := fun e => hl (by rw [e])
  simp [this]
def marks (k : Int) (n : Nat) : List Int := (List.range n).map fun (i : Nat) => k + (i : Int)
theorem marks_len (k : Int) (n : Nat) : (marks k n).length = n := by simp [marks]
theorem marks_get (k : Int) (n i : Nat) (h : i < n) : (marks k n)[i]? = some (k + i) := by simp [marks, h]
theorem markIntS_eq (a : List Int) (k : Int) (h0 : 0 ≤ k) (h1 : k + a.length ≤ 4611686018427387904) : m_laws_markIntS a k = some (k + a.length, marks k a.length) := by
 unfold m_laws_markIntS
 obtain ⟨s, h2, h3⟩ := forM_ok (m := a.length) (s := (a, k)) (f := fun (i_1 : Int) (⟨a0m, k1⟩ : (List Int) × Int) => (getI a0m (i_1 : Int)).bind fun v_3 => some ((a0m.set ((i_1 : Int)).toNat k1), (w64 (k1 + 1))))
  (fun n s => s.2 = k + n ∧ s.1.length = a.length ∧ ∀ j, j < n → s.1[j]? = some (k + (j : Int))) ⟨by simp, rfl, fun j hj => by omega⟩ fun n s hn ⟨hk, hl, hI⟩ => by
   obtain ⟨xs, c⟩ := s
   simp only at hk hl hI
   refine ⟨(xs.set n c, c + 1), ?_, by simp only; omega, by simpa using hl, fun j hj => ?_⟩
   ·show ((getI xs (n : Int)).bind fun v_3 => some ((xs.set (n : Int).toNat c), (w64 (c + 1)))) = _
    rw [getI_lt (by omega), Option.bind_some, w64_id (by omega)]; rfl
   ·simp only
    by_cases e : n = j
    ·subst e; rw [List.getElem?_set_self (by omega), hk]
    ·rw [List.getElem?_set_ne e]; exact hI j (by omega)
 rw [h2, Option.bind_some]
 obtain ⟨xs, c⟩ := s
 obtain ⟨hk, hl, hI⟩ := h3
 simp only at hk hl hI
 show some (c, xs) = _
 rw [hk]
 congr 2
 apply List.ext_getElem?
 intro j
 by_cases hj : j < a.length
 ·rw [hI j hj, marks_get _ _ _ hj]
 ·rw [List.getElem?_eq_none (by omega), List.getElem?_eq_none (by rw [marks_len]; omega)]
theorem heldIntS_eq (k : Int) (n : Nat) (h0 : 0 ≤ k) (h1 : k + n ≤ 4611686018427387904) : m_laws_heldIntS (marks k n) k = some (k + n) := by
 unfold m_laws_heldIntS
 obtain ⟨o, h2, h3⟩ := forL_ok (xs := marks k n) (s := k) (f := fun (i_1 : Int) (x_i_1 : Int) (k1 : Int) => cond (decide (x_i_1 ≠ k1)) (some (.ret (-1))) (some (.next (w64 (k1 + 1)))))
  (fun j s => s = k + j) (fun _ => False) (fun (_ : Int) => False) (by simp) fun j x s hx hI => by
   have hj : j < n := by have := (List.getElem?_eq_some_iff.1 hx).1; rwa [marks_len] at this
   rw [marks_get _ _ _ hj] at hx
   cases hx
   refine ⟨.next (s + 1), ?_, by simp only [CtlP]; omega⟩
   rw [cond_F' (by simp [hI]), w64_id (by omega)]
 rw [h2, Option.bind_some]
 cases o with
 | inl s => have := h3.resolve_right id; rw [marks_len] at this; simp only [onS, this]
 | inr r => exact h3.elim
def sizes (a : List (List Int)) : Nat := (a.map List.length).sum
theorem sizes_cons (x : List Int) (a : List (List Int)) : sizes (x :: a) = x.length + sizes a := rfl
theorem sizes_take_succ {a : List (List Int)} {n : Nat} {x : List Int} (h : a[n]? = some x) : sizes (a.take (n + 1)) = sizes (a.take n) + x.length := by
 rw [List.take_add_one, h]; simp [sizes]
theorem sizes_take_le (a : List (List Int)) (n : Nat) : sizes (a.take n) ≤ sizes a := by
 have : sizes (a.take n ++ a.drop n) = sizes (a.take n) + sizes (a.drop n) := by simp only [sizes, List.map_append, List.sum_append]
 rw [List.take_append_drop] at this; omega
theorem eqIntSS_eq (a b : List (List Int)) : m_laws_eqIntSS a b = some (decide (a = b)) := by
 unfold m_laws_eqIntSS
 by_cases hl : a.length = b.length
 ·rw [cond_F' (by simp [hl])]
  obtain ⟨o, h1, h2⟩ := forL_all (f := fun (i_2 : Int) (x_i_2 : (List Int)) (_ : Unit) => (getI b (i_2 : Int)).bind fun v_4 => (m_laws_eqIntS x_i_2 v_4).bind fun r_9 => cond (!r_9) (some (.ret false)) (some (.next ()))) (xs := a) (r := false) (fun n x => decide (b[n]? = some x)) (fun n x hx => by
   have hn : n < b.length := by have := (List.getElem?_eq_some_iff.1 hx).1; omega
   rw [getI_lt hn, Option.bind_some, eqIntS_eq, Option.bind_some, List.getElem?_eq_getElem hn]
   by_cases e : x = b[n]
   ·simp [e]
   ·simp [e, Ne.symm e])
  rw [h1, Option.bind_some]
  rcases h2 with ⟨rfl, h⟩ | ⟨rfl, n, x, hx, hp⟩
  ·simp only [onS, Option.some.injEq]
   symm; simp only [decide_eq_true_eq]
   apply List.ext_getElem?
   intro n
   cases hx : a[n]? with
   | none => rw [List.getElem?_eq_none_iff] at hx; rw [List.getElem?_eq_none (by omega)]
   | some x => have := h n x hx; simp at this; exact this.symm
  ·simp only [onS, Option.some.injEq]
   symm; simp only [decide_eq_false_iff_not]
   rintro rfl
   simp [hx] at hp
 ·rw [cond_T' (by simp; omega)]
  have : a ≠ b := fun e => hl (by rw [e])
  simp [this]
def marksSS : Int → List (List Int) → List (List Int)
 | _, [] => []
 | k, x :: xs => marks k x.length :: marksSS (k + x.length) xs
theorem marksSS_len : ∀ (k : Int) (a : List (List Int)), (marksSS k a).length = a.length
 | k, [] => rfl
 | k, x :: xs => by simp [marksSS, marksSS_len]
theorem marksSS_get : ∀ (a : List (List Int)) (k : Int) (n : Nat) (x : List Int), a[n]? = some x → (marksSS k a)[n]? = some (marks (k + sizes (a.take n)) x.length)
 | [], k, n, x, h => by simp at h
 | y :: a, k, 0, x, h => by simp at h; subst h; simp [marksSS, sizes]
 | y :: a, k, n + 1, x, h => by
  simp only [marksSS, List.getElem?_cons_succ, List.take_succ_cons, sizes_cons]
  rw [marksSS_get a (k + y.length) n x (by simpa using h)]
  congr 2; omega
theorem markIntSS_eq (a : List (List Int)) (k : Int) (h0 : 0 ≤ k) (h1 : k + sizes a ≤ 4611686018427387904) : m_laws_markIntSS a k = some (k + sizes a, marksSS k a) := by
 unfold m_laws_markIntSS
 obtain ⟨s, h2, h3⟩ := forM_ok (m := a.length) (s := (a, k)) (f := fun (i_1 : Int) (⟨a0m, k1⟩ : (List (List Int)) × Int) => (getI a0m (i_1 : Int)).bind fun v_3 => (m_laws_markIntS v_3 k1).bind fun r_8 => some ((a0m.set ((i_1 : Int)).toNat r_8.2), r_8.1))
  (fun n s => s.2 = k + sizes (a.take n) ∧ s.1 = (marksSS k a).take n ++ a.drop n) ⟨by simp [sizes], by simp⟩ fun n s hn ⟨hk, hI⟩ => by
   obtain ⟨xs, c⟩ := s
   simp only at hk hI
   have hx : a[n]? = some a[n] := List.getElem?_eq_getElem hn
   have hxl : (xs)[n]? = some a[n] := by
    rw [hI, List.getElem?_append_right (by simp [marksSS_len]; omega)]
    have : n - ((marksSS k a).take n).length = 0 := by simp [marksSS_len]; omega
    rw [this, List.getElem?_drop]; simp [hx]
   have hle := sizes_take_le a (n + 1)
   rw [sizes_take_succ hx] at hle
   refine ⟨(xs.set n (marks c a[n].length), c + a[n].length), ?_, by simp only; rw [sizes_take_succ hx]; omega, ?_⟩
   ·show ((getI xs (n : Int)).bind fun v_3 => (m_laws_markIntS v_3 c).bind fun r_8 => some ((xs.set (n : Int).toNat r_8.2), r_8.1)) = _
    rw [getI_nat, hxl, Option.bind_some, markIntS_eq _ _ (by omega) (by omega)]; rfl
   ·simp only
    rw [hI, List.set_append_right _ _ (by simp [marksSS_len]; omega)]
    have h6 : n - ((marksSS k a).take n).length = 0 := by simp [marksSS_len]; omega
    have e : a.drop n = a[n] :: a.drop (n + 1) := List.drop_eq_getElem_cons hn
    rw [h6, e, List.set_cons_zero, List.take_add_one, marksSS_get a k n a[n] hx, hk, Option.toList_some, List.append_assoc]; rfl
 rw [h2, Option.bind_some]
 obtain ⟨xs, c⟩ := s
 obtain ⟨hk, hI⟩ := h3
 simp only at hk hI
 show some (c, xs) = _
 rw [List.take_length] at hk
 rw [List.drop_eq_nil_of_le (Nat.le_refl _), ← marksSS_len k a, List.take_length, List.append_nil] at hI
 rw [hk, hI]
theorem heldIntSS_eq (a : List (List Int)) (k : Int) (h0 : 0 ≤ k) (h1 : k + sizes a ≤ 4611686018427387904) : m_laws_heldIntSS (marksSS k a) k = some (k + sizes a) := by
 unfold m_laws_heldIntSS
 obtain ⟨o, h2, h3⟩ := forL_ok (xs := marksSS k a) (s := k) (f := fun (i_1 : Int) (x_i_1 : (List Int)) (k1 : Int) => (m_laws_heldIntS x_i_1 k1).bind fun r_3 => cond (decide (r_3 < 0)) (some (.ret (-1))) (some (.next r_3)))
  (fun j s => s = k + sizes (a.take j)) (fun _ => False) (fun (_ : Int) => False) (by simp [sizes]) fun j x s hx hI => by
   have hj : j < a.length := by have := (List.getElem?_eq_some_iff.1 hx).1; rwa [marksSS_len] at this
   have hx' : a[j]? = some a[j] := List.getElem?_eq_getElem hj
   rw [marksSS_get a k j a[j] hx'] at hx
   cases hx
   have hle := sizes_take_le a (j + 1)
   rw [sizes_take_succ hx'] at hle
   refine ⟨.next (s + a[j].length), ?_, by simp only [CtlP]; rw [sizes_take_succ hx']; omega⟩
   rw [← hI, heldIntS_eq _ _ (by omega) (by omega), Option.bind_some, cond_F' (by simp; omega)]
 rw [h2, Option.bind_some]
 cases o with
 | inl s => have := h3.resolve_right id; rw [marksSS_len, List.take_length] at this; simp only [onS, this]
 | inr r => exact h3.elim
end Go.Proofs.Ytmecnecfkgneoaa
set_option linter.unusedVariables false
set_option linter.unusedSimpArgs false
namespace Go.Proofs.Ytmecnecfkgneoaa
open Go Go.Proofs Go.Sep
theorem szCE_ok (a : List ConflictEdge) {left : Int} (h0 : 0 ≤ left) (h1 : left ≤ 1048576) (hl : a.length ≤ 9223372036854775807) : Ok (m_laws_szConflictEdgeS a left) fun r => r < 0 ∨ (0 ≤ r ∧ r + a.length = left) := by
 unfold m_laws_szConflictEdgeS
 rw [w64_id (by omega)]
 exact .cond (fun h => .ret (by omega)) fun h => .ret (by have := of_decide_eq_false h; omega)
theorem toCE_eq (a : List ConflictEdge) (hl : a.length ≤ 1048576) : m_laws_toConflictEdgeS a = some a := by
 unfold m_laws_toConflictEdgeS m_laws_toConflictEdge
 rw [mk_ok (by omega) (by omega), Option.bind_some, forS_fill (fun x => x) (by simp) fun n x zs hx hz => ?_]
 ·simp
 ·have hn : n < zs.length := by have := (List.getElem?_eq_some_iff.1 hx).1; omega
  rw [Option.bind_some, getI_lt hn]; simp
theorem eqCE_self (a : List ConflictEdge) : m_laws_eqConflictEdgeS a a = some true := by
 unfold m_laws_eqConflictEdgeS m_laws_eqConflictEdge
 refine Ok.to (.cf (by simp) (.allL (fun _ => True) false (fun n x hx _ => .get rfl (List.getElem?_eq_some_iff.1 hx).1 ?_) (fun _ => .ret rfl) (fun ⟨j, _, h⟩ => (h trivial).elim)))
 have := (List.getElem?_eq_some_iff.1 hx).2
 rw [this]
 exact .bind (P := fun b => b = true) (.cf (by simp) (.cf (by simp) (.ret rfl))) fun b hb => .cf (by rw [hb]; rfl) (.next trivial)
theorem markCE_ok (a : List ConflictEdge) (hl : a.length ≤ 1048576) {k : Int} (h0 : 0 ≤ k) (h1 : k ≤ 4294967296) : Ok (m_laws_markConflictEdgeS a k) fun r => 0 ≤ r.1 ∧ r.1 ≤ k + 2 * a.length := by
 unfold m_laws_markConflictEdgeS
 refine .forM (fun n s => s.2 = k + 2 * n ∧ s.1.length = a.length) ⟨by simp, rfl⟩ (fun n s hn hI => ?_) (fun s hI => ?_)
 ·obtain ⟨xs, c⟩ := s
  simp only at hI ⊢
  refine .get rfl (by omega) (.get rfl (by simp; omega) (.ret ⟨?_, by simp; omega⟩))
  simp only
  rw [w64_id (x := c + 1) (by omega), w64_id (by omega)]
  omega
 ·obtain ⟨xs, c⟩ := s
  simp only at hI ⊢
  exact .ret ⟨by simp only; omega, by simp only; omega⟩
theorem w64_pred {b : Int} (h : -9223372036854775808 ≤ b ∧ b ≤ 9223372036854775807) : (b = -9223372036854775808 ∧ w64 (b - 1) = 9223372036854775807) ∨ (-9223372036854775808 < b ∧ w64 (b - 1) = b - 1) := wrap_pred h
theorem VE_no {n : Int} {es : List (Int × Int)} (h : ¬ (0 ≤ n ∧ n ≤ 14)) : ¬ VE n es := fun hv => h hv.1
theorem spec_AreValidEdges_gen {n : Int} (hn : -9223372036854775808 ≤ n ∧ n ≤ 9223372036854775807) {es : List ConflictEdge} (he : ∀ e ∈ es, RdConflictEdge e) : Ok (m_spec_AreValidEdges n es) fun b => (b = true ↔ VE n (Ee es)) := by
 by_cases h14 : 0 ≤ n ∧ n ≤ 14
 ·unfold m_spec_AreValidEdges m_spec_l1In
  refine .allL (OkE n (Ee es)) false (fun i x hx _ => .test ?_) (fun h => .eq rfl (.ret ?_)) (fun ⟨j, hj, h⟩ => .ret ?_)
  ·have hb := he x (List.mem_of_getElem? hx)
   have hp := w64_pred hb.2
   rw [OkE_at hx, w64_id (x := n - 1) (by omega)]
   generalize w64 (x.b - 1) = w at hp
   refine .eq rfl (.cond (fun h => .ret ?_) fun h => .eq rfl (.cond (fun h2 => .ret ?_) fun h2 => ?_))
   ·simp only [Bool.not_eq_true', Bool.and_eq_false_iff, decide_eq_false_iff_not] at h
    simp only [true_iff]
    omega
   ·simp only [Bool.not_eq_true', Bool.and_eq_false_iff, decide_eq_false_iff_not] at h2
    simp only [true_iff]
    omega
   ·simp only [Bool.not_eq_false', Bool.and_eq_true, decide_eq_true_eq] at h h2
    refine edge_prev hx (A := 0 ≤ x.a ∧ x.a < x.b ∧ x.b < n) (by omega) fun v => .cond (fun h3 => .ret ?_) fun h3 => .cond (fun h4 => .ret ?_) fun h4 => .ret ?_
    ·have := of_decide_eq_true h3
     simp only [true_iff]; omega
    ·have := of_decide_eq_true h4
     simp only [decide_eq_true_eq]; omega
    ·have := of_decide_eq_false h3
     have := of_decide_eq_false h4
     simp only [Bool.false_eq_true, false_iff]; omega
  ·have e : (decide (0 ≤ n) && decide (n ≤ 14)) = true := by simp [h14]
   rw [e]
   exact ⟨fun _ => ⟨h14, fun j hj => h j (by rwa [Ee_len] at hj)⟩, fun _ => rfl⟩
  ·simp only [Bool.false_eq_true, false_iff]
   exact fun hv => h (hv.2 j (by rw [Ee_len]; exact hj))
 ·refine Ok.mono (P := fun b => b = false) ?_ fun b hb => by subst hb; simp only [Bool.false_eq_true, false_iff]; exact VE_no h14
  unfold m_spec_AreValidEdges m_spec_l1In
  refine .forL (fun _ _ => True) (fun _ => False) (fun r => r = false) trivial (fun i x s hx _ => ?_) (fun s _ => .eq rfl (.ret ?_)) (fun r hr => .ret hr)
  ·refine .bind (P := fun _ => True) (.eq rfl (.cond (fun _ => .ret trivial) fun _ => .eq rfl (.cond (fun _ => .ret trivial) fun _ => ?_))) fun t _ => .cond (fun _ => .out rfl) fun _ => .next trivial
   have hi := (List.getElem?_eq_some_iff.1 hx).1
   refine .cond (fun h => ?_) fun _ => .ret trivial
   have h0 : 0 < i := by have := of_decide_eq_true h; omega
   exact .get (n := i - 1) (by omega) (by omega) (.cond (fun _ => .ret trivial) fun _ => .cond (fun _ => .ret trivial) fun _ => .ret trivial)
  ·simp only [Bool.and_eq_false_iff, decide_eq_false_iff_not]; omega
theorem impl_AreValidEdges_gen {n : Int} {es : List ConflictEdge} : Ok (m_impl_AreValidEdges n es) fun b => (b = true ↔ VE n (Ee es)) := by
 unfold m_impl_AreValidEdges m_impl_within
 refine .eq rfl (.cond (fun h => .ret ?_) fun h => ?_)
 ·simp only [Bool.false_eq_true, false_iff]
  refine VE_no fun hh => ?_
  simp only [Bool.not_eq_true', Bool.and_eq_false_iff, decide_eq_false_iff_not] at h
  omega
 ·have h14 : 0 ≤ n ∧ n ≤ 14 := by simpa using h
  refine .allL (OkE n (Ee es)) false (fun i x hx _ => .test ?_) (fun h => .ret ?_) (fun ⟨j, hj, h⟩ => .ret ?_)
  ·rw [OkE_at hx]
   refine .cond (fun h => .ret ?_) fun h => .cond (fun h2 => .ret ?_) fun h2 => .cond (fun h3 => .ret ?_) fun h3 => ?_
   ·have := of_decide_eq_true h
    simp only [true_iff]; omega
   ·have := of_decide_eq_true h2
    simp only [true_iff]; omega
   ·have := of_decide_eq_true h3
    simp only [true_iff]; omega
   ·have := of_decide_eq_false h
    have := of_decide_eq_false h2
    have := of_decide_eq_false h3
    refine edge_prev hx (A := 0 ≤ x.a ∧ x.a < x.b ∧ x.b < n) (by omega) fun v => .cond (fun h3 => .ret ?_) fun h3 => .cond (fun h4 => .ret ?_) fun h4 => .ret ?_
    ·have := of_decide_eq_true h3
     simp only [true_iff]; omega
    ·have := of_decide_eq_true h4
     simp only [decide_eq_true_eq]; omega
    ·have := of_decide_eq_false h3
     have := of_decide_eq_false h4
     simp only [Bool.false_eq_true, false_iff]; omega
  ·exact ⟨fun _ => ⟨h14, fun j hj => h j (by rwa [Ee_len] at hj)⟩, fun _ => rfl⟩
  ·simp only [Bool.false_eq_true, false_iff]
   exact fun hv => h (hv.2 j (by rw [Ee_len]; exact hj))
theorem VE_key {n : Int} {es : List (Int × Int)} (h : VE n es) : ∀ j, j < es.length → (j : Int) ≤ 15 * (es.getD j default).1 + (es.getD j default).2
 | 0, hj => by have := (h.2 0 hj).1; omega
 | j + 1, hj => by
  have h1 := VE_key h j (by omega)
  have h2 := (h.2 j (by omega)).1
  have h3 := h.2 (j + 1) hj
  have h4 := h3.2 (by omega)
  have h5 := h.1
  simp only [Nat.add_sub_cancel, lexlt] at h4
  have h6 := h3.1
  omega
theorem VE_RE {n : Int} {es : List ConflictEdge} (h : VE n (Ee es)) : RE es := by
 have h5 := h.1
 have hall : ∀ e ∈ es, -100 ≤ e.a ∧ e.a ≤ 100 ∧ -100 ≤ e.b ∧ e.b ≤ 100 := fun e he => by
  have := h.of_mem (e.a, e.b) (Ee_mem.2 he)
  simp only at this
  omega
 refine ⟨?_, hall⟩
 by_cases h0 : es.length = 0
 ·omega
 have hj : es.length - 1 < (Ee es).length := by rw [Ee_len]; omega
 have h1 := VE_key h _ hj
 have h2 := (h.2 _ hj).1
 omega
end Go.Proofs.Ytmecnecfkgneoaa
set_option linter.unusedVariables false
set_option linter.unusedSimpArgs false
namespace Go.Proofs.Ytmecnecfkgneoaa
open Go Go.Proofs Go.Sep
theorem impl_Valid_gen {u : Nat} (hu : 1048577 < u) {n : Int} {es : List ConflictEdge} (p : List ConflictEdge) : Ok (m_impl_IsValidPreference u n es p) fun b => (b = true ↔ VP n (Ee es) (Ee p)) := by
 by_cases h : VE n (Ee es)
 ·exact impl_IsValidPreference_ok hu h.1 (VE_RE h) p
 ·unfold m_impl_IsValidPreference
  refine .bind impl_AreValidEdges_gen fun b hb => .ct ?_ (.ret ?_)
  ·cases b with
   | false => rfl
   | true => exact (h (hb.1 rfl)).elim
  ·exact ⟨fun e => (by cases e), fun e => (h e.1).elim⟩
theorem spec_Valid_gen {n : Int} (hn : -9223372036854775808 ≤ n ∧ n ≤ 9223372036854775807) {es : List ConflictEdge} (he : ∀ e ∈ es, RdConflictEdge e) (p : List ConflictEdge) : Ok (m_spec_IsValidPreference n es p) fun b => (b = true ↔ VP n (Ee es) (Ee p)) := by
 by_cases h : VE n (Ee es)
 ·exact spec_IsValidPreference_ok h.1 (VE_RE h) p
 ·unfold m_spec_IsValidPreference
  refine .bind (spec_AreValidEdges_gen hn he) fun b hb => .ct ?_ (.ret ?_)
  ·cases b with
   | false => rfl
   | true => exact (h (hb.1 rfl)).elim
  ·exact ⟨fun e => (by cases e), fun e => (h e.1).elim⟩
def rest1 (es : List (Int × Int)) (left : List Int) (v : Int) : List Int := left.filter fun y => decide (y ≠ v) && !adjB es y v
theorem rest1_lt {es : List (Int × Int)} {left : List Int} {v : Int} (h : v ∈ left) : (rest1 es left v).length < left.length := List.length_filter_lt_length_iff_exists.2 ⟨v, h, by simp⟩
theorem uni_perm {l : List Int} (h : l.Nodup) : (uni l).Perm l := (List.perm_ext_iff_of_nodup (uni_nodup l) h).2 (uni_mem l)
theorem selected_eq {n : Int} {es : List ConflictEdge} (hv : VE n (Ee es)) (left : List Int) (v : Int) (hl : left.length ≤ 1048576) : m_impl_selected es left v = some (rest1 (Ee es) left v) := by
 unfold m_impl_selected rest1
 refine filter_run hl fun i y o hy ho => ?_
 refine Ok.to (.bind (P := fun t => t = (decide (y ≠ v) && !adjB (Ee es) y v)) (.cond (fun h => ?_) fun h => .ret (by rw [h]; rfl)) fun t ht => ?_)
 ·have hne : y ≠ v := of_decide_eq_true h
  have ha : adjB (Ee es) y v = (decide ((v, y) ∈ Ee es) || decide ((y, v) ∈ Ee es)) := by
   rw [Bool.eq_iff_iff, adjB_iff hv hne, Bool.or_eq_true, decide_eq_true_eq, decide_eq_true_eq, or_comm]
  have hc : m_impl_inConflict es v y = some (adjB (Ee es) y v) := by
   unfold m_impl_inConflict
   rw [Contains_edge, Contains_edge, ha]
   cases decide ((v, y) ∈ Ee es) <;> rfl
  exact .eq hc (.ret (by rw [h]; rfl))
 ·subst ht
  refine .cond (fun h => .app (by simp; omega) (.ret ?_)) fun h => .ret ?_
  ·rw [if_pos h]
  ·rw [if_neg (by rw [h]; decide)]
end Go.Proofs.Ytmecnecfkgneoaa
set_option linter.unusedVariables false
set_option linter.unusedSimpArgs false
namespace Go.Proofs.Ytmecnecfkgneoaa
open Go Go.Proofs Go.Sep
structure OrdI {α : Type} (c : α → α → Int) : Prop where
  zero : ∀ x y, c x y = 0 ↔ x = y
  anti : ∀ x y, c y x = - c x y
  trans : ∀ x y z, c x y ≤ 0 → c y z ≤ 0 → c x z ≤ 0
  bnd : ∀ x y, -1 ≤ c x y ∧ c x y ≤ 1
section
variable {α : Type} {c : α → α → Int}
theorem OrdI.irr (h : OrdI c) (x : α) : c x x = 0 := (h.zero x x).2 rfl
theorem OrdI.lt_le (h : OrdI c) {x y z : α} (h1 : c x y < 0) (h2 : c y z ≤ 0) : c x z < 0 := by
 have h3 := h.trans x y z (by omega) h2
 rcases Int.lt_or_eq_of_le h3 with h4 | h4
 ·exact h4
 ·have := (h.zero x z).1 h4
  subst this
  have := h.anti x y
  omega
def AscO (c : α → α → Int) (l : List α) : Prop := l.Pairwise fun x y => c x y < 0
theorem AscO.nodup (h : OrdI c) {l : List α} (hl : AscO c l) : l.Nodup := hl.imp fun {x y} k e => by subst e; rw [h.irr] at k; omega
theorem AscO.uniq (h : OrdI c) : ∀ {l m : List α}, AscO c l → AscO c m → (∀ x, x ∈ l ↔ x ∈ m) → l = m
 | [], [], _, _, _ => rfl
 | [], b :: m, _, _, k => by have := (k b).2 (List.mem_cons_self ..); simp at this
 | a :: l, [], _, _, k => by have := (k a).1 (List.mem_cons_self ..); simp at this
 | a :: l, b :: m, hl, hm, k => by
  obtain ⟨h1, h2⟩ := List.pairwise_cons.1 hl
  obtain ⟨h3, h4⟩ := List.pairwise_cons.1 hm
  have hab : a = b := by
   rcases List.mem_cons.1 ((k a).1 (List.mem_cons_self ..)) with e | g1
   ·exact e
   ·rcases List.mem_cons.1 ((k b).2 (List.mem_cons_self ..)) with e | g2
    ·exact e.symm
    ·have := h1 b g2; have := h3 a g1; have := h.anti a b; omega
  subst hab
  congr 1
  refine AscO.uniq h h2 h4 fun x => ⟨fun hx => ?_, fun hx => ?_⟩
  ·rcases List.mem_cons.1 ((k x).1 (List.mem_cons_of_mem _ hx)) with e | g
   ·subst e; have := h1 x hx; rw [h.irr] at this; omega
   ·exact g
  ·rcases List.mem_cons.1 ((k x).2 (List.mem_cons_of_mem _ hx)) with e | g
   ·subst e; have := h3 x hx; rw [h.irr] at this; omega
   ·exact g
theorem cmpO_ok (h : OrdI c) {f : α → α → Option Int} (hf : ∀ x y, f x y = some (c x y)) (l : List α) : CmpOK f l where
 tot := fun x _ y _ => ⟨_, hf x y, by have := h.bnd x y; omega, by have := h.bnd x y; omega⟩
 irr := fun x _ r k => by rw [hf] at k; cases k; rw [h.irr]; omega
 tr := fun x _ y _ z _ r s t h1 h2 h3 h4 h5 => by
  rw [hf] at h1 h2 h3; cases h1; cases h2; cases h3
  exact h.lt_le h4 (by omega)
 ntr := fun x _ y _ z _ r s t h1 h2 h3 h4 h5 => by
  rw [hf] at h1 h2 h3; cases h1; cases h2; cases h3
  have e1 := h.anti x y; have e2 := h.anti y z; have e3 := h.anti x z
  have := h.trans z y x (by omega) (by omega)
  omega
 anti := fun x _ y _ r s h1 h2 h3 h4 => by
  rw [hf] at h1 h2; cases h1; cases h2
  have := h.anti x y
  exact (h.zero x y).1 (by omega)
theorem sortO (h : OrdI c) {f : α → α → Option Int} (hf : ∀ x y, f x y = some (c x y)) (l : List α) (hl : l.length < 4611686018427387904) : ∃ so, sortM f l = some so ∧ so.Perm l ∧ so.Pairwise fun x y => c x y ≤ 0 := by
 have hp : (l.mergeSort fun x y => decide (c x y ≤ 0)).Perm l := List.mergeSort_perm ..
 have hs : (l.mergeSort fun x y => decide (c x y ≤ 0)).Pairwise fun x y => c x y ≤ 0 := by
  have := List.pairwise_mergeSort (le := fun x y => decide (c x y ≤ 0)) (fun a b d h1 h2 => by simp only [decide_eq_true_eq] at h1 h2 ⊢; exact h.trans _ _ _ h1 h2) (fun a b => by have := h.anti a b; simp only [Bool.or_eq_true, decide_eq_true_eq]; omega) l
  simpa using this
 refine ⟨_, sortM_eq hl (cmpO_ok h hf l) ⟨hp, hs.imp fun {x y} k r hr => ?_⟩, hp, hs⟩
 have hr : f y x = some r := hr
 rw [hf] at hr; cases hr
 have := h.anti x y; omega
theorem compG_memO {e : α → α → Bool} (he : ∀ x y, e x y = true ↔ x = y) : ∀ (l : List α) (p x : α), x ∈ compG e p l ∨ x = p ↔ x ∈ l ∨ x = p
 | [], p, x => by simp [compG]
 | y :: l, p, x => by
  have h := compG_memO he l y x
  simp only [compG]
  split
  ·rename_i k
   have k := (he _ _).1 k
   subst k
   simp only [List.mem_cons]
   constructor
   ·intro g; rcases h.1 g with g | g
    ·exact .inl (.inr g)
    ·exact .inr g
   ·intro g; rcases g with (g | g) | g
    ·exact .inr g
    ·exact h.2 (.inl g)
    ·exact .inr g
  ·simp only [List.mem_cons]
   constructor
   ·intro g; rcases g with (g | g) | g
    ·exact .inl (.inl g)
    ·rcases h.1 (.inl g) with k | k
     ·exact .inl (.inr k)
     ·exact .inl (.inl k)
    ·exact .inr g
   ·intro g; rcases g with (g | g) | g
    ·exact .inl (.inl g)
    ·rcases h.2 (.inl g) with k | k
     ·exact .inl (.inr k)
     ·exact .inl (.inl k)
    ·exact .inr g
theorem compG_ascO (h : OrdI c) {e : α → α → Bool} (he : ∀ x y, e x y = true ↔ x = y) : ∀ (l : List α) (p : α), (p :: l).Pairwise (fun x y => c x y ≤ 0) → AscO c (p :: compG e p l)
 | [], p, _ => by simp [compG, AscO]
 | y :: l, p, k => by
  obtain ⟨h1, h2⟩ := List.pairwise_cons.1 k
  have ih := compG_ascO h he l y h2
  simp only [compG]
  split
  ·rename_i g
   have g := (he _ _).1 g
   subst g
   exact ih
  ·rename_i g
   have hy := h1 y (List.mem_cons_self ..)
   have hne : c p y < 0 := by
    have : c y p ≠ 0 := fun k => g ((he _ _).2 ((h.zero _ _).1 k))
    have := h.anti p y; omega
   refine List.pairwise_cons.2 ⟨fun z hz => ?_, ih⟩
   rcases List.mem_cons.1 hz with rfl | hz
   ·exact hne
   ·exact h.lt_le hne (by have := (List.pairwise_cons.1 ih).1 z hz; omega)
theorem compO (h : OrdI c) {f : α → α → Option Bool} {e : α → α → Bool} (hf : ∀ x y, f x y = some (e x y)) (he : ∀ x y, e x y = true ↔ x = y) {l : List α} (hs : l.Pairwise fun x y => c x y ≤ 0) (hl : l.length < 4611686018427387904) : ∃ r, compM f l = some r ∧ AscO c r ∧ ∀ x, x ∈ r ↔ x ∈ l := by
 refine ⟨compF e l, compM_eq (fun x _ y _ => hf x y) hl, ?_⟩
 cases l with
 | nil => exact ⟨.nil, fun x => Iff.rfl⟩
 | cons p l =>
  refine ⟨compG_ascO h he l p hs, fun x => ?_⟩
  have := compG_memO he l p x
  simp only [compF, List.mem_cons]
  rw [or_comm, this, or_comm]
theorem ascO_ins (h : OrdI c) {l : List α} {x : α} {n : Nat} (hl : AscO c l) (hx : x ∉ l) (h1 : ∀ (j : Nat) y, j < n → l[j]? = some y → c y x < 0) (h2 : ∀ y, l[n]? = some y → ¬ c y x < 0) : AscO c (l.take n ++ x :: l.drop n) ∧ ∀ y, y ∈ l.take n ++ x :: l.drop n ↔ y ∈ l ∨ y = x := by
 have hmem : ∀ y, y ∈ l.take n ++ x :: l.drop n ↔ y ∈ l ∨ y = x := fun y => by
  conv => rhs; rw [← List.take_append_drop n l]
  simp only [List.mem_append, List.mem_cons]
  constructor
  ·rintro (h | h | h)
   ·exact .inl (.inl h)
   ·exact .inr h
   ·exact .inl (.inr h)
  ·rintro ((h | h) | h)
   ·exact .inl h
   ·exact .inr (.inr h)
   ·exact .inr (.inl h)
 refine ⟨?_, hmem⟩
 have ha := hl
 unfold AscO at ha
 rw [← List.take_append_drop n l] at ha
 obtain ⟨k1, k2, k3⟩ := List.pairwise_append.1 ha
 have hlow : ∀ y ∈ l.take n, c y x < 0 := fun y hy => by
  obtain ⟨j, hj⟩ := List.getElem?_of_mem hy
  have hjn : j < n := by have := (List.getElem?_eq_some_iff.1 hj).1; simp only [List.length_take] at this; omega
  rw [List.getElem?_take_of_lt hjn] at hj
  exact h1 j y hjn hj
 have hhigh : ∀ y ∈ l.drop n, c x y < 0 := fun y hy => by
  have hnl : n < l.length := by
   rcases Nat.lt_or_ge n l.length with h | h
   ·exact h
   ·rw [List.drop_eq_nil_of_le h] at hy; simp at hy
  have h5 := h2 _ (List.getElem?_eq_getElem hnl)
  have h6 : c l[n] x ≠ 0 := fun k => hx ((h.zero _ _).1 k ▸ List.getElem_mem hnl)
  have h7 : c x l[n] < 0 := by have := h.anti x l[n]; omega
  rw [List.drop_eq_getElem_cons hnl] at hy k2
  rcases List.mem_cons.1 hy with rfl | hy
  ·exact h7
  ·exact h.lt_le h7 (by have := (List.pairwise_cons.1 k2).1 y hy; omega)
 refine List.pairwise_append.2 ⟨k1, List.pairwise_cons.2 ⟨hhigh, k2⟩, fun y hy z hz => ?_⟩
 rcases List.mem_cons.1 hz with rfl | hz
 ·exact hlow y hy
 ·exact k3 y hy z hz
end
theorem cmpL_ord : OrdI cmpL where
 zero := by
  intro a
  induction a with
  | nil => intro b; cases b <;> simp [cmpL]
  | cons x a ih =>
   intro b
   cases b with
   | nil => simp [cmpL]
   | cons y b =>
    have := ih b
    simp only [cmpL, List.cons.injEq]
    split
    ·constructor
     ·intro h; omega
     ·intro h; omega
    ·split
     ·constructor
      ·intro h; omega
      ·intro h; omega
     ·rw [this]
      exact ⟨fun h => ⟨by omega, h⟩, fun h => h.2⟩
 anti := by
  intro a
  induction a with
  | nil => intro b; cases b <;> simp [cmpL]
  | cons x a ih =>
   intro b
   cases b with
   | nil => simp [cmpL]
   | cons y b =>
    have := ih b
    simp only [cmpL]
    split <;> split <;> (try split) <;> (try split) <;> omega
 trans := by
  intro a
  induction a with
  | nil => intro b d _ _; cases d <;> simp [cmpL]
  | cons x a ih =>
   intro b d h1 h2
   cases b with
   | nil => simp [cmpL] at h1
   | cons y b =>
    cases d with
    | nil => simp [cmpL] at h2
    | cons z d =>
     have := ih b d
     simp only [cmpL] at h1 h2 ⊢
     by_cases g1 : x < z
     ·rw [if_pos g1]; omega
     ·rw [if_neg g1]
      by_cases g2 : x < y
      ·by_cases g3 : y < z
       ·omega
       ·rw [if_neg g3] at h2
        by_cases g4 : z < y
        ·rw [if_pos g4] at h2; omega
        ·omega
      ·rw [if_neg g2] at h1
       by_cases g5 : y < x
       ·rw [if_pos g5] at h1; omega
       ·rw [if_neg g5] at h1
        have e : x = y := by omega
        subst e
        rw [if_neg g1] at h2
        by_cases g6 : z < x
        ·rw [if_pos g6] at h2; omega
        ·rw [if_neg g6] at h2 ⊢
         exact this h1 h2
 bnd := by
  intro a
  induction a with
  | nil => intro b; cases b <;> simp [cmpL]
  | cons x a ih =>
   intro b
   cases b with
   | nil => simp [cmpL]
   | cons y b => have := ih b; simp only [cmpL]; split <;> (try split) <;> omega
end Go.Proofs.Ytmecnecfkgneoaa
set_option linter.unusedVariables false
set_option linter.unusedSimpArgs false
namespace Go.Proofs.Ytmecnecfkgneoaa
open Go Go.Proofs Go.Sep
def gall (es p : List (Int × Int)) : Nat → List Int → List (List Int)
 | 0, _ => [[]]
 | k + 1, left => if left = [] then [[]] else (und p left).flatMap fun v => (gall es p k (rest1 es left v)).map (v :: ·)
def fct : Nat → Nat
 | 0 => 1
 | n + 1 => (n + 1) * fct n
theorem fct7 : fct 7 = 5040 := by decide
theorem fct_mono {n m : Nat} (h : n ≤ m) : fct n ≤ fct m := by
 induction m with
 | zero => rw [Nat.le_zero.1 h]; exact Nat.le_refl _
 | succ m ih =>
  rcases Nat.lt_or_eq_of_le h with h | rfl
  ·refine Nat.le_trans (ih (by omega)) ?_
   show fct m ≤ (m + 1) * fct m
   exact Nat.le_mul_of_pos_left _ (Nat.succ_pos _)
  ·exact Nat.le_refl _
theorem flatMap_len {α β : Type} {f : α → List β} {b : Nat} : ∀ {l : List α}, (∀ x ∈ l, (f x).length ≤ b) → (l.flatMap f).length ≤ l.length * b
 | [], _ => by simp
 | x :: l, h => by
  have h1 := h x (List.mem_cons_self ..)
  have h2 := flatMap_len (l := l) fun y hy => h y (List.mem_cons_of_mem _ hy)
  simp only [List.flatMap_cons, List.length_append, List.length_cons, Nat.succ_mul]; omega
theorem und_le {p : List (Int × Int)} {left : List Int} : (und p left).length ≤ left.length := List.length_filter_le _ _
theorem gall_len (es p : List (Int × Int)) : ∀ (k : Nat) (left : List Int), left.length ≤ k → (gall es p k left).length ≤ fct left.length
 | 0, left, h => by rw [List.length_eq_zero_iff.1 (Nat.le_zero.1 h)]; exact Nat.le_refl _
 | k + 1, left, h => by
  unfold gall
  split
  ·rename_i e; subst e; exact Nat.le_refl _
  ·rename_i e
   obtain ⟨m, hm⟩ : ∃ m, left.length = m + 1 := ⟨left.length - 1, by have := List.length_pos_iff.2 e; omega⟩
   have h1 := flatMap_len (f := fun v => (gall es p k (rest1 es left v)).map (v :: ·)) (b := fct m) (l := und p left) fun v hv => by
    have hlt := rest1_lt (es := es) (List.mem_filter.1 hv).1
    rw [List.length_map]
    exact Nat.le_trans (gall_len es p k _ (by omega)) (fct_mono (by omega))
   have h2 : (und p left).length * fct m ≤ (m + 1) * fct m := Nat.mul_le_mul_right _ (by have := und_le (p := p) (left := left); omega)
   rw [hm]
   exact Nat.le_trans h1 h2
theorem gall_prop {n : Int} {es p : List (Int × Int)} : ∀ (k : Nat) (left t : List Int), left.length ≤ k → t ∈ gall es p k left → (∀ x ∈ t, x ∈ left) ∧ t.Nodup ∧ t.length ≤ k ∧ (∀ a ∈ t, ∀ b ∈ t, a ≠ b → adjB es a b = false) ∧ ∀ x ∈ left, x ∈ t ∨ ∃ v ∈ t, adjB es x v = true ∧ ¬ (x, v) ∈ p
 | 0, left, t, hl, ht => by
  have e : left = [] := List.length_eq_zero_iff.1 (Nat.le_zero.1 hl)
  subst e
  unfold gall at ht
  have := List.mem_singleton.1 ht
  subst this
  simp
 | k + 1, left, t, hl, ht => by
  unfold gall at ht
  split at ht
  ·rename_i e
   subst e
   have := List.mem_singleton.1 ht
   subst this
   simp
  ·obtain ⟨v, hv, ht2⟩ := List.mem_flatMap.1 ht
   obtain ⟨t', ht3, e3⟩ := List.mem_map.1 ht2
   subst e3
   clear ht ht2
   have hv2 := List.mem_filter.1 hv
   have hlt := rest1_lt (es := es) hv2.1
   obtain ⟨h1, h2, h3, h4, h5⟩ := gall_prop (n := n) k (rest1 es left v) t' (by omega) ht3
   have far : ∀ y ∈ t', y ≠ v ∧ adjB es y v = false := fun y hy => by
    have := (List.mem_filter.1 (h1 y hy)).2
    simpa using this
   refine ⟨fun x hx => ?_, List.nodup_cons.2 ⟨fun h => (far v h).1 rfl, h2⟩, by simp only [List.length_cons]; omega, fun a ha b hb hne => ?_, fun x hx => ?_⟩
   ·rcases List.mem_cons.1 hx with rfl | hx
    ·exact hv2.1
    ·exact (List.mem_filter.1 (h1 x hx)).1
   ·have comm : ∀ a b, adjB es a b = adjB es b a := fun a b => by
     unfold adjB
     by_cases h1 : a < b
     ·have h2 : ¬ b < a := by omega
      simp only [h1, h2, if_true, if_false]
     ·by_cases h2 : b < a
      ·simp only [h1, h2, if_true, if_false]
      ·have : a = b := by omega
       subst this; rfl
    rcases List.mem_cons.1 ha with e1 | ha1 <;> rcases List.mem_cons.1 hb with e2 | hb1
    ·exact (hne (e1.trans e2.symm)).elim
    ·rw [comm, e1]; exact (far b hb1).2
    ·rw [e2]; exact (far a ha1).2
    ·exact h4 a ha1 b hb1 hne
   ·have hnp : ¬ (x, v) ∈ p := fun h => by
     have h2 := hv2.2
     rw [Bool.not_eq_true', List.any_eq_false] at h2
     exact h2 x hx (decide_eq_true h)
    by_cases e : x = v
    ·exact .inl (by rw [e]; exact List.mem_cons_self ..)
    ·by_cases ha : adjB es x v = true
     ·exact .inr ⟨v, List.mem_cons_self .., ha, hnp⟩
     ·have hr : x ∈ rest1 es left v := List.mem_filter.2 ⟨hx, by simp [e, ha]⟩
      rcases h5 x hr with h | ⟨y, hy, g1, g2⟩
      ·exact .inl (List.mem_cons_of_mem _ h)
      ·exact .inr ⟨y, List.mem_cons_of_mem _ hy, g1, g2⟩
theorem greedy_all {n : Int} {es p : List ConflictEdge} (hv : VP n (Ee es) (Ee p)) : ∀ (k u : Nat) (left chosen : List Int) (out : List (List Int)), left.length ≤ k → k < u → (∀ x ∈ left, 0 ≤ x ∧ x < n) → chosen.length + k ≤ 1048576 → out.length + fct left.length ≤ 1000000 →
  m_impl_greedy_1 u left chosen out p es true = some (out ++ (gall (Ee es) (Ee p) k left).map fun t => uni (chosen ++ t))
 | k, u + 1, left, chosen, out, hk, hu, hin, hc, ho => by
  unfold m_impl_greedy_1
  by_cases h0 : left = []
  ·subst h0
   have hg : gall (Ee es) (Ee p) k [] = [[]] := by cases k <;> simp [gall]
   rw [hg, cond_T' (by simp), union_eq _ _ (by omega) (by simp), Option.bind_some, app_ok (by simp only [List.length_cons, List.length_nil]; omega), Option.bind_some]
   simp
  ·have hpos : 0 < left.length := List.length_pos_iff.2 h0
   obtain ⟨k, rfl⟩ : ∃ i, k = i + 1 := ⟨k - 1, by omega⟩
   obtain ⟨m, hm⟩ : ∃ m, left.length = m + 1 := ⟨left.length - 1, by omega⟩
   rw [cond_F' (by simp; exact h0), impl_undominated_eq p left (by omega), Option.bind_some]
   have hul := und_le (p := Ee p) (left := left)
   have hf : fct left.length = (m + 1) * fct m := by rw [hm]; rfl
   let G : Int → List (List Int) := fun v => (gall (Ee es) (Ee p) k (rest1 (Ee es) left v)).map fun t => uni (chosen ++ v :: t)
   have hG : ∀ v ∈ und (Ee p) left, (G v).length ≤ fct m ∧ (rest1 (Ee es) left v).length ≤ m := fun v hvu => by
    have hlt := rest1_lt (es := Ee es) (List.mem_filter.1 hvu).1
    refine ⟨?_, by omega⟩
    rw [List.length_map]
    exact Nat.le_trans (gall_len _ _ k _ (by omega)) (fct_mono (by omega))
   refine Ok.to (.forL (fun j box => box = out ++ ((und (Ee p) left).take j).flatMap G) (fun _ => False) (fun _ => False) (by simp) (fun j v box hx hI => ?_) (fun box hI => .ret ?_) (fun _ h => h.elim))
   ·have hvu := List.mem_of_getElem? hx
    have hj := (List.getElem?_eq_some_iff.1 hx).1
    have hvl := (List.mem_filter.1 hvu).1
    obtain ⟨_, g2⟩ := hG v hvu
    have hfm := fct_mono g2
    have hbl : box.length ≤ out.length + j * fct m := by
     rw [hI, List.length_append]
     have := flatMap_len (f := G) (b := fct m) (l := (und (Ee p) left).take j) fun y hy => (hG y (List.mem_of_mem_take hy)).1
     rw [List.length_take] at this
     have h2 : min j (und (Ee p) left).length * fct m ≤ j * fct m := Nat.mul_le_mul_right _ (Nat.min_le_left _ _)
     omega
    have hjm : (j + 1) * fct m ≤ (m + 1) * fct m := Nat.mul_le_mul_right _ (by omega)
    rw [Nat.succ_mul] at hjm
    have ih := greedy_all hv k u (rest1 (Ee es) left v) (chosen ++ [v]) box (by omega) (by omega) (fun x hx => hin x (List.mem_filter.1 hx).1) (by simp only [List.length_append, List.length_cons, List.length_nil]; omega) (by omega)
    refine .eq (selected_eq hv.1 left v (by omega)) (.eq (clone_eq chosen (by omega)) (.app (by simp only [List.length_cons, List.length_nil]; omega) (.eq ih (.cf rfl (.next ?_)))))
    rw [hI, List.take_add_one, hx, Option.toList_some, List.flatMap_append, List.append_assoc]
    simp [G]
   ·have hI := hI.resolve_right id
    rw [hI, List.take_length]
    unfold gall
    rw [if_neg h0, List.map_flatMap]
    simp only [List.map_map]
    rfl
def addU (K : List (List Int)) (x : List Int) : List (List Int) := if x ∈ K then K else K ++ [x]
theorem addU_mem : ∀ (l K : List (List Int)) (x : List Int), x ∈ l.foldl addU K ↔ x ∈ K ∨ x ∈ l
 | [], K, x => by simp
 | y :: l, K, x => by
  simp only [List.foldl_cons]
  rw [addU_mem l (addU K y) x]
  unfold addU
  split
  ·rename_i h
   simp only [List.mem_cons]
   exact ⟨fun g => g.elim .inl fun g => .inr (.inr g), fun g => g.elim .inl fun g => g.elim (fun e => .inl (e ▸ h)) .inr⟩
  ·simp only [List.mem_append, List.mem_cons, List.not_mem_nil, or_false, or_assoc]
theorem addU_nodup : ∀ (l K : List (List Int)), K.Nodup → (l.foldl addU K).Nodup
 | [], K, h => h
 | y :: l, K, h => by
  simp only [List.foldl_cons]
  refine addU_nodup l _ ?_
  unfold addU
  split
  ·exact h
  ·rename_i hy
   exact List.nodup_append.2 ⟨h, by simp, fun a ha b hb e => by simp at hb; subst hb; subst e; exact hy ha⟩
theorem addU_len : ∀ (l K : List (List Int)), (l.foldl addU K).length ≤ K.length + l.length
 | [], K => by simp
 | y :: l, K => by
  simp only [List.foldl_cons, List.length_cons]
  have h1 := addU_len l (addU K y)
  have h2 : (addU K y).length ≤ K.length + 1 := by unfold addU; split <;> simp
  omega
theorem walk_all {n : Int} {es p : List ConflictEdge} (hv : VP n (Ee es) (Ee p)) : ∀ (k u : Nat) (left s : List Int) (K : List (List Int)), left.length ≤ k → k + 1048578 < u → AscB n left → s.Nodup → (∀ x ∈ s, x ∉ left) → s.length + k ≤ 1000 → K.length + fct left.length ≤ 1000000 → (∀ x ∈ K, x.length ≤ 1000) →
  m_spec_l28Walk u n es p left s K = some (((gall (Ee es) (Ee p) k left).map fun t => uni (s ++ t)).foldl addU K)
 | k, u + 1, left, s, K, hk, hu, hasc, hsn, hsd, hsl, hK, hKl => by
  have hn14 := hv.1.1
  have hre := VE_RE hv.1
  unfold m_spec_l28Walk
  by_cases h0 : left = []
  ·subst h0
   have hg : gall (Ee es) (Ee p) k [] = [[]] := by cases k <;> simp [gall]
   rw [hg, cond_T' (by simp)]
   simp only [List.map_cons, List.map_nil, List.append_nil, List.foldl_cons, List.foldl_nil]
   have hfct : fct ([] : List Int).length = 1 := rfl
   have hxl := uni_le s
   refine Ok.to (.eq (l7Sorted_eq (by omega) (by omega) (uni_asc _) (uni_perm hsn)) ?_)
   refine .forL (fun j _ => ∀ (i : Nat) y, i < j → K[i]? = some y → y ≠ uni s) (fun _ => False) (fun r => r = K ∧ uni s ∈ K) (fun i y h => by omega) (fun j y _ hx hI => ?_) (fun _ hI => ?_) (fun r hr => .ret ?_)
   ·have hyl := hKl y (List.mem_of_getElem? hx)
    refine .eq (l3Ints_cmp y (uni s) u (by omega) (by omega) (by omega)) (.cond (fun h => .out ⟨rfl, ?_⟩) fun h => .next fun i z hi hz => ?_)
    ·have := (cmpL_ord.zero _ _).1 (of_decide_eq_true h)
     rw [← this]; exact List.mem_of_getElem? hx
    ·rcases Nat.lt_succ_iff_lt_or_eq.1 hi with g | rfl
     ·exact hI i z g hz
     ·rw [hx] at hz; cases hz
      exact fun e => of_decide_eq_false h ((cmpL_ord.zero _ _).2 e)
   ·have hI := hI.resolve_right id
    have hnot : uni s ∉ K := fun hm => by
     obtain ⟨i, hi⟩ := List.getElem?_of_mem hm
     exact hI i _ (List.getElem?_eq_some_iff.1 hi).1 hi rfl
    refine .app (by simp only [List.length_cons, List.length_nil]; omega) (.ret ?_)
    unfold addU; rw [if_neg hnot]
   ·rw [hr.1]; unfold addU; rw [if_pos hr.2]
  ·have hpos : 0 < left.length := List.length_pos_iff.2 h0
   obtain ⟨k, rfl⟩ : ∃ i, k = i + 1 := ⟨k - 1, by omega⟩
   obtain ⟨m, hm⟩ : ∃ m, left.length = m + 1 := ⟨left.length - 1, by omega⟩
   have hU : undF n es p left = und (Ee p) left := by
    unfold undF
    rw [tr_true hv, tr_true hasc]; rfl
   rw [cond_F' (by simp; exact h0), spec_UndominatedFacts_eq hn14 hre p (by omega), hU, Option.bind_some]
   have hul := und_le (p := Ee p) (left := left)
   have hf : fct left.length = (m + 1) * fct m := by rw [hm]; rfl
   let G : Int → List (List Int) := fun v => (gall (Ee es) (Ee p) k (rest1 (Ee es) left v)).map fun t => uni (s ++ v :: t)
   have hG : ∀ v ∈ und (Ee p) left, (G v).length ≤ fct m ∧ (rest1 (Ee es) left v).length ≤ m ∧ ∀ x ∈ G v, x.length ≤ 1000 := fun v hvu => by
    have hlt := rest1_lt (es := Ee es) (List.mem_filter.1 hvu).1
    refine ⟨?_, by omega, fun x hx => ?_⟩
    ·rw [List.length_map]
     exact Nat.le_trans (gall_len _ _ k _ (by omega)) (fct_mono (by omega))
    ·obtain ⟨t, ht, rfl⟩ := List.mem_map.1 hx
     have h1 := uni_le (s ++ v :: t)
     have h2 := (gall_prop (n := n) k _ t (by omega) ht).2.2.1
     simp only [List.length_append, List.length_cons] at h1
     omega
   refine Ok.to (.forS (fun j Q => Q = (((und (Ee p) left).take j).flatMap G).foldl addU K) (by simp) (fun j v Q hx hI => ?_) fun Q hI => .ret ?_)
   ·have hvu := List.mem_of_getElem? hx
    have hj := (List.getElem?_eq_some_iff.1 hx).1
    have hvl := (List.mem_filter.1 hvu).1
    obtain ⟨_, g2, _⟩ := hG v hvu
    have hfm := fct_mono g2
    have hQl : Q.length ≤ K.length + j * fct m := by
     rw [hI]
     have h1 := addU_len (((und (Ee p) left).take j).flatMap G) K
     have h2 := flatMap_len (f := G) (b := fct m) (l := (und (Ee p) left).take j) fun y hy => (hG y (List.mem_of_mem_take hy)).1
     rw [List.length_take] at h2
     have h3 : min j (und (Ee p) left).length * fct m ≤ j * fct m := Nat.mul_le_mul_right _ (Nat.min_le_left _ _)
     omega
    have hjm : (j + 1) * fct m ≤ (m + 1) * fct m := Nat.mul_le_mul_right _ (by omega)
    rw [Nat.succ_mul] at hjm
    have hQm : ∀ x ∈ Q, x.length ≤ 1000 := fun x hxq => by
     rw [hI, addU_mem] at hxq
     rcases hxq with h | h
     ·exact hKl x h
     ·obtain ⟨y, hy, h⟩ := List.mem_flatMap.1 h
      exact (hG y (List.mem_of_mem_take hy)).2.2 x h
    have ih := walk_all hv k u (rest1 (Ee es) left v) (s ++ [v]) Q (by omega) (by omega) (hasc.filter _) (List.nodup_append.2 ⟨hsn, by simp, fun a ha b hb e => by simp at hb; subst hb; subst e; exact hsd _ ha hvl⟩) (fun x hx hr => by
     have hr := List.mem_filter.1 hr
     rcases List.mem_append.1 hx with h | h
     ·exact hsd x h hr.1
     ·simp at h; subst h; simp at hr) (by simp only [List.length_append, List.length_cons, List.length_nil]; omega) (by omega) hQm
    refine .eq (l28Rest_eq es left v (by omega)) (.app (by simp only [List.length_nil]; omega) (.app (by simp only [List.length_append, List.length_cons, List.length_nil]; omega) (.eq ih (.ret ?_))))
    rw [hI, List.take_add_one, hx, Option.toList_some, List.flatMap_append, List.foldl_append]
    simp [G]
   ·rw [hI, List.take_length]
    unfold gall
    rw [if_neg h0, List.map_flatMap]
    simp only [List.map_map]
    rfl
theorem sizes_le {b : Nat} : ∀ {a : List (List Int)}, (∀ x ∈ a, x.length ≤ b) → (a.map List.length).sum ≤ a.length * b
 | [], _ => by simp
 | x :: a, h => by
  have h1 := h x (List.mem_cons_self ..)
  have h2 := sizes_le (a := a) fun y hy => h y (List.mem_cons_of_mem _ hy)
  simp only [List.map_cons, List.sum_cons, List.length_cons, Nat.succ_mul]; omega
def GR (n : Int) (es p : List ConflictEdge) (w : List (List Int)) : Prop := AscO cmpL w ∧ ∀ y, y ∈ w ↔ ∃ t ∈ gall (Ee es) (Ee p) n.toNat ((List.range n.toNat).map Int.ofNat), y = uni t
theorem GR.small {n : Int} {es p : List ConflictEdge} {w : List (List Int)} (h : GR n es p w) (hn : n ≤ 7) : w.length ≤ 5040 ∧ ∀ x ∈ w, x.length ≤ 7 := by
 obtain ⟨N, hN⟩ : ∃ N, N = n.toNat := ⟨_, rfl⟩
 unfold GR at h
 rw [← hN] at h
 have hN7 : N ≤ 7 := by omega
 have hll : ((List.range N).map Int.ofNat).length = N := by simp
 constructor
 ·have h1 : w.length ≤ ((gall (Ee es) (Ee p) N ((List.range N).map Int.ofNat)).map uni).length := List.Nodup.length_le_of_subset (h.1.nodup cmpL_ord) fun y hy => by
   obtain ⟨t, ht, rfl⟩ := (h.2 y).1 hy
   exact List.mem_map_of_mem ht
  have h2 := gall_len (Ee es) (Ee p) N ((List.range N).map Int.ofNat) (by omega)
  have h3 := fct_mono (n := ((List.range N).map Int.ofNat).length) (m := 7) (by omega)
  rw [List.length_map] at h1
  rw [fct7] at h3
  omega
 ·intro x hx
  obtain ⟨t, ht, rfl⟩ := (h.2 x).1 hx
  have h1 := uni_le t
  have h2 := (gall_prop (n := n) N _ t (by omega) ht).2.2.1
  omega
theorem GR.uniq {n : Int} {es p : List ConflictEdge} {w w' : List (List Int)} (h : GR n es p w) (h' : GR n es p w') : w = w' := AscO.uniq cmpL_ord h.1 h'.1 fun x => (h.2 x).trans (h'.2 x).symm
theorem impl_GR {u : Nat} (hu : 1048577 < u) {n : Int} {es : List ConflictEdge} (p : List ConflictEdge) : Ok (m_impl_GreedyRepairs u n es p) fun r => (VP n (Ee es) (Ee p) ∧ n ≤ 7 → GR n es p r) ∧ (¬ (VP n (Ee es) (Ee p) ∧ n ≤ 7) → r = []) := by
 unfold m_impl_GreedyRepairs
 refine .bind (P := fun t => (t = true ↔ ¬ (VP n (Ee es) (Ee p) ∧ n ≤ 7))) (.bind (impl_Valid_gen hu p) fun b hb => .cond (fun h => .ret ⟨fun _ hv => ?_, fun _ => rfl⟩) fun h => .ret ?_) fun t ht => ?_
 ·rw [hb.2 hv.1] at h; cases h
 ·have hbt : b = true := by simpa using h
  have hv := hb.1 hbt
  rw [decide_eq_true_eq]
  exact ⟨fun h1 h2 => by omega, fun h1 => Classical.byContradiction fun h2 => h1 ⟨hv, by omega⟩⟩
 refine .cond (fun h => .ret ⟨fun hv => (ht.1 h hv).elim, fun _ => rfl⟩) fun h => ?_
 obtain ⟨hv, hn7⟩ : VP n (Ee es) (Ee p) ∧ n ≤ 7 := Classical.byContradiction fun k => by rw [ht.2 k] at h; cases h
 obtain ⟨N, rfl⟩ := Int.eq_ofNat_of_zero_le hv.1.1.1
 have hN : N ≤ 7 := by omega
 have hll : ((List.range N).map Int.ofNat).length = N := by simp
 unfold m_impl_greedy
 have hf7 : fct N ≤ 5040 := by have := fct_mono (n := N) (m := 7) hN; rwa [fct7] at this
 have hg := greedy_all hv N u ((List.range N).map Int.ofNat) [] [] (by omega) (by omega) (fun x hx => by have := range_in hx; omega) (by simp only [List.length_nil]; omega) (by rw [hll]; simp only [List.length_nil]; omega)
 simp only [List.nil_append] at hg
 have hgl := gall_len (Ee es) (Ee p) N ((List.range N).map Int.ofNat) (by omega)
 rw [hll] at hgl
 obtain ⟨so, s1, s2, s3⟩ := sortO cmpL_ord (f := fun x y => m_slices_Compare_Sint_int x y) slices_Compare_eq ((gall (Ee es) (Ee p) N ((List.range N).map Int.ofNat)).map fun t => uni t) (by rw [List.length_map]; omega)
 obtain ⟨r, r1, r2, r3⟩ := compO cmpL_ord (f := fun x y => m_slices_Equal_Sint_int x y) (e := fun x y => decide (x = y)) Equal_ints (fun x y => by simp) s3 (by rw [s2.length_eq, List.length_map]; omega)
 refine .bind (P := fun r => GR (N : Int) es p r) (.gN (by omega) (.forM (fun i s => s = (List.range i).map Int.ofNat) rfl (fun i s hi hI => ?_) fun s hI => ?_)) fun r hr => .ret ⟨fun _ => hr, fun k => (k ⟨hv, hn7⟩).elim⟩
 ·subst hI
  refine .app (by simp; omega) (.ret ?_)
  rw [List.range_succ, List.map_append]; rfl
 ·subst hI
  refine .eq hg (.eq s1 (.eq r1 (.ret ⟨r2, fun y => ?_⟩)))
  rw [r3, s2.mem_iff, Int.toNat_natCast, List.mem_map]
  exact ⟨fun ⟨t, h1, h2⟩ => ⟨t, h1, h2.symm⟩, fun ⟨t, h1, h2⟩ => ⟨t, h1, h2.symm⟩⟩
theorem spec_GR {u : Nat} (hu : 1048590 < u) {n : Int} (hn : -9223372036854775808 ≤ n ∧ n ≤ 9223372036854775807) {es : List ConflictEdge} (he : ∀ e ∈ es, RdConflictEdge e) (p : List ConflictEdge) : Ok (m_spec_GreedyRepairs u n es p) fun r => (VP n (Ee es) (Ee p) ∧ n ≤ 7 → GR n es p r) ∧ (¬ (VP n (Ee es) (Ee p) ∧ n ≤ 7) → r = []) := by
 unfold m_spec_GreedyRepairs
 refine .bind (P := fun t => (t = true ↔ ¬ (VP n (Ee es) (Ee p) ∧ n ≤ 7))) (.bind (spec_Valid_gen hn he p) fun b hb => .cond (fun h => .ret ⟨fun _ hv => ?_, fun _ => rfl⟩) fun h => .ret ?_) fun t ht => ?_
 ·rw [hb.2 hv.1] at h; cases h
 ·have hbt : b = true := by simpa using h
  have hv := hb.1 hbt
  rw [decide_eq_true_eq]
  exact ⟨fun h1 h2 => by omega, fun h1 => Classical.byContradiction fun h2 => h1 ⟨hv, by omega⟩⟩
 refine .cond (fun h => .ret ⟨fun hv => (ht.1 h hv).elim, fun _ => rfl⟩) fun h => ?_
 obtain ⟨hv, hn7⟩ : VP n (Ee es) (Ee p) ∧ n ≤ 7 := Classical.byContradiction fun k => by rw [ht.2 k] at h; cases h
 obtain ⟨N, rfl⟩ := Int.eq_ofNat_of_zero_le hv.1.1.1
 have hN : N ≤ 7 := by omega
 have hll : ((List.range N).map Int.ofNat).length = N := by simp
 have hf7 : fct N ≤ 5040 := by have := fct_mono (n := N) (m := 7) hN; rwa [fct7] at this
 have hw := walk_all hv N u ((List.range N).map Int.ofNat) [] [] (by omega) (by omega) (AscB_range N) (by simp) (by simp) (by simp only [List.length_nil]; omega) (by rw [hll]; simp only [List.length_nil]; omega) (by simp)
 simp only [List.nil_append] at hw
 have hgl := gall_len (Ee es) (Ee p) N ((List.range N).map Int.ofNat) (by omega)
 rw [hll] at hgl
 have hmem : ∀ y, y ∈ ((gall (Ee es) (Ee p) N ((List.range N).map Int.ofNat)).map fun t => uni t).foldl addU [] ↔ ∃ t ∈ gall (Ee es) (Ee p) N ((List.range N).map Int.ofNat), y = uni t := fun y => by
  rw [addU_mem, List.mem_map]
  exact ⟨fun h => h.elim (fun h => by simp at h) fun ⟨t, h1, h2⟩ => ⟨t, h1, h2.symm⟩, fun ⟨t, h1, h2⟩ => .inr ⟨t, h1, h2.symm⟩⟩
 have hnd := addU_nodup ((gall (Ee es) (Ee p) N ((List.range N).map Int.ofNat)).map fun t => uni t) [] (by simp)
 have hlen := addU_len ((gall (Ee es) (Ee p) N ((List.range N).map Int.ofNat)).map fun t => uni t) []
 rw [List.length_map, List.length_nil] at hlen
 have hsm : ∀ y ∈ ((gall (Ee es) (Ee p) N ((List.range N).map Int.ofNat)).map fun t => uni t).foldl addU [], y.length ≤ 7 := fun y hy => by
  obtain ⟨t, ht, rfl⟩ := (hmem y).1 hy
  have h1 := uni_le t
  have h2 := (gall_prop (n := (N : Int)) N _ t (by omega) ht).2.2.1
  omega
 refine .bind (l28All_ok (by omega) (by omega)) fun l0 hl0 => ?_
 rw [hl0]
 refine .eq hw ?_
 generalize ((gall (Ee es) (Ee p) N ((List.range N).map Int.ofNat)).map fun t => uni t).foldl addU [] = Q at hmem hnd hlen hsm
 refine .forS (fun j out => AscO cmpL out ∧ out.length ≤ j ∧ ∀ y, y ∈ out ↔ y ∈ Q.take j) ⟨.nil, by simp, by simp⟩ (fun j x out hx hI => ?_) fun out hI => .ret ⟨fun _ => ⟨hI.1, fun y => ?_⟩, fun k => (k ⟨hv, hn7⟩).elim⟩
 ·obtain ⟨i1, i2, i3⟩ := hI
  have hj := (List.getElem?_eq_some_iff.1 hx).1
  have hxl := hsm x (List.mem_of_getElem? hx)
  have hol : ∀ y ∈ out, y.length ≤ 7 := fun y hy => hsm y (List.mem_of_mem_take ((i3 y).1 hy))
  have hnew : x ∉ out := fun hm => by
   have h1 := (i3 x).1 hm
   obtain ⟨i, hi⟩ := List.getElem?_of_mem h1
   have hij : i < j := by have := (List.getElem?_eq_some_iff.1 hi).1; simp only [List.length_take] at this; omega
   rw [List.getElem?_take_of_lt hij] at hi
   obtain ⟨a1, a2⟩ := List.getElem?_eq_some_iff.1 hi
   obtain ⟨b1, b2⟩ := List.getElem?_eq_some_iff.1 hx
   have := (List.getElem_inj hnd).1 (a2.trans b2.symm)
   omega
  refine .while (fun (i : Int) => ∃ m : Nat, i = (m : Int) ∧ m ≤ out.length ∧ ∀ (q : Nat) y, q < m → out[q]? = some y → cmpL y x < 0) (fun i => out.length - i.toNat) (fun (i : Int) => ∃ m : Nat, i = (m : Int) ∧ m ≤ out.length ∧ (∀ (q : Nat) y, q < m → out[q]? = some y → cmpL y x < 0) ∧ ∀ y, out[m]? = some y → ¬ cmpL y x < 0) (fun _ => False) (by omega) ⟨0, rfl, by omega, fun q y hq => by omega⟩ (fun i ⟨m, h1, h2, h3⟩ => ?_) (fun i ⟨m, h1, h2, h3, h4⟩ => ?_) (fun _ h => h.elim)
  ·subst h1
   by_cases hlt : m < out.length
   ·have hv7 := hol _ (List.getElem_mem hlt)
    by_cases hc : cmpL out[m] x < 0
    ·refine .bind (P := fun t => t = true) (.ct (decide_eq_true (by omega)) (.get rfl hlt (.eq (l3Ints_cmp _ x u (by omega) (by omega) (by omega)) (.ret (decide_eq_true hc))))) fun t ht => .ct ht (.next ⟨⟨m + 1, by rw [w64_id (by omega)]; simp, hlt, fun q y hq hy => ?_⟩, by rw [w64_id (by omega)]; omega⟩)
     rcases Nat.lt_succ_iff_lt_or_eq.1 hq with g | rfl
     ·exact h3 q y g hy
     ·rw [List.getElem?_eq_getElem hlt] at hy; cases hy; exact hc
    ·refine .bind (P := fun t => t = false) (.ct (decide_eq_true (by omega)) (.get rfl hlt (.eq (l3Ints_cmp _ x u (by omega) (by omega) (by omega)) (.ret (decide_eq_false hc))))) fun t ht => .cf ht (.brk ⟨m, rfl, h2, h3, fun y hy => ?_⟩)
     rw [List.getElem?_eq_getElem hlt] at hy; cases hy; exact hc
   ·refine .bind (P := fun t => t = false) (.cf (decide_eq_false (by omega)) (.ret rfl)) fun t ht => .cf ht (.brk ⟨m, rfl, h2, h3, fun y hy => ?_⟩)
    rw [List.getElem?_eq_none (by omega)] at hy; cases hy
  ·subst h1
   refine .cut (i := m) (j := out.length) rfl rfl h2 (Nat.le_refl _) (.app (by simp; omega) (.cut (i := 0) (j := m) rfl rfl (by omega) h2 (.app (by simp; omega) (.app (by simp; omega) (.ret ?_)))))
   have e : [] ++ (out.take m).drop 0 ++ ([x] ++ (out.take out.length).drop m) = out.take m ++ x :: out.drop m := by simp
   rw [e]
   obtain ⟨g1, g2⟩ := ascO_ins cmpL_ord i1 hnew h3 h4
   refine ⟨g1, by simp; omega, fun y => ?_⟩
   rw [g2, i3, List.take_add_one, hx]
   simp
 ·rw [hI.2.2, List.take_length, hmem, Int.toNat_natCast]
theorem greps_both {u : Nat} (hu : 1048590 < u) {n : Int} (hn : -9223372036854775808 ≤ n ∧ n ≤ 9223372036854775807) {es : List ConflictEdge} (he : ∀ e ∈ es, RdConflictEdge e) (p : List ConflictEdge) : ∃ w, m_impl_GreedyRepairs u n es p = some w ∧ m_spec_GreedyRepairs u n es p = some w ∧ w.length ≤ 5040 ∧ (w.map List.length).sum ≤ 35280 ∧ (VP n (Ee es) (Ee p) ∧ n ≤ 7 → GR n es p w) ∧ (¬ (VP n (Ee es) (Ee p) ∧ n ≤ 7) → w = []) := by
 obtain ⟨w, h1, h2, h3⟩ := impl_GR (u := u) (by omega) (n := n) (es := es) p
 obtain ⟨w', h1', h2', h3'⟩ := spec_GR hu hn he p
 by_cases hv : VP n (Ee es) (Ee p) ∧ n ≤ 7
 ·have e := (h2 hv).uniq (h2' hv)
  subst e
  obtain ⟨g1, g2⟩ := (h2 hv).small hv.2
  have := sizes_le g2
  exact ⟨w, h1, h1', g1, by omega, h2, h3⟩
 ·have e := h3 hv
  have e' := h3' hv
  subst e e'
  exact ⟨[], h1, h1', by simp, by simp, h2, h3⟩
end Go.Proofs.Ytmecnecfkgneoaa
set_option linter.unusedVariables false
set_option linter.unusedSimpArgs false
namespace Go.Proofs.Ytmecnecfkgneoaa
open Go Go.Proofs Go.Sep
theorem law_GreedyRepairs (n : Int) (es p : List ConflictEdge) (hn : -9223372036854775808 ≤ n ∧ n ≤ 9223372036854775807) (he : es.length ≤ 9223372036854775807 ∧ ∀ e ∈ es, RdConflictEdge e) (hp : p.length ≤ 9223372036854775807) : m_laws_FnExactGreedyRepairs 1048600 n es p = some true := by
 unfold m_laws_FnExactGreedyRepairs
 refine Ok.to (.bind (szCE_ok es (by omega) (by omega) he.1) fun r1 h1 => .cond (fun _ => .ret rfl) fun h2 => .bind (szCE_ok p (left := r1) (by have := of_decide_eq_false h2; omega) (by have := of_decide_eq_false h2; omega) hp) fun r4 h4 => .cond (fun _ => .ret rfl) fun h5 => ?_)
 have h2 := of_decide_eq_false h2
 have h5 := of_decide_eq_false h5
 have te := toCE_eq es (by omega)
 have tp := toCE_eq p (by omega)
 obtain ⟨w, hi, hs, _, hz, _⟩ := greps_both (u := 1048600) (by omega) hn he.2 p
 have hz : sizes w ≤ 35280 := hz
 refine .eq te (.eq tp (.eq hs (.eq te (.eq tp (.eq hi (.eq (eqIntSS_eq w w) (.cf (by simp) (.eq te (.eq (eqCE_self es) (.cf (by simp) (.eq tp (.eq (eqCE_self p) (.cf (by simp) ?_)))))))))))))
 refine .bind (markCE_ok es (by omega) (k := 1) (by omega) (by omega)) fun r32 h32 => .bind (markCE_ok p (by omega) (k := r32.1) (by omega) (by omega)) fun r36 h36 => .bind (P := fun t => t = false) (.cf (by simp; omega) (.eq (eqIntSS_eq w w) (.ret (by simp)))) fun t ht => .cf ht ?_
 refine .eq (markIntSS_eq w 1 (by omega) (by omega)) (.eq (heldIntSS_eq w 1 (by omega) (by omega)) (.cf (by simp; omega) (.cf (by simp) ?_)))
 exact .eq te (.eq tp (.eq hi (.eq (eqIntSS_eq w w) (.cf (by simp) (.eq (heldIntSS_eq w 1 (by omega) (by omega)) (.cf (by simp; omega) (.cf (by simp) (.ret rfl))))))))
end Go.Proofs.Ytmecnecfkgneoaa

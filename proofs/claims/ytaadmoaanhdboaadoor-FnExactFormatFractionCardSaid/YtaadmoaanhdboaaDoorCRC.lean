import Derived.Test.YtaadmoaanhdboaaDoorCRB
import Derived.OrdersHeld
set_option linter.unusedVariables false
set_option linter.unusedSimpArgs false
namespace Go.Sep
open Go
theorem rowAt_growX {σ : Store} {l : Nat} {xs ys : List A} (hr : σ[l]? = some (.box xs)) (hp : ∀ x ∈ ys, x.plain = true) {L zs} (h : rowAt (σ.set l .dead ++ [.box (xs ++ ys)]) L = some zs) :
  (L = [σ.length] ∧ zs = xs ++ ys) ∨ (∃ j q, L = σ.length :: j :: q ∧ rowAt σ (l :: j :: q) = some zs) ∨ (∃ h0 p, L = h0 :: p ∧ h0 ≠ l ∧ h0 ≠ σ.length ∧ rowAt σ L = some zs) := by
 have hl : l < σ.length := (List.getElem?_eq_some_iff.1 hr).1
 cases L with
 | nil => simp [rowAt] at h
 | cons h0 p =>
  simp only [rowAt, grow_get hl] at h
  by_cases e : h0 = l
  ·rw [if_pos e] at h; simp [Root.cells] at h
  ·rw [if_neg e] at h
   by_cases e2 : h0 = σ.length
   ·subst e2
    simp only [if_true, Root.cells] at h
    cases p with
    | nil => simp only [sub, Option.some.injEq] at h; exact .inl ⟨rfl, h.symm⟩
    | cons j q => exact .inr (.inl ⟨j, q, rfl, by simp only [rowAt, hr, Root.cells]; exact sub_app hp h⟩)
   ·rw [if_neg e2] at h
    exact .inr (.inr ⟨h0, p, rfl, e, e2, by simpa only [rowAt] using h⟩)
structure GrowsX (F : Nat → Prop) (Λ : Lbl) (σ : Store) (w w' : World) (l : Nat) (xs ys : List A) (lab : Option (Nat × Nat)) : Prop where
  row : σ[l]? = some (.box xs)
  plain : ∀ x ∈ ys, x.plain = true
  os : w'.os = w.os
  tape : w'.tape = w.tape
  output : w'.output = w.output
  size : w.heap.size ≤ w'.heap.size
  sizes : Sizes w w'
  keep : ∀ b, b < w.heap.size → (∀ o, Λ [l] ≠ some (b, o)) → w'.heap[b]? = w.heap[b]?
  new : (lab = none ∧ xs ++ ys = []) ∨ ∃ b o cs t, lab = some (b, o) ∧ ¬ F b ∧ (w.heap.size ≤ b ∨ Λ [l] = some (b, o)) ∧ w'.heap[b]? = some (.cells cs t (0, 0)) ∧
    ∀ j x, (xs ++ ys)[j]? = some x → ∃ c, cs[o + j]? = some c ∧ Cell F Λ w true [l, j] c x
theorem GrowsX.ext {F Λ σ w w' l xs ys lab} (hs : St F Λ σ w) (h : GrowsX F Λ σ w w' l xs ys lab) : ∀ L b o, Λ L = some (b, o) → apL Λ l σ.length lab L = some (b, o) := fun L b o hL => by
 cases L with
 | nil => exact hL
 | cons h0 p =>
  simp only [apL]
  rw [if_neg ?_]
  ·exact hL
  ·rintro rfl
   rw [hs.lab (σ.length :: p) (by simp)] at hL; cases hL
theorem GrowsX.frozen {F Λ σ w w' l xs ys lab} (hs : St F Λ σ w) (h : GrowsX F Λ σ w w' l xs ys lab) : ∀ b, F b → F b ∧ w'.heap[b]? = w.heap[b]? := fun b hb => ⟨hb, h.keep b (hs.old b hb) fun o hL => hs.notOwn hb ⟨[l], xs, o, by simp only [rowAt, h.row, Root.cells, sub], hL⟩⟩
theorem GrowsX.step {m F Λ σ w w' l xs ys lab} (hm : m ≤ l) (hs : St F Λ σ w) (h : GrowsX F Λ σ w w' l xs ys lab) : Step m F Λ σ w F (apL Λ l σ.length lab) (σ.set l .dead ++ [.box (xs ++ ys)]) w' := by
  have hl : l < σ.length := (List.getElem?_eq_some_iff.1 h.row).1
  have hrow : rowAt σ [l] = some xs := by simp only [rowAt, h.row, Root.cells, sub]
  exact { os := h.os, tape := h.tape, output := h.output, size := h.size, sizes := h.sizes
          keep := fun b hb hno => h.keep b hb fun o ho => hno ⟨[l], xs, o, hrow, ho⟩
          mono := fun _ h => h, new := fun _ h => .inl h
          own := fun b ⟨L, zs, o, h1, h2⟩ => by
            rcases rowAt_growX h.row h.plain h1 with ⟨rfl, rfl⟩ | ⟨j, q, rfl, h3⟩ | ⟨h0, p, rfl, h3, h4, h5⟩
            · have e : apL Λ l σ.length lab [σ.length] = lab := by simp [apL]
              rw [e] at h2
              rcases h.new with ⟨h4, _⟩ | ⟨b', o', cs, t, h4, h5, h6, _⟩
              · rw [h4] at h2; cases h2
              · rw [h4] at h2; cases h2
                rcases h6 with h6 | h6
                · exact .inr h6
                · exact .inl ⟨[l], xs, _, hrow, h6⟩
            · exact .inl ⟨_, zs, o, h3, by simpa [apL] using h2⟩
            · exact .inl ⟨_, zs, o, h5, by simpa [apL, h4] using h2⟩
          len := by simp; omega
          kept := fun L b o _ hL => h.ext hs L b o hL
          boxes := fun a us hlt ha => by
            have e1 : a ≠ l := by omega
            have e2 : a ≠ σ.length := by rintro rfl; simp at ha
            exact ⟨by simp [apL, e2], us, by rw [grow_get hl, if_neg e1, if_neg e2]; exact ha⟩ }
theorem GrowsX.fr {F Λ σ w w' l xs ys lab tmps E} (hs : St F Λ σ w) (h : GrowsX F Λ σ w w' l xs ys lab) (hf : FrOK F Λ w tmps E) : FrOK F (apL Λ l σ.length lab) w' tmps E :=
 (hf.mono (h.frozen hs) h.sizes).ext (h.ext hs)
section
variable {P : Program} {n m : Nat} {N : Env → Store → Prop} {E : Env} {σ : Store} {o : Oper} {ops : Array Oper} {os : List Oper}
end
section
variable {F : Nat → Prop} {Λ : Lbl} {σ : Store} {w : World} {s j l nn k : Nat} {xs ys : List A}
end
section
variable {P : Program} {n m : Nat} {K : Exit → Env → Store → Prop} {N : Env → Store → Prop} {E : Env} {σ : Store} {ops : Array Oper} {os : List Oper} {o : Oper}
end
end Go.Sep
set_option linter.unusedVariables false
set_option linter.unusedSimpArgs false
namespace Go.Sep
open Go
section
variable {P : Program} {n m : Nat} {N : Env → Store → Prop} {E : Env} {σ : Store} {ops : Array Oper} {os : List Oper} {o : Oper}
end
section
variable {P : Program} {n m : Nat} {N : Env → Store → Prop} {E : Env} {σ : Store} {o : Oper}
end
end Go.Sep
set_option linter.unusedVariables false
set_option linter.unusedSimpArgs false
namespace Go.Sep
open Go
def Ghost (m : Nat) (E : Env) (σ : Store) (E' : Env) (σ' : Store) : Prop := ∀ F Λ w tmps, St F Λ σ w → FrOK F Λ w tmps E → ∃ F' Λ', St F' Λ' σ' w ∧ FrOK F' Λ' w tmps E' ∧ Step m F Λ σ w F' Λ' σ' w
theorem Ghost.weak {m E σ E' σ'} (h : WeakL m E σ E' σ') : Ghost m E σ E' σ' := fun F Λ w tmps hs hf => ⟨F, h.go hs hf⟩
theorem Ghost.trans {m E σ E1 σ1 E2 σ2} (h : Ghost m E σ E1 σ1) (h' : Ghost m E1 σ1 E2 σ2) : Ghost m E σ E2 σ2 := fun F Λ w tmps hs hf => by
 obtain ⟨F1, Λ1, h1, h2, h3⟩ := h F Λ w tmps hs hf
 obtain ⟨F2, Λ2, g1, g2, g3⟩ := h' F1 Λ1 w tmps h1 h2
 exact ⟨F2, Λ2, g1, g2, h3.trans g3⟩
theorem Ghost.move {m E σ E' σ'} (l l' : Nat) {zs} (hne : l ≠ l') (hl : l < σ.length) (hr : σ[l']? = some (.row zs)) (hb : noBox σ l = true) (hm : m ≤ l) (h : Ghost m (mvE l l' E) (mvS l l' σ) E' σ') : Ghost m E σ E' σ' :=
 Ghost.trans (fun F Λ w tmps hs hf => ⟨F, _, hs.move hne hl hr, fun t => by rw [lk_mvE]; exact mvA_ok hne (hf t), Step.move hs hne hl hr hb hm⟩) h
def upd (I : Nat → Bool) (i : Nat) : Nat → Bool := fun k => if k = i then true else I k
def depOf (deps : List (List Nat)) (i : Nat) : List Nat := deps.getD i []
section
variable {P : Program} {n m : Nat} {K : Exit → Env → Store → Prop} {N : Env → Store → Prop} {E : Env} {σ : Store} {ops : Array Oper} {os : List Oper} {o : Oper}
def Steps (P : Program) (n m : Nat) (deps : List (List Nat)) (Est : (Nat → Bool) → Env) (Sst : (Nat → Bool) → Store) : List Oper → Nat → Prop
 | [], _ => True
 | o :: os, i => (∀ I : Nat → Bool, I i = false → (∀ j ∈ depOf deps i, I j = true) → (∀ k, I k = true → ∀ j ∈ depOf deps k, I j = true) →
   TOp P n m o (fun E' σ' => Ghost m E' σ' (Est (upd I i)) (Sst (upd I i))) (Est I) (Sst I)) ∧ Steps P n m deps Est Sst os (i + 1)
theorem Steps.get {deps Est Sst} : ∀ {l : List Oper} {k : Nat}, Steps P n m deps Est Sst l k → ∀ i o, l[i]? = some o → ∀ I : Nat → Bool, I (k + i) = false → (∀ j ∈ depOf deps (k + i), I j = true) → (∀ k, I k = true → ∀ j ∈ depOf deps k, I j = true) →
      TOp P n m o (fun E' σ' => Ghost m E' σ' (Est (upd I (k + i))) (Sst (upd I (k + i)))) (Est I) (Sst I)
  | [], _, _, i, o, h => by simp at h
  | o' :: os, k, hs, 0, o, h => by
    simp only [List.getElem?_cons_zero, Option.some.injEq] at h; subst h; exact hs.1
  | o' :: os, k, hs, i + 1, o, h => by
    have := Steps.get hs.2 i o (by simpa using h)
    rw [show k + 1 + i = k + (i + 1) by omega] at this; exact this
def cutI {α : Type} (xs : List α) (a b : Int) : Option (List α) := if 0 ≤ a ∧ a ≤ b ∧ b ≤ xs.length then some ((xs.take b.toNat).drop a.toNat) else none
end
end Go.Sep
set_option linter.unusedVariables false
set_option linter.unusedSimpArgs false
namespace Go.Sep
open Go
section
variable {P : Program} {o : Oper} {E : Env} {σ : Store}
end
def heldC (M : Nat) : A → Bool
 | .o _ _ => false
 | x => !x.names (fun L => decide (M ≤ L.headD 0))
def holdR (M : Nat) : Bool → Root → Root
 | true, .box (x :: xs) => if (x :: xs).all (heldC M) then .box (x :: xs) else .dead
 | _, _ => .dead
def restR (M : Nat) : Bool → Root → Root
 | true, .box (x :: xs) => if (x :: xs).all (heldC M) then .dead else .box (x :: xs)
 | _, r => r
def hold (ks : Nat → Bool) (M : Nat) (σ : Store) : Store := (σ.take M).zipIdx.map fun p => holdR M (ks p.2) p.1
def rest (ks : Nat → Bool) (M : Nat) (σ : Store) : Store := ((σ.take M).zipIdx.map fun p => restR M (ks p.2) p.1) ++ σ.drop M
def Helds (κ : Store) : Prop := ∀ (l : Nat) r, κ[l]? = some r → r = .dead ∨ ∃ xs, r = .box xs ∧ xs ≠ [] ∧ ∀ x ∈ xs, heldC κ.length x = true
theorem heldC_no {M : Nat} {x : A} (h : heldC M x = true) : (∀ k ys, x ≠ .o k ys) ∧ x.names (fun L => decide (M ≤ L.headD 0)) = false := by
 cases x <;> simp_all [heldC, A.names]
theorem hold_len {ks : Nat → Bool} {M : Nat} {σ : Store} : (hold ks M σ).length = min M σ.length := by simp [hold]
theorem hold_get {ks : Nat → Bool} {M : Nat} {σ : Store} {l : Nat} {r : Root} (h : (hold ks M σ)[l]? = some r) : l < M ∧ ∃ r0, σ[l]? = some r0 ∧ holdR M (ks l) r0 = r := by
 have hl := (List.getElem?_eq_some_iff.1 h).1
 rw [hold_len] at hl
 simp only [hold, List.getElem?_map, List.getElem?_zipIdx, Option.map_eq_some_iff] at h
 obtain ⟨p, ⟨r0, h1, rfl⟩, h2⟩ := h
 rw [List.getElem?_take_of_lt (by omega)] at h1
 exact ⟨by omega, r0, h1, by simpa using h2⟩
theorem holdR_box {M : Nat} {b : Bool} {r0 : Root} {xs : List A} (h : holdR M b r0 = .box xs) : r0 = .box xs ∧ restR M b r0 = .dead ∧ xs ≠ [] ∧ ∀ x ∈ xs, heldC M x = true := by
 cases b with
 | false => cases r0 <;> cases h
 | true =>
  cases r0 with
  | dead => cases h
  | row => cases h
  | box ys =>
   cases ys with
   | nil => cases h
   | cons y ys =>
    simp only [holdR] at h
    split at h
    ·rename_i hc
     cases h
     exact ⟨rfl, by simp only [restR, if_pos hc], by simp, by simpa using hc⟩
    ·cases h
theorem holdR_dead {M : Nat} {b : Bool} {r0 : Root} (h : holdR M b r0 = .dead) : restR M b r0 = r0 := by
 cases b with
 | false => cases r0 <;> rfl
 | true =>
  cases r0 with
  | dead => rfl
  | row => rfl
  | box ys =>
   cases ys with
   | nil => rfl
   | cons y ys =>
    simp only [holdR] at h
    split at h
    ·cases h
    ·rename_i hc; simp only [restR, if_neg hc]
theorem holdR_or (M : Nat) (b : Bool) (r0 : Root) : holdR M b r0 = .dead ∨ ∃ xs, holdR M b r0 = .box xs := by
 cases b with
 | false => cases r0 <;> exact .inl rfl
 | true =>
  cases r0 with
  | dead => exact .inl rfl
  | row => exact .inl rfl
  | box ys =>
   cases ys with
   | nil => exact .inl rfl
   | cons y ys =>
    simp only [holdR]
    split
    ·exact .inr ⟨_, rfl⟩
    ·exact .inl rfl
theorem rest_get {ks : Nat → Bool} {M : Nat} {σ : Store} {l : Nat} : (rest ks M σ)[l]? = if l < M then (σ[l]?).map (restR M (ks l)) else σ[l]? := by
 have hlen : ((σ.take M).zipIdx.map fun p => restR M (ks p.2) p.1).length = min M σ.length := by simp
 simp only [rest]
 split
 ·rename_i h
  rcases Nat.lt_or_ge l σ.length with h' | h'
  ·rw [List.getElem?_append_left (by omega), List.getElem?_map, List.getElem?_zipIdx, List.getElem?_take_of_lt h]
   cases σ[l]? <;> simp
  ·rw [List.getElem?_append_right (by omega), List.getElem?_drop, List.getElem?_eq_none (by omega), List.getElem?_eq_none h']; rfl
 ·rename_i h
  rcases Nat.lt_or_ge M σ.length with h' | h'
  ·rw [List.getElem?_append_right (by omega), List.getElem?_drop]
   congr 1; omega
  ·rw [List.getElem?_append_right (by omega), List.getElem?_drop, List.getElem?_eq_none (by omega), List.getElem?_eq_none (by omega)]
theorem rest_len {ks : Nat → Bool} {M : Nat} {σ : Store} : (rest ks M σ).length = σ.length := by simp [rest]; omega
theorem rowAt_some {σ : Store} {L : List Nat} {xs : List A} (h : rowAt σ L = some xs) : ∃ l p r zs, L = l :: p ∧ σ[l]? = some r ∧ r.cells = some zs ∧ sub zs p = some xs := by
 cases L with
 | nil => cases h
 | cons l p =>
  simp only [rowAt] at h
  cases hr : σ[l]? with
  | none => simp [hr] at h
  | some r =>
   simp only [hr] at h
   cases hz : r.cells with
   | none => simp [hz] at h
   | some zs => simp only [hz] at h; exact ⟨l, p, r, zs, rfl, hr, hz, h⟩
theorem Helds.rowAt {κ : Store} (hk : Helds κ) {L : List Nat} {xs : List A} (h : rowAt κ L = some xs) : ∃ l, L = [l] ∧ κ[l]? = some (.box xs) := by
 obtain ⟨l, p, r, zs, rfl, h1, h2, h3⟩ := rowAt_some h
 rcases hk l r h1 with rfl | ⟨ys, rfl, hne, hx⟩
 ·cases h2
 ·simp only [Root.cells, Option.some.injEq] at h2
  subst h2
  cases p with
  | nil => simp only [sub, Option.some.injEq] at h3; subst h3; exact ⟨l, rfl, h1⟩
  | cons j p =>
   simp only [sub] at h3
   split at h3
   ·rename_i k us hj
    exact absurd rfl ((heldC_no (hx _ (List.mem_of_getElem? hj))).1 k us)
   ·cases h3
theorem helds_hold {ks : Nat → Bool} {M : Nat} {σ : Store} (hM : M ≤ σ.length) : Helds (hold ks M σ) := fun l r h => by
 obtain ⟨_, r0, h1, h2⟩ := hold_get h
 rcases holdR_or M (ks l) r0 with h3 | ⟨xs, h3⟩
 ·exact .inl (h2.symm.trans h3)
 ·obtain ⟨_, _, h5, h6⟩ := holdR_box h3
  have : (hold ks M σ).length = M := by rw [hold_len]; omega
  exact .inr ⟨xs, h2.symm.trans h3, h5, by rw [this]; exact h6⟩
structure Hl (F : Nat → Prop) (Λ : Lbl) (κ σ : Store) (w : World) : Prop where
  helds : Helds κ
  box : ∀ l xs, κ[l]? = some (.box xs) → ∃ b o cs t, Λ [l] = some (b, o) ∧ ¬ F b ∧ w.heap[b]? = some (.cells cs t (0, 0)) ∧ (∀ j x, xs[j]? = some x → ∃ c, cs[o + j]? = some c ∧ Cell F Λ w true ([l] ++ [j]) c x) ∧ ¬ Own Λ σ b
  apart : ∀ l xs l' xs' b o o', κ[l]? = some (.box xs) → κ[l']? = some (.box xs') → Λ [l] = some (b, o) → Λ [l'] = some (b, o') → l = l'
  len : κ.length ≤ σ.length
theorem lt_of_get {κ : Store} {l : Nat} {r : Root} (h : κ[l]? = some r) : l < κ.length := (List.getElem?_eq_some_iff.1 h).1
theorem Hl.label {F Λ κ σ w m F' Λ' σ' w'} (h : Hl F Λ κ σ w) (hst : Step m F Λ σ w F' Λ' σ' w') (hm : κ.length ≤ m) {l : Nat} {xs : List A} (hx : κ[l]? = some (.box xs)) : Λ' [l] = Λ [l] := by
 obtain ⟨b, o, cs, t, h1, _⟩ := h.box l xs hx
 have hl := lt_of_get hx
 rw [h1]
 exact hst.kept [l] b o (by simpa using (by omega : l < m)) h1
theorem Hl.step {F Λ κ σ w m F' Λ' σ' w'} (h : Hl F Λ κ σ w) (hs : St F Λ σ w) (hst : Step m F Λ σ w F' Λ' σ' w') (hm : κ.length ≤ m) : Hl F' Λ' κ σ' w' where
 helds := h.helds
 len := by have := hst.len; have := h.len; omega
 apart l xs l' xs' b o o' h1 h2 h3 h4 := h.apart l xs l' xs' b o o' h1 h2 (h.label hst hm h1 ▸ h3) (h.label hst hm h2 ▸ h4)
 box l xs hx := by
  obtain ⟨b, o, cs, t, h1, h2, h3, h4, h5⟩ := h.box l xs hx
  have hb : b < w.heap.size := (Array.getElem?_eq_some_iff.1 h3).1
  have hl := lt_of_get hx
  have hc : ∀ x ∈ xs, heldC κ.length x = true := by
   rcases h.helds l _ hx with h6 | ⟨ys, h6, _, h7⟩
   ·cases h6
   ·cases h6; exact h7
  refine ⟨b, o, cs, t, (h.label hst hm hx).trans h1, fun hf => ?_, (hst.keep b hb h5).trans h3, fun j x hj => ?_, fun ho => ?_⟩
  ·rcases hst.new b hf with h6 | h6 | h6
   ·exact h2 h6
   ·exact h5 h6
   ·omega
  ·obtain ⟨c, h6, h7⟩ := h4 j x hj
   refine ⟨c, h6, (h7.mono (hst.frozen hs) hst.sizes).relabel (fun L => decide (κ.length ≤ L.headD 0)) (fun L b o hp hL => hst.kept L b o (by have := of_decide_eq_false hp; omega) hL) (by simpa using hl) fun _ => (heldC_no (hc x (List.mem_of_getElem? hj))).2⟩
  ·rcases hst.own b ho with h6 | h6
   ·exact h5 h6
   ·omega
theorem Hl.alike {F Λ κ σ w m F' Λ' σ' w'} (h : Hl F Λ κ σ w) (hs : St F Λ σ w) (hst : Step m F Λ σ w F' Λ' σ' w') (hm : κ.length ≤ m) : Alike F Λ κ w w' := fun b hb => by
 rcases hb with hb | ⟨L, xs, o, h1, h2⟩
 ·exact (hst.frozen hs b hb).2
 ·obtain ⟨l, rfl, h3⟩ := h.helds.rowAt h1
  obtain ⟨b', o', cs, t, h4, _, h5, _, h6⟩ := h.box l xs h3
  rw [h2] at h4; cases h4
  exact hst.keep b (Array.getElem?_eq_some_iff.1 h5).1 h6
theorem Hl.alike2 {F Λ κ σ w m F' Λ' σ' w' w''} (h : Hl F Λ κ σ w) (hs : St F Λ σ w) (hst : Step m F Λ σ w F' Λ' σ' w') (hm : κ.length ≤ m) (ha : Alike F' Λ' κ w' w'') : Alike F Λ κ w w'' := fun b hb => by
 refine (ha b ?_).trans (h.alike hs hst hm b hb)
 rcases hb with hb | ⟨L, xs, o, h1, h2⟩
 ·exact .inl (hst.mono b hb)
 ·obtain ⟨l, rfl, h3⟩ := h.helds.rowAt h1
  exact .inr ⟨[l], xs, o, h1, (h.label hst hm h3).trans h2⟩
def onlyN (Q : Act → World → Prop) : Exit → Act → World → Prop := fun e a w => match e with
 | .normal => Q a w
 | _ => False
def TA (P : Program) (n m : Nat) (κ : Store) (ops : Array Oper) (fuel : Nat) (listed : Array Bool) (N : Env → Store → Prop) (E : Env) (σ : Store) : Prop :=
 ∀ F Λ w tmps (Q : Act → World → Prop), tmps.size = n → κ.length ≤ m → St F Λ σ w → Hl F Λ κ σ w → FrOK F Λ w tmps E →
  (∀ F' Λ' σ' w' tmps' E', tmps'.size = n → St F' Λ' σ' w' → Hl F' Λ' κ σ' w' → FrOK F' Λ' w' tmps' E' → Step m F Λ σ w F' Λ' σ' w' → N E' σ' → Q ⟨tmps', []⟩ w') →
  wpAnyH P .any ops (onlyN Q) (Alike F Λ κ w) fuel listed ⟨tmps, []⟩ w
theorem wpAnyH_weak {P : Program} {ops : Array Oper} {Q : Exit → Act → World → Prop} {md : Region.Mode} {S S' : World → Prop} (hS : ∀ w, S' w → S w) : ∀ (fuel : Nat) (listed : Array Bool) (a : Act) (w : World), wpAnyH P md ops Q S' fuel listed a w → wpAnyH P md ops Q S fuel listed a w
 | 0, _, _, _, h => h
 | fuel + 1, _, _, _, h => ⟨h.1, fun i hi => wpOp_mono (fun a' w' h' => ⟨hS _ h'.1, wpAnyH_weak hS fuel _ a' w' h'.2⟩) (h.2 i hi)⟩
section
variable {P : Program} {n m : Nat} {K : Exit → Env → Store → Prop} {N : Env → Store → Prop} {E : Env} {σ κ : Store} {ops : Array Oper} {fuel : Nat} {listed : Array Bool}
def AllR (P : Program) (n m : Nat) (κ : Store) (ops : Array Oper) (fuel : Nat) (listed : Array Bool) (N : Env → Store → Prop) (E : Env) (σ : Store) : List Nat → Prop
 | [] => True
 | i :: rs => (∃ o, ops[i]? = some o ∧ o.guard = none ∧ TOp P n m o (TA P n m κ ops fuel (listed.setIfInBounds i true) N) E σ) ∧ AllR P n m κ ops fuel listed N E σ rs
theorem AllR.get : ∀ {rs : List Nat}, AllR P n m κ ops fuel listed N E σ rs → ∀ i ∈ rs, ∃ o, ops[i]? = some o ∧ o.guard = none ∧ TOp P n m o (TA P n m κ ops fuel (listed.setIfInBounds i true) N) E σ
 | [], _, i, h => by cases h
 | j :: rs, h, i, hi => by
  rcases List.mem_cons.1 hi with rfl | hi
  ·exact h.1
  ·exact AllR.get h.2 i hi
theorem TA_op {i : Nat} {o : Oper} (h1 : ops[i]? = some o) (hw : ∀ F Λ w tmps, tmps.size = n → FrOK F Λ w tmps E → Region.wanted o (yielded ops tmps) = true) (h3 : TOp P n m o (TA P n m κ ops fuel (listed.setIfInBounds i true) N) E σ) {F Λ w tmps} {Q : Act → World → Prop} (hn : tmps.size = n) (hm : κ.length ≤ m) (hs : St F Λ σ w) (hk : Hl F Λ κ σ w) (hf : FrOK F Λ w tmps E)
  (hq : ∀ F' Λ' σ' w' tmps' E', tmps'.size = n → St F' Λ' σ' w' → Hl F' Λ' κ σ' w' → FrOK F' Λ' w' tmps' E' → Step m F Λ σ w F' Λ' σ' w' → N E' σ' → Q ⟨tmps', []⟩ w') :
  wpOp P ops (onlyN Q) i (fun a' w' => Alike F Λ κ w w' ∧ wpAnyH P .any ops (onlyN Q) (Alike F Λ κ w) fuel (listed.setIfInBounds i true) a' w') ⟨tmps, []⟩ w := by
 unfold wpOp
 rw [h1]
 simp only
 rw [if_pos (hw F Λ w tmps hn hf)]
 exact .inl (h3 F Λ w tmps _ (onlyN Q) hn hs hf fun F' Λ' σ' w' tmps' E' hn' hs' hf' hst hN =>
  ⟨hk.alike hs hst hm, wpAnyH_weak (fun w2 h2 => hk.alike2 hs hst hm h2) _ _ _ _ (hN F' Λ' w' tmps' Q hn' hm hs' (hk.step hs hst hm) hf' fun F2 Λ2 σ2 w2 tmps2 E2 hn2 hs2 hk2 hf2 hst2 hN2 => hq F2 Λ2 σ2 w2 tmps2 E2 hn2 hs2 hk2 hf2 (hst.trans hst2) hN2)⟩)
theorem TA_all (rs : List Nat) (hr : Region.ready .any ops listed = rs) (hne : rs ≠ []) (h : AllR P n m κ ops fuel listed N E σ rs) : TA P n m κ ops (fuel + 1) listed N E σ := fun F Λ w tmps Q hn hm hs hk hf hq =>
 wpAnyH_all hr hne fun i hi => by
  obtain ⟨o, h1, h2, h3⟩ := h.get i hi
  exact TA_op h1 (fun F Λ w tmps _ _ => by simp [Region.wanted, h2]) h3 hn hm hs hk hf hq
theorem rowAt_rest {ks : Nat → Bool} {M : Nat} {L : List Nat} {xs : List A} (h : rowAt (rest ks M σ) L = some xs) : rowAt σ L = some xs ∧ (rest ks M σ)[L.headD 0]? = σ[L.headD 0]? := by
 obtain ⟨l, p, r, zs, rfl, h1, h2, h3⟩ := rowAt_some h
 have h1' := h1
 rw [rest_get] at h1
 have key : σ[l]? = some r := by
  split at h1
  ·simp only [Option.map_eq_some_iff] at h1
   obtain ⟨r0, h4, h5⟩ := h1
   rcases holdR_or M (ks l) r0 with h6 | ⟨ys, h6⟩
   ·rw [holdR_dead h6] at h5; rw [h4, h5]
   ·rw [(holdR_box h6).2.1] at h5; rw [← h5] at h2; cases h2
  ·exact h1
 exact ⟨by simp only [rowAt, key, h2]; exact h3, h1'.trans key.symm⟩
theorem isBox_head {σ' : Store} {L : List Nat} (hL : L ≠ []) (h : σ'[L.headD 0]? = σ[L.headD 0]?) : isBox σ' L = isBox σ L := by
 match L, hL, h with
 | [l], _, h => simp only [List.headD_cons] at h; simp only [isBox, h]
 | _ :: _ :: _, _, _ => rfl
theorem St.rest {F Λ w} (hs : St F Λ σ w) (ks : Nat → Bool) (M : Nat) : St F Λ (rest ks M σ) w where
 row L xs h := by
  obtain ⟨h1, h2⟩ := rowAt_rest h
  rw [isBox_head (by rintro rfl; cases h1) h2]; exact hs.row L xs h1
 apart L xs L' xs' b o o' h1 h2 := hs.apart _ _ _ _ _ _ _ (rowAt_rest h1).1 (rowAt_rest h2).1
 old := hs.old
 tab := hs.tab
 lab L h := hs.lab L (by rw [rest_len] at h; exact h)
theorem Own.rest {Λ : Lbl} {ks : Nat → Bool} {M : Nat} {b : Nat} (h : Own Λ (rest ks M σ) b) : Own Λ σ b := by
 obtain ⟨L, xs, o, h1, h2⟩ := h
 exact ⟨L, xs, o, (rowAt_rest h1).1, h2⟩
theorem hold_box {ks : Nat → Bool} {M l : Nat} {xs : List A} (h : (hold ks M σ)[l]? = some (.box xs)) : l < M ∧ σ[l]? = some (.box xs) ∧ (Sep.rest ks M σ)[l]? = some .dead ∧ xs ≠ [] := by
 obtain ⟨h1, r0, h2, h3⟩ := hold_get h
 obtain ⟨rfl, h5, h6, _⟩ := holdR_box h3
 exact ⟨h1, h2, by rw [rest_get, if_pos h1, h2]; exact congrArg some h5, h6⟩
theorem St.hold {F Λ w} (hs : St F Λ σ w) {ks : Nat → Bool} {M : Nat} (hM : M ≤ σ.length) : Hl F Λ (hold ks M σ) (Sep.rest ks M σ) w where
 helds := helds_hold hM
 len := by rw [rest_len, hold_len]; omega
 apart l xs l' xs' b o o' h1 h2 h3 h4 := by
  obtain ⟨_, h5, _⟩ := hold_box h1
  obtain ⟨_, h6, _⟩ := hold_box h2
  have := hs.apart [l] xs [l'] xs' b o o' (by simp only [rowAt, h5, Root.cells, sub]) (by simp only [rowAt, h6, Root.cells, sub]) h3 h4
  simpa using this
 box l xs h := by
  obtain ⟨_, h1, h2, h3⟩ := hold_box h
  have hr : rowAt σ [l] = some xs := by simp only [rowAt, h1, Root.cells, sub]
  rcases hs.row [l] xs hr with ⟨_, h4⟩ | ⟨b, o, cs, t, h4, h5, h6, h7⟩
  ·exact absurd h4 h3
  ·refine ⟨b, o, cs, t, h4, h5, h6, fun j x hj => ?_, fun ⟨L, ys, o', g1, g2⟩ => ?_⟩
   ·have := h7 j x hj
    rwa [show isBox σ [l] = true by simp only [isBox, h1]] at this
   ·have e := hs.apart _ _ _ _ _ _ _ hr (rowAt_rest g1).1 h4 g2
    subst e
    simp only [rowAt, h2, Root.cells] at g1
    cases g1
end
end Go.Sep
set_option linter.unusedVariables false
set_option linter.unusedSimpArgs false
namespace Go.Sep
open Go
def compat (zs zs' : List A) : Prop := ∀ (j : Nat) (x' : A), zs'[j]? = some x' → ∃ x, zs[j]? = some x ∧ (x' = x ∨ ∃ (k : Nat) (u u' : List A), x = .o k u ∧ x' = .o k u' ∧ u'.length = u.length)
theorem compat.refl (zs : List A) : compat zs zs := fun j x h => ⟨x, h, .inl rfl⟩
theorem compat.trans {a b c : List A} (h : compat a b) (h' : compat b c) : compat a c := fun j x hx => by
 obtain ⟨y, hy, h1⟩ := h' j x hx
 obtain ⟨z, hz, h2⟩ := h j y hy
 refine ⟨z, hz, ?_⟩
 rcases h1 with rfl | ⟨k, u, u', rfl, rfl, h3⟩
 ·exact h2
 ·rcases h2 with rfl | ⟨k2, v, v', rfl, e, h4⟩
  ·exact .inr ⟨k, u, u', rfl, rfl, h3⟩
  ·cases e; exact .inr ⟨k, v, u', rfl, rfl, h3.trans h4⟩
inductive Sel (σ : Store) : List (List Nat) → List (List A) → Prop
  | nil : Sel σ [] []
  | cons {L Ls xs rows} : rowAt σ L = some xs → isBox σ L = false → (∀ L' ∈ Ls, ¬ L <+: L' ∧ ¬ L' <+: L) → Sel σ Ls rows → Sel σ (L :: Ls) (xs :: rows)
theorem Sel.get {σ : Store} {Ls : List (List Nat)} {rows : List (List A)} (h : Sel σ Ls rows) : ∀ (i : Nat) (L : List Nat), Ls[i]? = some L → ∃ xs, rows[i]? = some xs ∧ rowAt σ L = some xs ∧ isBox σ L = false := by
 induction h with
 | nil => intro i L h; simp at h
 | cons h1 h2 _ _ ih =>
  intro i L hi
  cases i with
  | zero => simp at hi; subst hi; exact ⟨_, rfl, h1, h2⟩
  | succ i => simpa using ih i L (by simpa using hi)
theorem Sel.len {σ : Store} {Ls : List (List Nat)} {rows : List (List A)} (h : Sel σ Ls rows) : rows.length = Ls.length := by
 induction h with
 | nil => rfl
 | cons _ _ _ _ ih => simp [ih]
section
variable {F F1 : Nat → Prop} {Λ Λ1 : Lbl} {σ : Store} {w w1 : World} {Ls : List (List Nat)} {rows rows' : List (List A)}
end
section
variable {P : Program} {n m : Nat} {N : Env → Store → Prop} {E : Env} {σ : Store} {o : Oper}
end
section
variable {P : Program} {n m : Nat} {N : Env → Store → Prop} {E : Env} {σ : Store} {ops : Array Oper} {os : List Oper} {o : Oper}
end
section
variable {P : Program} {n m : Nat} {N : Env → Store → Prop} {E : Env} {σ : Store} {o : Oper}
end
theorem EnT.of {P : Program} {g : Nat} {fn : Func} {c : Code} (h : P.funcs[g]? = some fn) (hb : fn.body = some c) (hn : (fn.name == "runtime.NumGoroutine") = false) : EnT P g := fun args w => by
 have hn' : ¬ fn.name = "runtime.NumGoroutine" := by simpa using hn
 simp [callFunc, h, hb, hn']
end Go.Sep
set_option linter.unusedVariables false
set_option linter.unusedSimpArgs false
namespace Go.Sep
open Go
def CtlP {S R : Type} (I B : S → Prop) (Q : R → Prop) : Ctl S R → Prop
 | .next s => I s
 | .brk s => B s
 | .ret r => Q r
end Go.Sep
set_option linter.unusedVariables false
set_option linter.unusedSimpArgs false
namespace Go.Sep
open Go
def catS (x y : ByteArray) : Option ByteArray := if ((x.size + y.size : Nat) : Int) ≤ 9223372036854775807 then some (x ++ y) else none
theorem catS_ok {x y : ByteArray} (h : x.size + y.size ≤ 9223372036854775807) : catS x y = some (x ++ y) := if_pos (by omega)
section
variable {P : Program} {E : Env} {σ : Store} {o : Oper}
theorem pur_cat {t x y t'} {a b c : ByteArray} (h : o.op = .binOp .add t x y t') (hx : val E x = .v (.string a)) (hy : val E y = .v (.string b)) (hc : catS a b = some c) : Pur P o E σ (.v (.string c)) := by
 unfold catS at hc
 split at hc
 case isFalse => cases hc
 rename_i h0
 simp only [Option.some.injEq] at hc
 subst hc
 have h1 : ¬ ((a.size + b.size : Nat) : Int) > IntKind.i64.max := by
  have : IntKind.i64.max = 9223372036854775807 := by decide
  omega
 exact pur_bin h hx hy fun w => by simp only [Sem.run_bind, eqGuard_string, binOp, Op.stringOp, Result.andThen, Sem.run_pure, if_neg h1]
theorem pur_convI {s d x k k'} {z : Int} (hs : ∃ q, P.underlying s = some q) (hd : P.underlying d = some (.int k)) (h : o.op = .convert s d x) (hx : val E x = .v (.int k' z)) : Pur P o E σ (.v (.int k (k.wrap z))) := fun F Λ w tmps _ hf => by
 obtain ⟨q, hs⟩ := hs
 have e1 := val_ok (ds := []) hf x
 rw [hx] at e1
 have e1 := e1.v_inv
 exact ⟨_, .imm (.v _), fun w' _ => by simp [execOp, h, e1, convert, run_underlying hs, run_underlying hd, Conv.intToInt]⟩
end
end Go.Sep
set_option linter.unusedVariables false
set_option linter.unusedSimpArgs false
namespace Go.Sep
open Go
section
variable {F : Nat → Prop} {Λ : Lbl} {σ : Store} {w : World} {s j k : Nat} {xs ys : List A}
end
section
variable {P : Program} {n m : Nat} {N : Env → Store → Prop} {E : Env} {σ : Store} {ops : Array Oper} {os : List Oper} {o : Oper}
end
end Go.Sep
set_option linter.unusedVariables false
set_option linter.unusedSimpArgs false
namespace Go.Sep
open Go
section
variable {P : Program} {n m : Nat} {K : Exit → Env → Store → Prop} {N : Env → Store → Prop} {E : Env} {σ κ : Store} {ops : Array Oper} {fuel : Nat} {listed : Array Bool}
def GoOK (n : Nat) (ops : Array Oper) (E : Env) (o : Oper) : Prop := o.guard = none ∨ ∃ j d want, o.guard = some (j, want) ∧ (ops[j]?).bind (·.dst) = some d ∧ d < n ∧ lk E d = .v (.bool want)
def AllG (P : Program) (n m : Nat) (κ : Store) (ops : Array Oper) (fuel : Nat) (listed : Array Bool) (N : Env → Store → Prop) (E : Env) (σ : Store) : List Nat → Prop
 | [] => True
 | i :: rs => (∃ o, ops[i]? = some o ∧ GoOK n ops E o ∧ TOp P n m o (TA P n m κ ops fuel (listed.setIfInBounds i true) N) E σ) ∧ AllG P n m κ ops fuel listed N E σ rs
theorem AllG.get : ∀ {rs : List Nat}, AllG P n m κ ops fuel listed N E σ rs → ∀ i ∈ rs, ∃ o, ops[i]? = some o ∧ GoOK n ops E o ∧ TOp P n m o (TA P n m κ ops fuel (listed.setIfInBounds i true) N) E σ
 | [], _, i, h => by cases h
 | j :: rs, h, i, hi => by
  rcases List.mem_cons.1 hi with rfl | hi
  ·exact h.1
  ·exact AllG.get h.2 i hi
end
end Go.Sep
set_option linter.unusedVariables false
set_option linter.unusedSimpArgs false
namespace Go.Sep
open Go
def Ok {α : Type} (e : Option α) (P : α → Prop) : Prop := ∃ r, e = some r ∧ P r
theorem Ok.ret {α : Type} {a : α} {P : α → Prop} (h : P a) : Ok (some a) P := ⟨a, rfl, h⟩
theorem Ok.mono {α : Type} {e : Option α} {P Q : α → Prop} (h : Ok e P) (k : ∀ a, P a → Q a) : Ok e Q := by
 obtain ⟨r, h1, h2⟩ := h; exact ⟨r, h1, k r h2⟩
theorem Ok.bind {α β : Type} {e : Option α} {f : α → Option β} {P : α → Prop} {Q : β → Prop} (h : Ok e P) (k : ∀ a, P a → Ok (f a) Q) : Ok (e.bind f) Q := by
 obtain ⟨r, h1, h2⟩ := h; rw [h1]; exact k r h2
theorem Ok.eq {α β : Type} {e : Option α} {f : α → Option β} {a : α} {Q : β → Prop} (h : e = some a) (k : Ok (f a) Q) : Ok (e.bind f) Q := by
 rw [h]; exact k
theorem Ok.of {α : Type} {e : Option α} {a : α} (h : e = some a) : Ok e fun r => r = a := ⟨a, h, rfl⟩
theorem Ok.to {α : Type} {e : Option α} {a : α} (h : Ok e fun r => r = a) : e = some a := by obtain ⟨r, h1, rfl⟩ := h; exact h1
theorem Ok.cond {α : Type} {b : Bool} {x y : Option α} {P : α → Prop} (ht : b = true → Ok x P) (hf : b = false → Ok y P) : Ok (_root_.cond b x y) P := by
 cases b with
 | true => exact ht rfl
 | false => exact hf rfl
theorem Ok.get {α β : Type} {xs : List α} {i : Int} {f : α → Option β} {Q : β → Prop} {n : Nat} (hi : i = (n : Int)) (hn : n < xs.length) (k : Ok (f xs[n]) Q) : Ok ((Go.Sep.getI xs i).bind f) Q := by
 subst hi; exact .eq (getI_lt hn) k
theorem Ok.mk {α β : Type} {b n : Nat} {z : α} {f : List α → Option β} {Q : β → Prop} (h1 : b * n ≤ 281474976710656) (h2 : n ≤ 1099511627776) (k : Ok (f (List.replicate n z)) Q) : Ok ((Go.Sep.mk b (n : Int) z).bind f) Q := .eq (mk_ok h1 h2) k
theorem Ok.next {S R : Type} {s : S} {I B : S → Prop} {T : R → Prop} (h : I s) : Ok (some (Ctl.next s)) (CtlP I B T) := ⟨_, rfl, h⟩
theorem Ok.brk {S R : Type} {s : S} {I B : S → Prop} {T : R → Prop} (h : B s) : Ok (some (Ctl.brk s)) (CtlP I B T) := ⟨_, rfl, h⟩
theorem cutI_okN {α : Type} {xs : List α} {i j : Nat} (h1 : i ≤ j) (h2 : j ≤ xs.length) : cutI xs (i : Int) (j : Int) = some ((xs.take j).drop i) := by
 unfold cutI; rw [if_pos (by omega)]; simp
theorem Ok.cut {α β : Type} {xs : List α} {a b : Int} {f : List α → Option β} {Q : β → Prop} {i j : Nat} (ha : a = (i : Int)) (hb : b = (j : Int)) (h1 : i ≤ j) (h2 : j ≤ xs.length) (k : Ok (f ((xs.take j).drop i)) Q) : Ok ((cutI xs a b).bind f) Q := by
 subst ha hb; exact .eq (cutI_okN h1 h2) k
end Go.Sep
set_option linter.unusedVariables false
set_option linter.unusedSimpArgs false
namespace Go.Sep
open Go
def renR (f : Nat → Nat) : Root → Root
 | .box xs => .box (renL f xs)
 | .row xs => .row xs
 | .dead => .dead
theorem sub_renL (f : Nat → Nat) (xs : List A) (j : Nat) (p : List Nat) : sub (renL f xs) (j :: p) = sub xs (j :: p) := by
 simp only [sub, renL_get]
 cases hj : xs[j]? with
 | none => rfl
 | some x => cases x <;> simp [A.ren]
theorem rowAt_ren {σ : Store} {f : Nat → Nat} {h : Nat} {p : List Nat} {zs : List A} (hz : rowAt (σ.map (renR f)) (h :: p) = some zs) : ∃ zs0, rowAt σ (h :: p) = some zs0 ∧ zs = (if isBox σ (h :: p) = true then renL f zs0 else zs0) := by
 simp only [rowAt, List.getElem?_map] at hz ⊢
 cases hσ : σ[h]? with
 | none => rw [hσ] at hz; cases hz
 | some r =>
  rw [hσ] at hz
  cases r with
  | dead => cases hz
  | row xs =>
   refine ⟨zs, hz, ?_⟩
   cases p <;> simp [isBox, hσ]
  | box xs =>
   simp only [Option.map_some, renR, Root.cells] at hz
   cases p with
   | nil => simp only [sub, Option.some.injEq] at hz; subst hz; exact ⟨xs, rfl, by simp [isBox, hσ]⟩
   | cons j p => rw [sub_renL] at hz; exact ⟨zs, hz, by simp [isBox]⟩
theorem isBox_ren {σ : Store} {f : Nat → Nat} (L : List Nat) : isBox (σ.map (renR f)) L = isBox σ L := by
 cases L with
 | nil => rfl
 | cons h p =>
  cases p with
  | cons j p => rfl
  | nil =>
   simp only [isBox, List.getElem?_map]
   cases σ[h]? with
   | none => rfl
   | some r => cases r <;> rfl
theorem Cell.renB {F : Nat → Prop} {Λ Λ' : Lbl} {w : World} {L L' : List Nat} {c : Value} {x : A} (p : List Nat → Bool) (f : Nat → Nat) (h : ∀ L b o, p L = false → Λ L = some (b, o) → Λ' (rh f L) = some (b, o)) (hS : ∀ a n k v, Sl Λ w L a n k v → Sl Λ' w L' a n k v) (hn : x.names p = false) (hc : Cell F Λ w true L c x) : Cell F Λ' w true L' c (x.ren f) := by
 rcases hc.box with rfl | ⟨k, ys, rfl⟩ | ⟨h1, h2⟩
 ·simp only [A.ren]; trivial
 ·simp only [A.ren]; exact ⟨hc.1, hc.2.1, hc.2.2.elim fun n hn => ⟨n, hn.1, hS _ _ _ _ hn.2⟩⟩
 ·have h3 := h2.ren p f h hn
  cases x with
  | j => simp [A.inBox] at h1
  | o k ys => simp [A.inBox] at h1
  | g xs => simp [A.inBox] at h1
  | t xs => simp [A.inBox] at h1
  | _ => simp only [A.ren] at h3 ⊢; exact ⟨by first | rfl | exact h1, h3⟩
def pickR (σ : Store) (ls : List Nat) : Store := ls.map fun l => (σ[l]?).getD .dead
def subS (σ : Store) (ls : List Nat) : Store := (pickR σ ls).map (renR (ixOf ls))
theorem rowAt_pickR {σ : Store} {ls : List Nat} {h : Nat} {p zs} (hz : rowAt (pickR σ ls) (h :: p) = some zs) : ∃ l, ls[h]? = some l ∧ rowAt σ (l :: p) = some zs ∧ (pickR σ ls)[h]? = σ[l]? := by
 simp only [rowAt, pickR, List.getElem?_map] at hz ⊢
 cases hl : ls[h]? with
 | none => rw [hl] at hz; cases hz
 | some l =>
  rw [hl] at hz
  simp only [Option.map_some] at hz ⊢
  cases hs : σ[l]? with
  | none => rw [hs] at hz; cases hz
  | some r => rw [hs] at hz; exact ⟨l, rfl, by rw [hs]; exact hz, by rw [hs]; rfl⟩
theorem isBox_eq {σ σ' : Store} {h l : Nat} (e : σ'[h]? = σ[l]?) (p : List Nat) : isBox σ' (h :: p) = isBox σ (l :: p) := by
 cases p with
 | cons j p => rfl
 | nil => simp only [isBox, e]
theorem pickL_ix {Λ : Lbl} {ls : List Nat} (hnd : ls.Nodup) {L : List Nat} {b o : Nat} (hp : (!inL ls L) = false) (hL : Λ L = some (b, o)) : pickL Λ ls (rh (ixOf ls) L) = some (b, o) := by
 cases L with
 | nil => simp [inL] at hp
 | cons h p =>
  simp only [inL, Bool.not_eq_false'] at hp
  simp only [rh, pickL, ixOf_get hnd hp]; exact hL
theorem St.sub {F Λ σ w} (hs : St F Λ σ w) {ls : List Nat} (hnd : ls.Nodup) (hb : ∀ l ∈ ls, ∀ xs, σ[l]? = some (.box xs) → namesL (fun L => !inL ls L) xs = false) : St F (pickL Λ ls) (subS σ ls) w where
 row L zs hz := by
  cases L with
  | nil => simp [rowAt] at hz
  | cons h p =>
   obtain ⟨zs0, h1, rfl⟩ := rowAt_ren hz
   obtain ⟨l, h2, h3, h4⟩ := rowAt_pickR h1
   have e : pickL Λ ls (h :: p) = Λ (l :: p) := by simp [pickL, h2]
   have eb : isBox (subS σ ls) (h :: p) = isBox σ (l :: p) := by rw [subS, isBox_ren, isBox_eq h4]
   rw [e, eb, isBox_eq h4]
   rcases hs.row _ _ h3 with ⟨g1, rfl⟩ | ⟨b, o, cs, t, g1, g2, g3, g4⟩
   ·refine .inl ⟨g1, ?_⟩
    split <;> rfl
   ·refine .inr ⟨b, o, cs, t, g1, g2, g3, fun j x hj => ?_⟩
    have hSl : ∀ j, ∀ a n k v, Sl Λ w ((l :: p) ++ [j]) a n k v → Sl (pickL Λ ls) w ((h :: p) ++ [j]) a n k v := fun j a n k v hv => hv.imp id fun ⟨b, o, cap, k1, k2⟩ => ⟨b, o, cap, by simpa [pickL, h2] using k1, k2⟩
    by_cases hbx : isBox σ (l :: p) = true
    ·rw [if_pos hbx, renL_get] at hj
     cases hx : zs0[j]? with
     | none => rw [hx] at hj; cases hj
     | some x0 =>
      rw [hx] at hj
      simp only [Option.map_some, Option.some.injEq] at hj
      subst hj
      obtain ⟨c, g5, g6⟩ := g4 j x0 hx
      refine ⟨c, g5, ?_⟩
      rw [hbx] at g6 ⊢
      have hpn : p = [] := by cases p with | nil => rfl | cons j p => simp [isBox] at hbx
      subst hpn
      have hbs : σ[l]? = some (.box zs0) := by
       simp only [isBox] at hbx
       split at hbx
       ·rename_i us hu; simp only [rowAt, hu, Root.cells, Sep.sub, Option.some.injEq] at h3; rw [hu, h3]
       ·cases hbx
      exact g6.renB (fun L => !inL ls L) _ (fun L b o hp hL => pickL_ix hnd hp hL) (hSl j) (namesL_false (hb l (List.mem_of_getElem? h2) _ hbs) _ (List.mem_of_getElem? hx))
    ·rw [if_neg hbx] at hj
     have hbx' : isBox σ (l :: p) = false := by simpa using hbx
     obtain ⟨c, g5, g6⟩ := g4 j x hj
     refine ⟨c, g5, ?_⟩
     rw [hbx'] at g6 ⊢
     exact g6.unbox (hSl j)
 apart L zs L' zs' b o o' hr hr' h3 h4 := by
  cases L with
  | nil => simp [rowAt] at hr
  | cons h0 p =>
   cases L' with
   | nil => simp [rowAt] at hr'
   | cons h0' p' =>
    obtain ⟨z1, k1, _⟩ := rowAt_ren hr
    obtain ⟨z2, k2, _⟩ := rowAt_ren hr'
    obtain ⟨l, g1, g2, _⟩ := rowAt_pickR k1
    obtain ⟨l', g1', g2', _⟩ := rowAt_pickR k2
    have := hs.apart _ _ _ _ _ _ _ g2 g2' (by simpa [pickL, g1] using h3) (by simpa [pickL, g1'] using h4)
    simp only [List.cons.injEq] at this
    obtain ⟨rfl, rfl⟩ := this
    have e1 := List.getElem?_eq_some_iff.1 g1
    have e2 := List.getElem?_eq_some_iff.1 g1'
    have : h0 = h0' := by
     rcases Nat.lt_trichotomy h0 h0' with g | g | g
     ·exact absurd (e1.2.trans e2.2.symm) (List.pairwise_iff_getElem.1 hnd h0 h0' e1.1 e2.1 g)
     ·exact g
     ·exact absurd (e2.2.trans e1.2.symm) (List.pairwise_iff_getElem.1 hnd h0' h0 e2.1 e1.1 g)
    rw [this]
 old := hs.old
 tab := hs.tab
 lab L hL := by
  cases L with
  | nil => rfl
  | cons h0 p =>
   simp only [List.headD_cons, subS, pickR, List.length_map] at hL
   simp [pickL, List.getElem?_eq_none hL]
theorem Own.sub {Λ : Lbl} {σ : Store} {ls : List Nat} {b : Nat} (h : Own (pickL Λ ls) (subS σ ls) b) : ∃ l p zs o, l ∈ ls ∧ rowAt σ (l :: p) = some zs ∧ Λ (l :: p) = some (b, o) := by
 obtain ⟨L, zs, o, h1, h2⟩ := h
 cases L with
 | nil => simp [rowAt] at h1
 | cons h0 p =>
  obtain ⟨z, k1, _⟩ := rowAt_ren h1
  obtain ⟨l, g1, g2, _⟩ := rowAt_pickR k1
  exact ⟨l, p, z, o, List.mem_of_getElem? g1, g2, by simpa [pickL, g1] using h2⟩
section
variable {F F1 : Nat → Prop} {Λ Λ1 : Lbl} {σ σ1 : Store} {w w1 : World} {ls : List Nat}
end
section
variable {P : Program} {n m : Nat} {N : Env → Store → Prop} {E : Env} {σ : Store} {o : Oper}
end
end Go.Sep

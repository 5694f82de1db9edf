/- The domain of the calculus: abstract values (trees of data, with owned rows named by a path), how they stand in a world, and what a step leaves unturned. -/
import Derived.Deep.LoopGhost
import Derived.Deep.Quiet
import Derived.Below
import Derived.Laws.MakeOwn
import Derived.Laws.OwnMore
import Derived.Laws.StructEq
import Derived.Laws.Slices
set_option linter.unusedVariables false
set_option linter.unusedSimpArgs false
namespace Go.Sep
open Go

/-- Abstract values. 'j': nothing is known. 'v': just this value. 'n': a slice of length and capacity 0. 'i': a slice that nobody writes, its cells (k an element). 'o': in a cell: a slice that the row owns. 'm': a slice into row L, from cell a, n elements of k cells. 'e': a pointer to a cell of row L. 'b': a pointer into a box. 'q': a pointer to cells that nobody writes. 'g': a struct. 't': a tuple. 'f': a function value. -/
inductive A where
  | j
  | n
  | v (x : Value)
  | i (k : Nat) (xs : List A)
  | o (k : Nat) (xs : List A)
  | m (L : List Nat) (a n k : Nat)
  | e (L : List Nat) (a : Nat)
  | b (l a : Nat)
  | q (xs : List A) (d : Nat)
  | g (xs : List A)
  | t (xs : List A)
  | f (fn : Nat) (xs : List A)

inductive Root where
  | dead
  | box (xs : List A)
  | row (xs : List A)

abbrev Store := List Root

def sub : List A → List Nat → Option (List A)
  | xs, [] => some xs
  | xs, j :: p => match xs[j]? with
    | some (.o _ ys) => sub ys p
    | _ => none

def Root.cells : Root → Option (List A)
  | .dead => none
  | .box xs => some xs
  | .row xs => some xs

def rowAt (σ : Store) : List Nat → Option (List A)
  | [] => none
  | l :: p => match σ[l]? with
    | some r => (match r.cells with | some xs => sub xs p | none => none)
    | none => none

abbrev Lbl := List Nat → Option (Nat × Nat)

/-- One cell's value? -/
def sc : Value → Bool
  | .agg _ => false
  | .tuple _ => false
  | _ => true

/-- How a value that nobody writes stands in memory; F: the blocks that stay as they are. -/
inductive Imm (F : Nat → Prop) (w : World) : Value → A → Prop
  | v (x) : Imm F w x (.v x)
  | n (ad) : Imm F w (.slice ad 0 0) .n
  | i0 (ad cap k) : Imm F w (.slice ad 0 cap) (.i k [])
  | i (b o n cap k) (cs : Nat → Value) (xs : List A) : F b → 0 < n → n ≤ cap → n ≤ maxLen → xs.length = n * k →
      (∀ j x, xs[j]? = some x → w.cell? ⟨b, o + j, none⟩ = some (cs j)) →
      (∀ j x, xs[j]? = some x → Imm F w (cs j) x) → Imm F w (.slice (some ⟨b, o, none⟩) n cap) (.i k xs)
  | q (b o d) (cs : Nat → Value) (xs : List A) : F b →
      (∀ j x, xs[j]? = some x → w.cell? ⟨b, o + j, none⟩ = some (cs j)) →
      (∀ j x, xs[j]? = some x → Imm F w (cs j) x) → Imm F w (.pointer (some ⟨b, o + d, none⟩)) (.q xs d)
  | g (vs : List Value) (xs : List A) : vs.length = xs.length → (∀ (j : Nat) x y, xs[j]? = some x → vs[j]? = some y → Imm F w y x) → Imm F w (.agg vs.toArray) (.g xs)
  | t (vs : List Value) (xs : List A) : vs.length = xs.length → (∀ (j : Nat) x y, xs[j]? = some x → vs[j]? = some y → Imm F w y x) → Imm F w (.tuple vs.toArray) (.t xs)
  | f (fn) (vs : List Value) (xs : List A) : vs.length = xs.length → (∀ (j : Nat) x y, xs[j]? = some x → vs[j]? = some y → Imm F w y x) → Imm F w (.func (.func fn) #[] vs.toArray) (.f fn xs)

theorem Imm.mono {F F' : Nat → Prop} {w w' : World} (h : ∀ b, F b → F' b ∧ w'.heap[b]? = w.heap[b]?) {v : Value} {x : A} (hi : Imm F w v x) : Imm F' w' v x := by
  induction hi with
  | v x => exact .v x
  | n ad => exact .n ad
  | i0 ad cap k => exact .i0 ad cap k
  | i b o n cap k cs xs hb h0 hnc hm hl hc _ ih => exact .i b o n cap k cs xs (h b hb).1 h0 hnc hm hl (fun j x hx => by rw [World.cell?_of_block (w := w) (by exact (h b hb).2)]; exact hc j x hx) ih
  | q b o d cs xs hb hc _ ih => exact .q b o d cs xs (h b hb).1 (fun j x hx => by rw [World.cell?_of_block (w := w) (by exact (h b hb).2)]; exact hc j x hx) ih
  | g vs xs hl _ ih => exact .g vs xs hl ih
  | t vs xs hl _ ih => exact .t vs xs hl ih
  | f fn vs xs hl _ ih => exact .f fn vs xs hl ih

/-- A slice into a row that is owned. -/
def Sl (Λ : Lbl) (w : World) (L : List Nat) (a n k : Nat) (v : Value) : Prop :=
  (n = 0 ∧ ∃ ad, v = .slice ad 0 0) ∨
  ∃ b o cap, Λ L = some (b, o) ∧ v = .slice (some ⟨b, o + a, none⟩) n cap ∧ n ≤ cap ∧ cap ≤ maxLen ∧ ∃ cs t, w.heap[b]? = some (.cells cs t (0, 0)) ∧ o + a + cap * k ≤ cs.size

inductive OK (F : Nat → Prop) (Λ : Lbl) (w : World) : Value → A → Prop
  | imm {v x} : Imm F w v x → OK F Λ w v x
  | j (v) : OK F Λ w v .j
  | m {v L a n k} : Sl Λ w L a n k v → OK F Λ w v (.m L a n k)
  | e {L a b o} : Λ L = some (b, o) → OK F Λ w (.pointer (some ⟨b, o + a, none⟩)) (.e L a)
  | b {l a b o} : Λ [l] = some (b, o) → OK F Λ w (.pointer (some ⟨b, o + a, none⟩)) (.b l a)
  | g (vs : List Value) (xs : List A) : vs.length = xs.length → (∀ (j : Nat) x y, xs[j]? = some x → vs[j]? = some y → OK F Λ w y x) → OK F Λ w (.agg vs.toArray) (.g xs)
  | t (vs : List Value) (xs : List A) : vs.length = xs.length → (∀ (j : Nat) x y, xs[j]? = some x → vs[j]? = some y → OK F Λ w y x) → OK F Λ w (.tuple vs.toArray) (.t xs)
  | f (fn) (vs : List Value) (xs : List A) : vs.length = xs.length → (∀ (j : Nat) x y, xs[j]? = some x → vs[j]? = some y → OK F Λ w y x) → OK F Λ w (.func (.func fn) #[] vs.toArray) (.f fn xs)

/-- Blocks of cells keep their size. -/
def Sizes (w w' : World) : Prop := ∀ (b : Nat) (cs : Array Value) (t : TypeId), w.heap[b]? = some (.cells cs t (0, 0)) → ∃ cs' : Array Value, w'.heap[b]? = some (.cells cs' t (0, 0)) ∧ cs'.size = cs.size

theorem Sizes.refl (w : World) : Sizes w w := fun _ cs _ h => ⟨cs, h, rfl⟩
theorem Sizes.trans {w w1 w2 : World} (h : Sizes w w1) (h' : Sizes w1 w2) : Sizes w w2 := fun b cs t hb => by
  obtain ⟨cs1, h1, e1⟩ := h b cs t hb
  obtain ⟨cs2, h2, e2⟩ := h' b cs1 t h1
  exact ⟨cs2, h2, e2.trans e1⟩

theorem Sl.mono {Λ : Lbl} {w w' : World} (h : Sizes w w') {L a n k v} (hs : Sl Λ w L a n k v) : Sl Λ w' L a n k v := by
  rcases hs with hs | ⟨b, o, cap, h1, h2, h3, h3', cs, t, h4, h5⟩
  · exact .inl hs
  · obtain ⟨cs', h6, h7⟩ := h b cs t h4
    exact .inr ⟨b, o, cap, h1, h2, h3, h3', cs', t, h6, by omega⟩

theorem OK.mono {F F' : Nat → Prop} {Λ : Lbl} {w w' : World} (h : ∀ b, F b → F' b ∧ w'.heap[b]? = w.heap[b]?) (hs : Sizes w w') {v : Value} {x : A} (hi : OK F Λ w v x) : OK F' Λ w' v x := by
  induction hi with
  | imm hi => exact .imm (hi.mono h)
  | j v => exact .j v
  | m h1 => exact .m (h1.mono hs)
  | e h1 => exact .e h1
  | b h1 => exact .b h1
  | g vs xs hl _ ih => exact .g vs xs hl ih
  | t vs xs hl _ ih => exact .t vs xs hl ih
  | f fn vs xs hl _ ih => exact .f fn vs xs hl ih

mutual
/-- Does it name a label that p holds of? -/
def A.names (p : List Nat → Bool) : A → Bool
  | .m L _ _ _ => p L
  | .e L _ => p L
  | .b l _ => p [l]
  | .g xs => namesL p xs
  | .t xs => namesL p xs
  | .f _ xs => namesL p xs
  | .j => false
  | .n => false
  | .v _ => false
  | .i _ _ => false
  | .o _ _ => false
  | .q _ _ => false
def namesL (p : List Nat → Bool) : List A → Bool
  | [] => false
  | x :: xs => x.names p || namesL p xs
end
theorem namesL_false {p : List Nat → Bool} : ∀ {xs : List A}, namesL p xs = false → ∀ x ∈ xs, x.names p = false
  | [], _, x, hx => by cases hx
  | y :: ys, h, x, hx => by
    simp only [namesL, Bool.or_eq_false_iff] at h
    rcases List.mem_cons.1 hx with rfl | hx
    · exact h.1
    · exact namesL_false h.2 x hx

/-- The same under other labels, where those that differ are not named. -/
theorem OK.relabel {F : Nat → Prop} {Λ Λ' : Lbl} {w : World} (p : List Nat → Bool) (h : ∀ L b o, p L = false → Λ L = some (b, o) → Λ' L = some (b, o)) {v : Value} {x : A} (hi : OK F Λ w v x) (hn : x.names p = false) : OK F Λ' w v x := by
  induction hi with
  | imm hi => exact .imm hi
  | j v => exact .j v
  | m h1 =>
    simp only [A.names] at hn
    refine .m ?_
    rcases h1 with h1 | ⟨b, o, cap, h1, h2⟩
    · exact .inl h1
    · exact .inr ⟨b, o, cap, h _ _ _ hn h1, h2⟩
  | e h1 => simp only [A.names] at hn; exact .e (h _ _ _ hn h1)
  | b h1 => simp only [A.names] at hn; exact .b (h _ _ _ hn h1)
  | g vs xs hl _ ih => simp only [A.names] at hn; exact .g vs xs hl fun j x y hx hy => ih j x y hx hy (namesL_false hn x (List.mem_of_getElem? hx))
  | t vs xs hl _ ih => simp only [A.names] at hn; exact .t vs xs hl fun j x y hx hy => ih j x y hx hy (namesL_false hn x (List.mem_of_getElem? hx))
  | f fn vs xs hl _ ih => simp only [A.names] at hn; exact .f fn vs xs hl fun j x y hx hy => ih j x y hx hy (namesL_false hn x (List.mem_of_getElem? hx))

theorem OK.ext {F : Nat → Prop} {Λ Λ' : Lbl} {w : World} (h : ∀ L b o, Λ L = some (b, o) → Λ' L = some (b, o)) {v : Value} {x : A} (hi : OK F Λ w v x) : OK F Λ' w v x := by
  induction hi with
  | imm hi => exact .imm hi
  | j v => exact .j v
  | m h1 =>
    refine .m ?_
    rcases h1 with h1 | ⟨b, o, cap, h1, h2⟩
    · exact .inl h1
    · exact .inr ⟨b, o, cap, h _ _ _ h1, h2⟩
  | e h1 => exact .e (h _ _ _ h1)
  | b h1 => exact .b (h _ _ _ h1)
  | g vs xs hl _ ih => exact .g vs xs hl ih
  | t vs xs hl _ ih => exact .t vs xs hl ih
  | f fn vs xs hl _ ih => exact .f fn vs xs hl ih

/-- What may lie in a cell of a row: nothing that names a row. -/
def A.inCell : A → Bool
  | .v x => sc x
  | .n => true
  | .i _ _ => true
  | .q _ _ => true
  | .f fn xs => !namesL (fun _ => true) xs
  | _ => false
/-- What may lie in a cell of a box. -/
def A.inBox : A → Bool
  | .v x => sc x
  | .n => true
  | .i _ _ => true
  | .q _ _ => true
  | .b _ _ => true
  | .m _ _ _ _ => true
  | .e _ _ => true
  | .f _ _ => true
  | _ => false

def isBox (σ : Store) : List Nat → Bool
  | [l] => match σ[l]? with | some (.box _) => true | _ => false
  | _ => false

def Cell (F : Nat → Prop) (Λ : Lbl) (w : World) (bx : Bool) (L : List Nat) (c : Value) : A → Prop
  | .j => True
  | .o k ys => True ∧ 0 < k ∧ ∃ n, ys.length = n * k ∧ Sl Λ w L 0 n k c
  | x => (if bx then x.inBox else x.inCell) = true ∧ OK F Λ w c x

structure St (F : Nat → Prop) (Λ : Lbl) (σ : Store) (w : World) : Prop where
  row : ∀ L xs, rowAt σ L = some xs → (Λ L = none ∧ xs = []) ∨ ∃ b o cs t, Λ L = some (b, o) ∧ ¬ F b ∧ w.heap[b]? = some (.cells cs t (0, 0)) ∧
    ∀ j x, xs[j]? = some x → ∃ c, cs[o + j]? = some c ∧ Cell F Λ w (isBox σ L) (L ++ [j]) c x
  apart : ∀ L xs L' xs' b o o', rowAt σ L = some xs → rowAt σ L' = some xs' → Λ L = some (b, o) → Λ L' = some (b, o') → L = L'
  old : ∀ b, F b → b < w.heap.size
  lab : ∀ L, σ.length ≤ L.headD 0 → Λ L = none

def Own (Λ : Lbl) (σ : Store) (b : Nat) : Prop := ∃ L xs o, rowAt σ L = some xs ∧ Λ L = some (b, o)

/-- From one state to a later one: what nobody of the first owned is unturned; the boxes among the first m roots are where they were. -/
structure Step (m : Nat) (F : Nat → Prop) (Λ : Lbl) (σ : Store) (w : World) (F' : Nat → Prop) (Λ' : Lbl) (σ' : Store) (w' : World) : Prop where
  os : w'.os = w.os
  tape : w'.tape = w.tape
  output : w'.output = w.output
  size : w.heap.size ≤ w'.heap.size
  sizes : Sizes w w'
  keep : ∀ b, b < w.heap.size → ¬ Own Λ σ b → w'.heap[b]? = w.heap[b]?
  mono : ∀ b, F b → F' b
  new : ∀ b, F' b → F b ∨ Own Λ σ b ∨ w.heap.size ≤ b
  own : ∀ b, Own Λ' σ' b → Own Λ σ b ∨ w.heap.size ≤ b
  len : min m σ.length ≤ σ'.length
  boxes : ∀ (l : Nat) xs, l < m → σ[l]? = some (.box xs) → Λ' [l] = Λ [l] ∧ ∃ xs', σ'[l]? = some (.box xs')
  kept : ∀ L b o, L.headD 0 < m → Λ L = some (b, o) → Λ' L = some (b, o)

theorem Step.refl (m : Nat) (F : Nat → Prop) (Λ : Lbl) (σ : Store) (w : World) : Step m F Λ σ w F Λ σ w :=
  ⟨rfl, rfl, rfl, Nat.le_refl _, Sizes.refl _, fun _ _ _ => rfl, fun _ h => h, fun _ h => .inl h, fun _ h => .inl h, Nat.min_le_right _ _, fun _ xs _ h => ⟨rfl, xs, h⟩, fun _ _ _ _ h => h⟩

theorem Step.trans {m F Λ σ w F1 Λ1 σ1 w1 F2 Λ2 σ2 w2} (h : Step m F Λ σ w F1 Λ1 σ1 w1) (h' : Step m F1 Λ1 σ1 w1 F2 Λ2 σ2 w2) : Step m F Λ σ w F2 Λ2 σ2 w2 where
  os := h'.os.trans h.os
  tape := h'.tape.trans h.tape
  output := h'.output.trans h.output
  size := Nat.le_trans h.size h'.size
  sizes := h.sizes.trans h'.sizes
  keep b hb ho := by
    have hn : ¬ Own Λ1 σ1 b := fun h1 => by
      rcases h.own b h1 with h1 | h1
      · exact ho h1
      · omega
    rw [h'.keep b (Nat.lt_of_lt_of_le hb h.size) hn, h.keep b hb ho]
  mono b hb := h'.mono b (h.mono b hb)
  new b hb := by
    have hsz := h.size
    rcases h'.new b hb with h1 | h1 | h1
    · exact h.new b h1
    · exact .inr (h.own b h1)
    · exact .inr (.inr (by omega))
  own b hb := by
    have hsz := h.size
    rcases h'.own b hb with h1 | h1
    · exact h.own b h1
    · exact .inr (by omega)
  len := by have := h.len; have := h'.len; omega
  kept L b o hl hL := h'.kept L b o hl (h.kept L b o hl hL)
  boxes l xs hl hx := by
    obtain ⟨e1, xs1, h1⟩ := h.boxes l xs hl hx
    obtain ⟨e2, xs2, h2⟩ := h'.boxes l xs1 hl h1
    exact ⟨e2.trans e1, xs2, h2⟩

theorem St.notOwn {F Λ σ w} (hs : St F Λ σ w) {b : Nat} (hb : F b) : ¬ Own Λ σ b := by
  rintro ⟨L, xs, o, hr, hl⟩
  rcases hs.row L xs hr with ⟨h1, _⟩ | ⟨b', o', cs, t, h1, h2, _⟩
  · rw [hl] at h1; cases h1
  · rw [hl] at h1; cases h1; exact h2 hb

theorem Step.frozen {m F Λ σ w F' Λ' σ' w'} (hs : St F Λ σ w) (h : Step m F Λ σ w F' Λ' σ' w') : ∀ b, F b → F' b ∧ w'.heap[b]? = w.heap[b]? :=
  fun b hb => ⟨h.mono b hb, h.keep b (hs.old b hb) (hs.notOwn hb)⟩

/-- What is known of a frame: a list of slots. -/
abbrev Env := List (Nat × A)
def lk : Env → Nat → A
  | [], _ => .j
  | (t, a) :: E, u => if t = u then a else lk E u
def FrOK (F : Nat → Prop) (Λ : Lbl) (w : World) (tmps : Array Value) (E : Env) : Prop := ∀ t, OK F Λ w (tmps.getD t undef) (lk E t)

theorem FrOK.mono {F F' : Nat → Prop} {Λ : Lbl} {w w' : World} (h : ∀ b, F b → F' b ∧ w'.heap[b]? = w.heap[b]?) (hs : Sizes w w') {tmps E} (hf : FrOK F Λ w tmps E) : FrOK F' Λ w' tmps E :=
  fun t => (hf t).mono h hs

end Go.Sep

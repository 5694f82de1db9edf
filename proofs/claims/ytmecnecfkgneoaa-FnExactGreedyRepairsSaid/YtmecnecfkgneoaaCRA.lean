import Derived.Deep.LoopGhost
import Derived.Deep.Quiet
import Derived.Below
import Derived.Laws.MakeOwn
import Derived.Laws.OwnMore
import Derived.Laws.StructEq
import Derived.Laws.Slices
import Derived.KernelRfl
import Derived.Laws.CopyRow
set_option linter.unusedVariables false
set_option linter.unusedSimpArgs false
namespace Go.Sep
open Go
inductive A where
  | j
  | n
  | v (x : Value)
  | i (k : Nat) (xs : List A)
  | o (k : Nat) (xs : List A)
  | m (L : List Nat) (a n k : Nat)
  | e (L : List Nat) (a : Nat)
  | b (l a : Nat)
  | q (xs : List A) (d : Nat)
  | g (xs : List A)
  | t (xs : List A)
  | f (fn : Nat) (xs : List A)
  | raw (v : Value) (a : A)
def tables : List (Nat × Array Value) := []
inductive Root where
  | dead
  | box (xs : List A)
  | row (xs : List A)
abbrev Store := List Root
def sub : List A → List Nat → Option (List A)
 | xs, [] => some xs
 | xs, j :: p => match xs[j]? with
  | some (.o _ ys) => sub ys p
  | _ => none
def Root.cells : Root → Option (List A)
 | .dead => none
 | .box xs => some xs
 | .row xs => some xs
def rowAt (σ : Store) : List Nat → Option (List A)
 | [] => none
 | l :: p => match σ[l]? with
  | some r => (match r.cells with | some xs => sub xs p | none => none)
  | none => none
abbrev Lbl := List Nat → Option (Nat × Nat)
def sc : Value → Bool
 | .agg _ => false
 | .tuple _ => false
 | _ => true
inductive Imm (F : Nat → Prop) (w : World) : Value → A → Prop
  | v (x) : Imm F w x (.v x)
  | n (ad) : Imm F w (.slice ad 0 0) .n
  | i0 (ad cap k) : Imm F w (.slice ad 0 cap) (.i k [])
  | i (b o n cap k) (cs : Nat → Value) (xs : List A) : F b → 0 < n → n ≤ cap → n ≤ maxLen → xs.length = n * k →
      (∀ j x, xs[j]? = some x → w.cell? ⟨b, o + j, none⟩ = some (cs j)) →
      (∀ j x, xs[j]? = some x → Imm F w (cs j) x) → Imm F w (.slice (some ⟨b, o, none⟩) n cap) (.i k xs)
  | q (b o d) (cs : Nat → Value) (xs : List A) : F b →
      (∀ j x, xs[j]? = some x → w.cell? ⟨b, o + j, none⟩ = some (cs j)) →
      (∀ j x, xs[j]? = some x → Imm F w (cs j) x) → Imm F w (.pointer (some ⟨b, o + d, none⟩)) (.q xs d)
  | g (vs : List Value) (xs : List A) : vs.length = xs.length → (∀ (j : Nat) x y, xs[j]? = some x → vs[j]? = some y → Imm F w y x) → Imm F w (.agg vs.toArray) (.g xs)
  | t (vs : List Value) (xs : List A) : vs.length = xs.length → (∀ (j : Nat) x y, xs[j]? = some x → vs[j]? = some y → Imm F w y x) → Imm F w (.tuple vs.toArray) (.t xs)
  | f (fn) (vs : List Value) (xs : List A) : vs.length = xs.length → (∀ (j : Nat) x y, xs[j]? = some x → vs[j]? = some y → Imm F w y x) → Imm F w (.func (.func fn) #[] vs.toArray) (.f fn xs)
  | raw {v a} : Imm F w v a → Imm F w v (.raw v a)
theorem Imm.mono {F F' : Nat → Prop} {w w' : World} (h : ∀ b, F b → F' b ∧ w'.heap[b]? = w.heap[b]?) {v : Value} {x : A} (hi : Imm F w v x) : Imm F' w' v x := by
 induction hi with
 | v x => exact .v x
 | n ad => exact .n ad
 | i0 ad cap k => exact .i0 ad cap k
 | i b o n cap k cs xs hb h0 hnc hm hl hc _ ih => exact .i b o n cap k cs xs (h b hb).1 h0 hnc hm hl (fun j x hx => by rw [World.cell?_of_block (w := w) (by exact (h b hb).2)]; exact hc j x hx) ih
 | q b o d cs xs hb hc _ ih => exact .q b o d cs xs (h b hb).1 (fun j x hx => by rw [World.cell?_of_block (w := w) (by exact (h b hb).2)]; exact hc j x hx) ih
 | g vs xs hl _ ih => exact .g vs xs hl ih
 | t vs xs hl _ ih => exact .t vs xs hl ih
 | f fn vs xs hl _ ih => exact .f fn vs xs hl ih
 | raw _ ih => exact .raw ih
def Sl (Λ : Lbl) (w : World) (L : List Nat) (a n k : Nat) (v : Value) : Prop :=
 (n = 0 ∧ ∃ ad, v = .slice ad 0 0) ∨
 ∃ b o cap, Λ L = some (b, o) ∧ v = .slice (some ⟨b, o + a, none⟩) n cap ∧ n ≤ cap ∧ cap ≤ maxLen ∧ ∃ cs t, w.heap[b]? = some (.cells cs t (0, 0)) ∧ o + a + cap * k ≤ cs.size
inductive OK (F : Nat → Prop) (Λ : Lbl) (w : World) : Value → A → Prop
  | imm {v x} : Imm F w v x → OK F Λ w v x
  | j (v) : OK F Λ w v .j
  | m {v L a n k} : Sl Λ w L a n k v → OK F Λ w v (.m L a n k)
  | e {L a b o} : Λ L = some (b, o) → OK F Λ w (.pointer (some ⟨b, o + a, none⟩)) (.e L a)
  | b {l a b o} : Λ [l] = some (b, o) → OK F Λ w (.pointer (some ⟨b, o + a, none⟩)) (.b l a)
  | g (vs : List Value) (xs : List A) : vs.length = xs.length → (∀ (j : Nat) x y, xs[j]? = some x → vs[j]? = some y → OK F Λ w y x) → OK F Λ w (.agg vs.toArray) (.g xs)
  | t (vs : List Value) (xs : List A) : vs.length = xs.length → (∀ (j : Nat) x y, xs[j]? = some x → vs[j]? = some y → OK F Λ w y x) → OK F Λ w (.tuple vs.toArray) (.t xs)
  | f (fn) (vs : List Value) (xs : List A) : vs.length = xs.length → (∀ (j : Nat) x y, xs[j]? = some x → vs[j]? = some y → OK F Λ w y x) → OK F Λ w (.func (.func fn) #[] vs.toArray) (.f fn xs)
def Sizes (w w' : World) : Prop := ∀ (b : Nat) (cs : Array Value) (t : TypeId), w.heap[b]? = some (.cells cs t (0, 0)) → ∃ cs' : Array Value, w'.heap[b]? = some (.cells cs' t (0, 0)) ∧ cs'.size = cs.size
theorem Sizes.refl (w : World) : Sizes w w := fun _ cs _ h => ⟨cs, h, rfl⟩
theorem Sizes.trans {w w1 w2 : World} (h : Sizes w w1) (h' : Sizes w1 w2) : Sizes w w2 := fun b cs t hb => by
 obtain ⟨cs1, h1, e1⟩ := h b cs t hb
 obtain ⟨cs2, h2, e2⟩ := h' b cs1 t h1
 exact ⟨cs2, h2, e2.trans e1⟩
theorem Sl.mono {Λ : Lbl} {w w' : World} (h : Sizes w w') {L a n k v} (hs : Sl Λ w L a n k v) : Sl Λ w' L a n k v := by
 rcases hs with hs | ⟨b, o, cap, h1, h2, h3, h3', cs, t, h4, h5⟩
 ·exact .inl hs
 ·obtain ⟨cs', h6, h7⟩ := h b cs t h4
  exact .inr ⟨b, o, cap, h1, h2, h3, h3', cs', t, h6, by omega⟩
theorem OK.mono {F F' : Nat → Prop} {Λ : Lbl} {w w' : World} (h : ∀ b, F b → F' b ∧ w'.heap[b]? = w.heap[b]?) (hs : Sizes w w') {v : Value} {x : A} (hi : OK F Λ w v x) : OK F' Λ w' v x := by
 induction hi with
 | imm hi => exact .imm (hi.mono h)
 | j v => exact .j v
 | m h1 => exact .m (h1.mono hs)
 | e h1 => exact .e h1
 | b h1 => exact .b h1
 | g vs xs hl _ ih => exact .g vs xs hl ih
 | t vs xs hl _ ih => exact .t vs xs hl ih
 | f fn vs xs hl _ ih => exact .f fn vs xs hl ih
mutual
def A.names (p : List Nat → Bool) : A → Bool
 | .m L _ _ _ => p L
 | .e L _ => p L
 | .b l _ => p [l]
 | .g xs => namesL p xs
 | .t xs => namesL p xs
 | .f _ xs => namesL p xs
 | .j => false
 | .n => false
 | .v _ => false
 | .i _ _ => false
 | .o _ _ => false
 | .q _ _ => false
 | .raw _ _ => false
def namesL (p : List Nat → Bool) : List A → Bool
 | [] => false
 | x :: xs => x.names p || namesL p xs
end
theorem namesL_false {p : List Nat → Bool} : ∀ {xs : List A}, namesL p xs = false → ∀ x ∈ xs, x.names p = false
 | [], _, x, hx => by cases hx
 | y :: ys, h, x, hx => by
  simp only [namesL, Bool.or_eq_false_iff] at h
  rcases List.mem_cons.1 hx with rfl | hx
  ·exact h.1
  ·exact namesL_false h.2 x hx
theorem OK.relabel {F : Nat → Prop} {Λ Λ' : Lbl} {w : World} (p : List Nat → Bool) (h : ∀ L b o, p L = false → Λ L = some (b, o) → Λ' L = some (b, o)) {v : Value} {x : A} (hi : OK F Λ w v x) (hn : x.names p = false) : OK F Λ' w v x := by
 induction hi with
 | imm hi => exact .imm hi
 | j v => exact .j v
 | m h1 =>
  simp only [A.names] at hn
  refine .m ?_
  rcases h1 with h1 | ⟨b, o, cap, h1, h2⟩
  ·exact .inl h1
  ·exact .inr ⟨b, o, cap, h _ _ _ hn h1, h2⟩
 | e h1 => simp only [A.names] at hn; exact .e (h _ _ _ hn h1)
 | b h1 => simp only [A.names] at hn; exact .b (h _ _ _ hn h1)
 | g vs xs hl _ ih => simp only [A.names] at hn; exact .g vs xs hl fun j x y hx hy => ih j x y hx hy (namesL_false hn x (List.mem_of_getElem? hx))
 | t vs xs hl _ ih => simp only [A.names] at hn; exact .t vs xs hl fun j x y hx hy => ih j x y hx hy (namesL_false hn x (List.mem_of_getElem? hx))
 | f fn vs xs hl _ ih => simp only [A.names] at hn; exact .f fn vs xs hl fun j x y hx hy => ih j x y hx hy (namesL_false hn x (List.mem_of_getElem? hx))
theorem OK.ext {F : Nat → Prop} {Λ Λ' : Lbl} {w : World} (h : ∀ L b o, Λ L = some (b, o) → Λ' L = some (b, o)) {v : Value} {x : A} (hi : OK F Λ w v x) : OK F Λ' w v x := by
 induction hi with
 | imm hi => exact .imm hi
 | j v => exact .j v
 | m h1 =>
  refine .m ?_
  rcases h1 with h1 | ⟨b, o, cap, h1, h2⟩
  ·exact .inl h1
  ·exact .inr ⟨b, o, cap, h _ _ _ h1, h2⟩
 | e h1 => exact .e (h _ _ _ h1)
 | b h1 => exact .b (h _ _ _ h1)
 | g vs xs hl _ ih => exact .g vs xs hl ih
 | t vs xs hl _ ih => exact .t vs xs hl ih
 | f fn vs xs hl _ ih => exact .f fn vs xs hl ih
def A.inCell : A → Bool
 | .v x => sc x
 | .n => true
 | .i _ _ => true
 | .q _ _ => true
 | .raw u _ => sc u
 | .f fn xs => !namesL (fun _ => true) xs
 | _ => false
def A.inBox : A → Bool
 | .v x => sc x
 | .n => true
 | .i _ _ => true
 | .q _ _ => true
 | .b _ _ => true
 | .m _ _ _ _ => true
 | .e _ _ => true
 | .f _ _ => true
 | .raw u _ => sc u
 | _ => false
def isBox (σ : Store) : List Nat → Bool
 | [l] => match σ[l]? with | some (.box _) => true | _ => false
 | _ => false
def Cell (F : Nat → Prop) (Λ : Lbl) (w : World) (bx : Bool) (L : List Nat) (c : Value) : A → Prop
 | .j => True
 | .o k ys => True ∧ 0 < k ∧ ∃ n, ys.length = n * k ∧ Sl Λ w L 0 n k c
 | x => (if bx then x.inBox else x.inCell) = true ∧ OK F Λ w c x
def Tabs (F : Nat → Prop) (w : World) : Prop := ∀ t ∈ tables, F t.1 ∧ ∃ te fr, w.heap[t.1]? = some (.cells t.2 te fr)
theorem Tabs.mono {F F' : Nat → Prop} {w w' : World} (h : Tabs F w) (hF : ∀ b, F b → F' b ∧ w'.heap[b]? = w.heap[b]?) : Tabs F' w' := fun t ht =>
 have ⟨h1, te, fr, h2⟩ := h t ht
 ⟨(hF _ h1).1, te, fr, (hF _ h1).2.trans h2⟩
structure St (F : Nat → Prop) (Λ : Lbl) (σ : Store) (w : World) : Prop where
  row : ∀ L xs, rowAt σ L = some xs → (Λ L = none ∧ xs = []) ∨ ∃ b o cs t, Λ L = some (b, o) ∧ ¬ F b ∧ w.heap[b]? = some (.cells cs t (0, 0)) ∧
    ∀ j x, xs[j]? = some x → ∃ c, cs[o + j]? = some c ∧ Cell F Λ w (isBox σ L) (L ++ [j]) c x
  apart : ∀ L xs L' xs' b o o', rowAt σ L = some xs → rowAt σ L' = some xs' → Λ L = some (b, o) → Λ L' = some (b, o') → L = L'
  old : ∀ b, F b → b < w.heap.size
  tab : Tabs F w
  lab : ∀ L, σ.length ≤ L.headD 0 → Λ L = none
def Own (Λ : Lbl) (σ : Store) (b : Nat) : Prop := ∃ L xs o, rowAt σ L = some xs ∧ Λ L = some (b, o)
def drawnOK : Prop := True
def OsLe (w w' : World) : Prop := w'.os = w.os ∧ (drawnOK → w.drawn ≤ w'.drawn)
theorem OsLe.refl (w : World) : OsLe w w := ⟨rfl, fun _ => Nat.le_refl _⟩
theorem OsLe.post {w w' : World} (h : OsLe w w') : OsLe w { w' with drawn := w'.drawn + 1 } := ⟨h.1, fun d => Nat.le_succ_of_le (h.2 d)⟩
theorem OsLe.pre {w w' : World} (h : OsLe { w with drawn := w.drawn + 1 } w') : OsLe w w' := ⟨h.1, fun d => Nat.le_of_succ_le (h.2 d)⟩
structure Step (m : Nat) (F : Nat → Prop) (Λ : Lbl) (σ : Store) (w : World) (F' : Nat → Prop) (Λ' : Lbl) (σ' : Store) (w' : World) : Prop where
  os : OsLe w w'
  tape : w'.tape = w.tape
  output : w'.output = w.output
  size : w.heap.size ≤ w'.heap.size
  sizes : Sizes w w'
  keep : ∀ b, b < w.heap.size → ¬ Own Λ σ b → w'.heap[b]? = w.heap[b]?
  mono : ∀ b, F b → F' b
  new : ∀ b, F' b → F b ∨ Own Λ σ b ∨ w.heap.size ≤ b
  own : ∀ b, Own Λ' σ' b → Own Λ σ b ∨ w.heap.size ≤ b
  len : min m σ.length ≤ σ'.length
  boxes : ∀ (l : Nat) xs, l < m → σ[l]? = some (.box xs) → Λ' [l] = Λ [l] ∧ ∃ xs', σ'[l]? = some (.box xs')
  kept : ∀ L b o, L.headD 0 < m → Λ L = some (b, o) → Λ' L = some (b, o)
theorem Step.refl (m : Nat) (F : Nat → Prop) (Λ : Lbl) (σ : Store) (w : World) : Step m F Λ σ w F Λ σ w :=
 ⟨OsLe.refl _, rfl, rfl, Nat.le_refl _, Sizes.refl _, fun _ _ _ => rfl, fun _ h => h, fun _ h => .inl h, fun _ h => .inl h, Nat.min_le_right _ _, fun _ xs _ h => ⟨rfl, xs, h⟩, fun _ _ _ _ h => h⟩
theorem Step.trans {m F Λ σ w F1 Λ1 σ1 w1 F2 Λ2 σ2 w2} (h : Step m F Λ σ w F1 Λ1 σ1 w1) (h' : Step m F1 Λ1 σ1 w1 F2 Λ2 σ2 w2) : Step m F Λ σ w F2 Λ2 σ2 w2 where
 os := ⟨h'.os.1.trans h.os.1, fun d => Nat.le_trans (h.os.2 d) (h'.os.2 d)⟩
 tape := h'.tape.trans h.tape
 output := h'.output.trans h.output
 size := Nat.le_trans h.size h'.size
 sizes := h.sizes.trans h'.sizes
 keep b hb ho := by
  have hn : ¬ Own Λ1 σ1 b := fun h1 => by
   rcases h.own b h1 with h1 | h1
   ·exact ho h1
   ·omega
  rw [h'.keep b (Nat.lt_of_lt_of_le hb h.size) hn, h.keep b hb ho]
 mono b hb := h'.mono b (h.mono b hb)
 new b hb := by
  have hsz := h.size
  rcases h'.new b hb with h1 | h1 | h1
  ·exact h.new b h1
  ·exact .inr (h.own b h1)
  ·exact .inr (.inr (by omega))
 own b hb := by
  have hsz := h.size
  rcases h'.own b hb with h1 | h1
  ·exact h.own b h1
  ·exact .inr (by omega)
 len := by have := h.len; have := h'.len; omega
 kept L b o hl hL := h'.kept L b o hl (h.kept L b o hl hL)
 boxes l xs hl hx := by
  obtain ⟨e1, xs1, h1⟩ := h.boxes l xs hl hx
  obtain ⟨e2, xs2, h2⟩ := h'.boxes l xs1 hl h1
  exact ⟨e2.trans e1, xs2, h2⟩
theorem St.notOwn {F Λ σ w} (hs : St F Λ σ w) {b : Nat} (hb : F b) : ¬ Own Λ σ b := by
 rintro ⟨L, xs, o, hr, hl⟩
 rcases hs.row L xs hr with ⟨h1, _⟩ | ⟨b', o', cs, t, h1, h2, _⟩
 ·rw [hl] at h1; cases h1
 ·rw [hl] at h1; cases h1; exact h2 hb
theorem Step.frozen {m F Λ σ w F' Λ' σ' w'} (hs : St F Λ σ w) (h : Step m F Λ σ w F' Λ' σ' w') : ∀ b, F b → F' b ∧ w'.heap[b]? = w.heap[b]? :=
 fun b hb => ⟨h.mono b hb, h.keep b (hs.old b hb) (hs.notOwn hb)⟩
abbrev Env := List (Nat × A)
def lk : Env → Nat → A
 | [], _ => .j
 | (t, a) :: E, u => if t = u then a else lk E u
def FrOK (F : Nat → Prop) (Λ : Lbl) (w : World) (tmps : Array Value) (E : Env) : Prop := ∀ t, OK F Λ w (tmps.getD t undef) (lk E t)
theorem FrOK.mono {F F' : Nat → Prop} {Λ : Lbl} {w w' : World} (h : ∀ b, F b → F' b ∧ w'.heap[b]? = w.heap[b]?) (hs : Sizes w w') {tmps E} (hf : FrOK F Λ w tmps E) : FrOK F' Λ w' tmps E :=
 fun t => (hf t).mono h hs
end Go.Sep
set_option linter.unusedVariables false
set_option linter.unusedSimpArgs false
namespace Go.Sep
open Go
section
variable {F : Nat → Prop} {Λ : Lbl} {w : World}
theorem OK.v_inv {v x : Value} (h : OK F Λ w v (.v x)) : v = x := by
 cases h with | imm h => cases h with | v => rfl
theorem OK.n_inv {v : Value} (h : OK F Λ w v .n) : ∃ ad, v = .slice ad 0 0 := by
 cases h with | imm h => cases h with | n ad => exact ⟨ad, rfl⟩
theorem OK.i_inv {v : Value} {k : Nat} {xs : List A} (h : OK F Λ w v (.i k xs)) {n : Nat} (hk : 0 < k) (hl : xs.length = n * k) :
  (n = 0 ∧ xs = [] ∧ ∃ ad cap, v = .slice ad 0 cap) ∨ ∃ (b o cap : Nat) (cs : Nat → Value), 0 < n ∧ n ≤ maxLen ∧ v = .slice (some ⟨b, o, none⟩) n cap ∧ F b ∧ (∀ j x, xs[j]? = some x → w.cell? ⟨b, o + j, none⟩ = some (cs j)) ∧ (∀ j x, xs[j]? = some x → Imm F w (cs j) x) := by
 cases h with
 | imm h =>
  cases h with
  | i0 ad cap =>
   refine .inl ⟨?_, rfl, ad, cap, rfl⟩
   have : n * k = 0 := by simpa using hl.symm
   rcases Nat.mul_eq_zero.1 this with h | h <;> omega
  | i b o n' cap k' cs xs' hb h0 hnc hm hl' hc hi =>
   have : n' = n := Nat.eq_of_mul_eq_mul_right hk (hl'.symm.trans hl)
   subst this
   exact .inr ⟨b, o, cap, cs, h0, hm, rfl, hb, hc, hi⟩
theorem OK.q_inv {v : Value} {xs : List A} {d : Nat} (h : OK F Λ w v (.q xs d)) : ∃ (b o : Nat) (cs : Nat → Value), v = .pointer (some ⟨b, o + d, none⟩) ∧ F b ∧ (∀ j x, xs[j]? = some x → w.cell? ⟨b, o + j, none⟩ = some (cs j)) ∧ (∀ j x, xs[j]? = some x → Imm F w (cs j) x) := by
 cases h with | imm h => cases h with | q b o d cs xs hb hc hi => exact ⟨b, o, cs, rfl, hb, hc, hi⟩
theorem OK.m_inv {v : Value} {L a n k} (h : OK F Λ w v (.m L a n k)) : Sl Λ w L a n k v := by
 cases h with
 | m h => exact h
 | imm h => cases h
theorem OK.e_inv {v : Value} {L a} (h : OK F Λ w v (.e L a)) : ∃ b o, Λ L = some (b, o) ∧ v = .pointer (some ⟨b, o + a, none⟩) := by
 cases h with
 | e h => exact ⟨_, _, h, rfl⟩
 | imm h => cases h
theorem OK.b_inv {v : Value} {l a} (h : OK F Λ w v (.b l a)) : ∃ b o, Λ [l] = some (b, o) ∧ v = .pointer (some ⟨b, o + a, none⟩) := by
 cases h with
 | b h => exact ⟨_, _, h, rfl⟩
 | imm h => cases h
theorem OK.g_inv {v : Value} {xs : List A} (h : OK F Λ w v (.g xs)) : ∃ vs : List Value, v = .agg vs.toArray ∧ vs.length = xs.length ∧ ∀ (j : Nat) x y, xs[j]? = some x → vs[j]? = some y → OK F Λ w y x := by
 cases h with
 | g vs _ hl h => exact ⟨vs, rfl, hl, h⟩
 | imm h => cases h with | g vs _ hl h => exact ⟨vs, rfl, hl, fun j x y hx hy => .imm (h j x y hx hy)⟩
theorem OK.t_inv {v : Value} {xs : List A} (h : OK F Λ w v (.t xs)) : ∃ vs : List Value, v = .tuple vs.toArray ∧ vs.length = xs.length ∧ ∀ (j : Nat) x y, xs[j]? = some x → vs[j]? = some y → OK F Λ w y x := by
 cases h with
 | t vs _ hl h => exact ⟨vs, rfl, hl, h⟩
 | imm h => cases h with | t vs _ hl h => exact ⟨vs, rfl, hl, fun j x y hx hy => .imm (h j x y hx hy)⟩
theorem OK.f_inv {v : Value} {fn} {xs : List A} (h : OK F Λ w v (.f fn xs)) : ∃ vs : List Value, v = .func (.func fn) #[] vs.toArray ∧ vs.length = xs.length ∧ ∀ (j : Nat) x y, xs[j]? = some x → vs[j]? = some y → OK F Λ w y x := by
 cases h with
 | f _ vs _ hl h => exact ⟨vs, rfl, hl, h⟩
 | imm h => cases h with | f _ vs _ hl h => exact ⟨vs, rfl, hl, fun j x y hx hy => .imm (h j x y hx hy)⟩
end
def constA : Value → A
 | .slice none 0 0 => .n
 | c => .v c
def val (E : Env) : Operand → A
 | .tmp t => lk E t
 | .const c => constA c
 | .global _ => .j
 | .func f => .f f []
theorem constA_ok {F : Nat → Prop} {Λ : Lbl} {w : World} (c : Value) : OK F Λ w c (constA c) := by
 unfold constA
 split
 ·exact .imm (.n _)
 ·exact .imm (.v _)
theorem val_ok {F Λ w tmps E} {ds} (h : FrOK F Λ w tmps E) (x : Operand) : OK F Λ w (Act.eval ⟨tmps, ds⟩ x) (val E x) := by
 cases x with
 | tmp t => exact h t
 | const c => exact constA_ok c
 | global g => exact .j _
 | func f => exact .imm (.f f [] [] rfl (by simp))
def Alike (F : Nat → Prop) (Λ : Lbl) (σ : Store) (w w' : World) : Prop := ∀ b, F b ∨ Own Λ σ b → w'.heap[b]? = w.heap[b]?
theorem Alike.refl (F Λ σ w) : Alike F Λ σ w w := fun _ _ => rfl
theorem Alike.cell {F Λ σ w w'} (h : Alike F Λ σ w w') {a : Addr} (hb : F a.block ∨ Own Λ σ a.block) : w'.cell? a = w.cell? a := World.cell?_of_block (w := w) (h _ hb)
def Pur (P : Program) (o : Oper) (E : Env) (σ : Store) (r : A) : Prop :=
 ∀ F Λ w tmps, St F Λ σ w → FrOK F Λ w tmps E → ∃ v, OK F Λ w v r ∧ ∀ w', Alike F Λ σ w w' → (execOp (Act.eval ⟨tmps, []⟩) o).run P w' = .ok (.value v) w'
section
variable {P : Program} {o : Oper} {E : Env} {σ : Store}
theorem pur_move {x : Operand} (h : o.op = .move x) : Pur P o E σ (val E x) := fun F Λ w tmps _ hf =>
 ⟨_, val_ok hf x, fun w' _ => by simp only [execOp, h]; rfl⟩
theorem pur_assign {x : Operand} (h : o.op = .assign x) : Pur P o E σ (val E x) := fun F Λ w tmps _ hf =>
 ⟨_, val_ok hf x, fun w' _ => by simp only [execOp, h]; rfl⟩
theorem pur_pick {c a b : Operand} {t : Bool} {r : A} (h : o.op = .pick c a b) (hc : val E c = .v (.bool t)) (hr : (if t then val E a else val E b) = r) : Pur P o E σ r := fun F Λ w tmps _ hf => by
 have h1 := val_ok (ds := []) hf c
 rw [hc] at h1
 have h1 := h1.v_inv
 subst hr
 cases t
 ·exact ⟨_, val_ok (ds := []) hf b, fun w' _ => by simp [execOp, h, h1, asBool]⟩
 ·exact ⟨_, val_ok (ds := []) hf a, fun w' _ => by simp [execOp, h, h1, asBool]⟩
theorem pur_bin {op t x y t'} {a b r : Value} (h : o.op = .binOp op t x y t') (hx : val E x = .v a) (hy : val E y = .v b)
  (hr : ∀ w, Sem.run P (do eqGuard op t x y a b; binOp op t a b) w = .ok r w) : Pur P o E σ (.v r) := fun F Λ w tmps _ hf => by
 have h1 := val_ok (ds := []) hf x
 have h2 := val_ok (ds := []) hf y
 rw [hx] at h1
 rw [hy] at h2
 have h1 := h1.v_inv
 have h2 := h2.v_inv
 refine ⟨r, .imm (.v r), fun w' _ => ?_⟩
 simp only [execOp, h, h1, h2]
 rw [Sem.run_bind, hr w']; rfl
def Fits (k : IntKind) (x c : Int) : Prop := c = k.wrap x
theorem fits64 {x : Int} (h1 : -9223372036854775808 ≤ x) (h2 : x ≤ 9223372036854775807) : Fits .i64 x x := by
 unfold Fits IntKind.wrap; simp [IntKind.bits, IntKind.signed]; omega
theorem eqGuard_int {op t x y k a k' b} (w : World) : (eqGuard op t x y (.int k a) (.int k' b)).run P w = .ok () w := by
 unfold eqGuard; split <;> simp
theorem pur_add {t x y t' k} {a b c : Int} (h : o.op = .binOp .add t x y t') (hx : val E x = .v (.int k a)) (hy : val E y = .v (.int k b)) (hc : Fits k (a + b) c) : Pur P o E σ (.v (.int k c)) :=
 pur_bin h hx hy fun w => by simp [eqGuard_int, binOp, Op.intArith, hc.symm]
theorem pur_sub {t x y t' k} {a b c : Int} (h : o.op = .binOp .sub t x y t') (hx : val E x = .v (.int k a)) (hy : val E y = .v (.int k b)) (hc : Fits k (a - b) c) : Pur P o E σ (.v (.int k c)) :=
 pur_bin h hx hy fun w => by simp [eqGuard_int, binOp, Op.intArith, hc.symm]
theorem pur_mul {t x y t' k} {a b c : Int} (h : o.op = .binOp .mul t x y t') (hx : val E x = .v (.int k a)) (hy : val E y = .v (.int k b)) (hc : Fits k (a * b) c) : Pur P o E σ (.v (.int k c)) :=
 pur_bin h hx hy fun w => by simp [eqGuard_int, binOp, Op.intArith, hc.symm]
theorem pur_lss {t x y t' k} {a b : Int} (h : o.op = .binOp .lss t x y t') (hx : val E x = .v (.int k a)) (hy : val E y = .v (.int k b)) : Pur P o E σ (.v (.bool (decide (a < b)))) :=
 pur_bin h hx hy fun w => by simp [eqGuard_int, binOp, Op.intCmp]
theorem pur_leq {t x y t' k} {a b : Int} (h : o.op = .binOp .leq t x y t') (hx : val E x = .v (.int k a)) (hy : val E y = .v (.int k b)) : Pur P o E σ (.v (.bool (decide (a ≤ b)))) :=
 pur_bin h hx hy fun w => by simp [eqGuard_int, binOp, Op.intCmp]
theorem pur_gtr {t x y t' k} {a b : Int} (h : o.op = .binOp .gtr t x y t') (hx : val E x = .v (.int k a)) (hy : val E y = .v (.int k b)) : Pur P o E σ (.v (.bool (decide (b < a)))) :=
 pur_bin h hx hy fun w => by simp [eqGuard_int, binOp, Op.intCmp]
theorem pur_geq {t x y t' k} {a b : Int} (h : o.op = .binOp .geq t x y t') (hx : val E x = .v (.int k a)) (hy : val E y = .v (.int k b)) : Pur P o E σ (.v (.bool (decide (b ≤ a)))) :=
 pur_bin h hx hy fun w => by simp [eqGuard_int, binOp, Op.intCmp]
theorem pur_eql {t x y t' k} {a b : Int} (h : o.op = .binOp .eql t x y t') (hx : val E x = .v (.int k a)) (hy : val E y = .v (.int k b)) : Pur P o E σ (.v (.bool (decide (a = b)))) :=
 pur_bin h hx hy fun w => by simp [eqGuard_int, binOp, Op.intCmp]; rw [Bool.eq_iff_iff]; simp
theorem pur_neq {t x y t' k} {a b : Int} (h : o.op = .binOp .neq t x y t') (hx : val E x = .v (.int k a)) (hy : val E y = .v (.int k b)) : Pur P o E σ (.v (.bool (decide (a ≠ b)))) :=
 pur_bin h hx hy fun w => by simp [eqGuard_int, binOp, Op.intCmp]; rw [Bool.eq_iff_iff]; simp
theorem beq_bytes (a b : ByteArray) : (a.toList == b.toList) = decide (a = b) := by
 rw [ByteArray.toList_eq, ByteArray.toList_eq]
 obtain ⟨⟨x⟩⟩ := a
 obtain ⟨⟨y⟩⟩ := b
 rw [Bool.eq_iff_iff]; simp
theorem pur_not {t x} {b : Bool} (h : o.op = .unOp .not t x) (hx : val E x = .v (.bool b)) : Pur P o E σ (.v (.bool (!b))) := fun F Λ w tmps _ hf => by
 have h1 := val_ok (ds := []) hf x
 rw [hx] at h1
 have h1 := h1.v_inv
 exact ⟨_, .imm (.v _), fun w' _ => by simp [execOp, h, h1, Op.unary]⟩
structure SlT (P : Program) (t e k : Nat) : Prop where
  u : P.underlying t = some (.slice e)
  i : ∃ inf, P.info? e = some inf ∧ inf.size = k
  pos : 0 < k
theorem run_sizeOf' {e k : Nat} (h : ∃ inf, P.info? e = some inf ∧ inf.size = k) (w : World) : (sizeOf e).run P w = .ok k w := by
 obtain ⟨inf, h1, h2⟩ := h
 simp [sizeOf, typeInfo, h1, h2]
theorem addr_add (b o j : Nat) : (⟨b, o, none⟩ : Addr).add j = ⟨b, o + j, none⟩ := by
 unfold Addr.add; split <;> simp_all
theorem pur_call_len {t x} {n : Int} (h : o.op = .call { callee := .builtin .len, args := #[x], argTypes := #[t] })
  (hx : ∀ F Λ w tmps, St F Λ σ w → FrOK F Λ w tmps E → ∃ u, Act.eval ⟨tmps, []⟩ x = u ∧ ∀ w', (Builtin.len_ #[t] o.type #[u]).run P w' = .ok (.int .i64 n) w') : Pur P o E σ (.v (.int .i64 n)) := fun F Λ w tmps hs hf => by
 obtain ⟨u, h1, h2⟩ := hx F Λ w tmps hs hf
 refine ⟨_, .imm (.v _), fun w' _ => ?_⟩
 have := h2 w'
 simp only [execOp, h, resolve, Sem.run_bind, Sem.run_pure, invoke, builtin]
 simp [h1, this]
theorem pur_len_i {t x e k k'} {xs : List A} (n : Nat) (hT : SlT P t e k') (hx : val E x = .i k xs) (hk : 0 < k) (hn : xs.length = n * k) (h : o.op = .call { callee := .builtin .len, args := #[x], argTypes := #[t] }) : Pur P o E σ (.v (.int .i64 n)) :=
 pur_call_len h fun F Λ w tmps hs hf => by
  have h1 := val_ok (ds := []) hf x
  rw [hx] at h1
  rcases h1.i_inv hk hn with ⟨h0, _, ad, cap, h2⟩ | ⟨b, o', cap, cs, h0, _, h2, _⟩
  ·exact ⟨_, h2, fun w' => by simp [Builtin.len_, run_underlying hT.u, goInt, h0]⟩
  ·exact ⟨_, h2, fun w' => by simp [Builtin.len_, run_underlying hT.u, goInt]⟩
theorem pur_len_n {t x e k'} (hT : SlT P t e k') (hx : val E x = .n) (h : o.op = .call { callee := .builtin .len, args := #[x], argTypes := #[t] }) : Pur P o E σ (.v (.int .i64 (0 : Nat))) :=
 pur_call_len h fun F Λ w tmps hs hf => by
  have h1 := val_ok (ds := []) hf x
  rw [hx] at h1
  obtain ⟨ad, h2⟩ := h1.n_inv
  exact ⟨_, h2, fun w' => by simp [Builtin.len_, run_underlying hT.u, goInt]⟩
theorem Sl.form {Λ : Lbl} {w : World} {L a n k v} (h : Sl Λ w L a n k v) : ∃ ad cap, v = .slice ad n cap := by
 rcases h with ⟨rfl, ad, rfl⟩ | ⟨b, o, cap, _, rfl, _⟩
 ·exact ⟨ad, 0, rfl⟩
 ·exact ⟨_, cap, rfl⟩
theorem pur_len_m {t x e k' L a n k} (hT : SlT P t e k') (hx : val E x = .m L a n k) (h : o.op = .call { callee := .builtin .len, args := #[x], argTypes := #[t] }) : Pur P o E σ (.v (.int .i64 n)) :=
 pur_call_len h fun F Λ w tmps hs hf => by
  have h1 := val_ok (ds := []) hf x
  rw [hx] at h1
  obtain ⟨ad, cap, h2⟩ := h1.m_inv.form
  exact ⟨_, h2, fun w' => by simp [Builtin.len_, run_underlying hT.u, goInt]⟩
theorem pur_ix_i {t x y e k kk} {xs : List A} {z : Int} (n : Nat) (hT : SlT P t e k) (hx : val E x = .i k xs) (hy : val E y = .v (.int kk z)) (hn : xs.length = n * k) (h0 : 0 ≤ z) (h1 : z < n) (h : o.op = .indexAddr t x y) : Pur P o E σ (.q xs (z.toNat * k)) := fun F Λ w tmps hs hf => by
 have e1 := val_ok (ds := []) hf x
 have e2 := val_ok (ds := []) hf y
 rw [hx] at e1
 rw [hy] at e2
 have e2 := e2.v_inv
 rcases e1.i_inv hT.pos hn with ⟨hz, _⟩ | ⟨b, o', cap, cs, _, _, h2, hb, hc, hi⟩
 ·omega
 ·refine ⟨.pointer (some ⟨b, o' + z.toNat * k, none⟩), .imm (.q b o' _ cs xs hb hc hi), fun w' _ => ?_⟩
  simp only [execOp, h, h2, e2]
  simp [Instr.indexAt, run_underlying hT.u, asIntOf, h0, h1, run_sizeOf' hT.i, addr_add]
theorem pur_ix_m {t x y e k kk L a n} {z : Int} (hT : SlT P t e k) (hx : val E x = .m L a n k) (hy : val E y = .v (.int kk z)) (h0 : 0 ≤ z) (h1 : z < n) (h : o.op = .indexAddr t x y) : Pur P o E σ (.e L (a + z.toNat * k)) := fun F Λ w tmps hs hf => by
 have e1 := val_ok (ds := []) hf x
 have e2 := val_ok (ds := []) hf y
 rw [hx] at e1
 rw [hy] at e2
 have e2 := e2.v_inv
 rcases e1.m_inv with ⟨hz, _⟩ | ⟨b, o', cap, hL, h2, _⟩
 ·omega
 ·refine ⟨.pointer (some ⟨b, o' + (a + z.toNat * k), none⟩), .e hL, fun w' _ => ?_⟩
  simp only [execOp, h, h2, e2]
  simp [Instr.indexAt, run_underlying hT.u, asIntOf, h0, h1, run_sizeOf' hT.i, addr_add, Nat.add_assoc]
structure FldT (P : Program) (t x off ft : Nat) : Prop where
  u : ∃ fs f, P.underlying t = some (.struct fs) ∧ fs[x]? = some f ∧ f.offset = off ∧ f.type = ft
  i : ∃ inf, P.info? ft = some inf ∧ inf.size ≠ 0
theorem run_fieldAt {t x off ft : Nat} (hT : FldT P t x off ft) (b o' : Nat) (w : World) : (Instr.fieldAt t (.pointer (some ⟨b, o', none⟩)) x).run P w = .ok (.pointer (some ⟨b, o' + off, none⟩)) w := by
 obtain ⟨⟨fs, f, h1, h2, h3, h4⟩, inf, h5, h6⟩ := hT
 subst h3 h4
 simp [Instr.fieldAt, run_underlying h1, h2, Instr.sureAddr, fieldPlace, sizeOf, typeInfo, h5, h6, addr_add]
theorem pur_fa_q {t x fld off ft d} {xs : List A} (hT : FldT P t fld off ft) (hx : val E x = .q xs d) (h : o.op = .fieldAddr t x fld) : Pur P o E σ (.q xs (d + off)) := fun F Λ w tmps hs hf => by
 have e1 := val_ok (ds := []) hf x
 rw [hx] at e1
 obtain ⟨b, o', cs, h2, hb, hc, hi⟩ := e1.q_inv
 refine ⟨.pointer (some ⟨b, o' + (d + off), none⟩), .imm (.q b o' _ cs xs hb hc hi), fun w' _ => ?_⟩
 simp only [execOp, h, h2]
 simp [run_fieldAt hT, Nat.add_assoc]
theorem pur_fa_e {t x fld off ft a L} (hT : FldT P t fld off ft) (hx : val E x = .e L a) (h : o.op = .fieldAddr t x fld) : Pur P o E σ (.e L (a + off)) := fun F Λ w tmps hs hf => by
 have e1 := val_ok (ds := []) hf x
 rw [hx] at e1
 obtain ⟨b, o', hL, h2⟩ := e1.e_inv
 refine ⟨.pointer (some ⟨b, o' + (a + off), none⟩), .e hL, fun w' _ => ?_⟩
 simp only [execOp, h, h2]
 simp [run_fieldAt hT, Nat.add_assoc]
theorem pur_fa_b {t x fld off ft a l} (hT : FldT P t fld off ft) (hx : val E x = .b l a) (h : o.op = .fieldAddr t x fld) : Pur P o E σ (.b l (a + off)) := fun F Λ w tmps hs hf => by
 have e1 := val_ok (ds := []) hf x
 rw [hx] at e1
 obtain ⟨b, o', hL, h2⟩ := e1.b_inv
 refine ⟨.pointer (some ⟨b, o' + (a + off), none⟩), .b hL, fun w' _ => ?_⟩
 simp only [execOp, h, h2]
 simp [run_fieldAt hT, Nat.add_assoc]
def isOne : TypeDesc → Bool
 | .struct _ => false
 | .array _ _ => false
 | _ => true
structure OneT (P : Program) (t : Nat) : Prop where
  u : ∃ d, P.underlying t = some d ∧ isOne d = true
structure AggT (P : Program) (t k : Nat) : Prop where
  u : ∃ fs, P.underlying t = some (.struct fs)
  i : ∃ inf, P.info? t = some inf ∧ inf.size = k
theorem run_isAgg1 {t} (h : OneT P t) (w : World) : (isAgg t).run P w = .ok false w := by
 obtain ⟨d, h1, h2⟩ := h
 simp only [isAgg, Sem.run_bind, run_underlying h1, Result.andThen]
 cases d <;> simp_all [isOne]
theorem run_isAggK {t k} (h : AggT P t k) (w : World) : (isAgg t).run P w = .ok true w := by
 obtain ⟨⟨fs, h1⟩, _⟩ := h
 simp [isAgg, run_underlying h1]
theorem run_load1 {t} (h : OneT P t) {w : World} {b o' : Nat} {c : Value} (hc : w.cell? ⟨b, o', none⟩ = some c) : (Instr.loadAt t (.pointer (some ⟨b, o', none⟩))).run P w = .ok c w := by
 simp [Instr.loadAt, Instr.sureAddr, loadVar, run_isAgg1 h, hc]
theorem run_loadK {t k} (h : AggT P t k) {w : World} {b o' : Nat} {cs : List Value} (hl : cs.length = k) (hc : ∀ j c, cs[j]? = some c → w.cell? ⟨b, o' + j, none⟩ = some c) : (Instr.loadAt t (.pointer (some ⟨b, o', none⟩))).run P w = .ok (.agg cs.toArray) w := by
 have := run_loadCells_list (P := P) w ⟨b, o', none⟩ cs (fun j v hj => by rw [addr_add]; exact hc j v hj)
 rw [hl] at this
 simp [Instr.loadAt, Instr.sureAddr, loadVar, run_isAggK h, run_sizeOf' h.i, this]
theorem pur_ld_q {t x d y} {xs : List A} (hT : OneT P t) (hx : val E x = .q xs d) (hy : xs[d]? = some y) (h : o.op = .load t x) : Pur P o E σ y := fun F Λ w tmps hs hf => by
 have e1 := val_ok (ds := []) hf x
 rw [hx] at e1
 obtain ⟨b, o', cs, h2, hb, hc, hi⟩ := e1.q_inv
 refine ⟨cs d, .imm (hi d y hy), fun w' ha => ?_⟩
 have hc' := hc d y hy
 rw [← ha.cell (.inl hb)] at hc'
 simp only [execOp, h, h2]
 simp [run_load1 hT hc']
theorem pur_ldK_q {t x d k} {xs : List A} (hT : AggT P t k) (hx : val E x = .q xs d) (hy : d + k ≤ xs.length) (h : o.op = .load t x) : Pur P o E σ (.g ((xs.drop d).take k)) := fun F Λ w tmps hs hf => by
 have e1 := val_ok (ds := []) hf x
 rw [hx] at e1
 obtain ⟨b, o', cs, h2, hb, hc, hi⟩ := e1.q_inv
 have hj : ∀ j, j < k → ∃ y, xs[d + j]? = some y := fun j hj => ⟨xs[d + j], List.getElem?_eq_getElem (by omega)⟩
 refine ⟨.agg ((List.range k).map fun j => cs (d + j)).toArray, .imm (.g _ _ (by simp; omega) fun j x y hx hy' => ?_), fun w' ha => ?_⟩
 ·have hjk : j < k := by
   rcases Nat.lt_or_ge j k with h | h
   ·exact h
   ·simp [List.getElem?_eq_none, h] at hy'
  simp [hjk] at hy'
  subst hy'
  rw [List.getElem?_take_of_lt hjk, List.getElem?_drop] at hx
  exact hi _ _ hx
 ·simp only [execOp, h, h2]
  rw [Sem.run_bind, run_loadK (cs := (List.range k).map fun j => cs (d + j)) hT (by simp) (fun j c hjc => ?_)]
  ·rfl
  ·have hjk : j < k := by
    rcases Nat.lt_or_ge j k with h | h
    ·exact h
    ·simp [List.getElem?_eq_none, h] at hjc
   simp [hjk] at hjc
   subst hjc
   obtain ⟨y, hy⟩ := hj j hjk
   have hc' := hc _ _ hy
   rw [← ha.cell (.inl hb)] at hc'
   rw [← hc', Nat.add_assoc]
def cellVal (L : List Nat) : A → A
 | .o k ys => .m L 0 (ys.length / k) k
 | x => x
theorem Cell.val {F Λ w bx L c x} (h : Cell F Λ w bx L c x) : OK F Λ w c (cellVal L x) := by
 cases x with
 | o k ys =>
  obtain ⟨_, hk, n, hn, hsl⟩ := h
  have : ys.length / k = n := by rw [hn]; exact Nat.mul_div_cancel _ hk
  simp only [cellVal, this]
  exact .m hsl
 | j => exact .j _
 | _ => exact h.2
theorem St.cellAt {F Λ σ w} (hs : St F Λ σ w) {L xs b o'} (hr : rowAt σ L = some xs) (hL : Λ L = some (b, o')) {d y} (hy : xs[d]? = some y) : ∃ c, w.cell? ⟨b, o' + d, none⟩ = some c ∧ Cell F Λ w (isBox σ L) (L ++ [d]) c y := by
 rcases hs.row L xs hr with ⟨h1, h2⟩ | ⟨b', o'', cs, t, h1, h2, h3, h4⟩
 ·rw [hL] at h1; cases h1
 ·rw [hL] at h1
  cases h1
  obtain ⟨c, h5, h6⟩ := h4 d y hy
  refine ⟨c, ?_, h6⟩
  simp [World.cell?, h3, h5]
theorem pur_ld_e {t x d y L} {xs : List A} (hT : OneT P t) (hx : val E x = .e L d) (hr : rowAt σ L = some xs) (hy : xs[d]? = some y) (h : o.op = .load t x) : Pur P o E σ (cellVal (L ++ [d]) y) := fun F Λ w tmps hs hf => by
 have e1 := val_ok (ds := []) hf x
 rw [hx] at e1
 obtain ⟨b, o', hL, h2⟩ := e1.e_inv
 obtain ⟨c, h3, h4⟩ := hs.cellAt hr hL hy
 refine ⟨c, h4.val, fun w' ha => ?_⟩
 rw [← ha.cell (.inr ⟨L, xs, o', hr, hL⟩)] at h3
 simp only [execOp, h, h2]
 simp [run_load1 hT h3]
theorem pur_ld_b {t x d y l} {xs : List A} (hT : OneT P t) (hx : val E x = .b l d) (hr : rowAt σ [l] = some xs) (hy : xs[d]? = some y) (h : o.op = .load t x) : Pur P o E σ (cellVal [l, d] y) := fun F Λ w tmps hs hf => by
 have e1 := val_ok (ds := []) hf x
 rw [hx] at e1
 obtain ⟨b, o', hL, h2⟩ := e1.b_inv
 obtain ⟨c, h3, h4⟩ := hs.cellAt hr hL hy
 refine ⟨c, h4.val, fun w' ha => ?_⟩
 rw [← ha.cell (.inr ⟨[l], xs, o', hr, hL⟩)] at h3
 simp only [execOp, h, h2]
 simp [run_load1 hT h3]
def cellVals (L : List Nat) (d : Nat) : List A → List A
 | [] => []
 | x :: xs => cellVal (L ++ [d]) x :: cellVals L (d + 1) xs
theorem cellVals_get (L : List Nat) : ∀ (xs : List A) (d j : Nat), (cellVals L d xs)[j]? = (xs[j]?).map (cellVal (L ++ [d + j]))
 | [], d, j => by simp [cellVals]
 | x :: xs, d, 0 => by simp [cellVals]
 | x :: xs, d, j + 1 => by simp [cellVals, cellVals_get L xs, Nat.add_assoc, Nat.add_comm 1 j]
theorem cellVals_len (L : List Nat) : ∀ (xs : List A) (d : Nat), (cellVals L d xs).length = xs.length
 | [], d => rfl
 | x :: xs, d => by simp [cellVals, cellVals_len L xs]
theorem ldK_row {t x d k L b o'} {xs : List A} (hT : AggT P t k) (hr : rowAt σ L = some xs) (hd : d + k ≤ xs.length) (h : o.op = .load t x) {F Λ w tmps} (hs : St F Λ σ w)
  (hL : Λ L = some (b, o')) (h2 : Act.eval ⟨tmps, []⟩ x = .pointer (some ⟨b, o' + d, none⟩)) : ∃ v, OK F Λ w v (.g (cellVals L d ((xs.drop d).take k))) ∧ ∀ w', Alike F Λ σ w w' → (execOp (Act.eval ⟨tmps, []⟩) o).run P w' = .ok (.value v) w' := by
 have key : ∀ j, j < k → ∃ c y, xs[d + j]? = some y ∧ w.cell? ⟨b, o' + (d + j), none⟩ = some c ∧ OK F Λ w c (cellVal (L ++ [d + j]) y) := fun j hj => by
  have hy : xs[d + j]? = some xs[d + j] := List.getElem?_eq_getElem (by omega)
  obtain ⟨c, h3, h4⟩ := hs.cellAt hr hL hy
  exact ⟨c, _, hy, h3, h4.val⟩
 let cs : Nat → Value := fun j => ((w.cell? ⟨b, o' + (d + j), none⟩).getD undef)
 refine ⟨.agg ((List.range k).map cs).toArray, .g _ _ (by simp [cellVals_len]; omega) fun j x y hx hy' => ?_, fun w' ha => ?_⟩
 ·have hjk : j < k := by
   rcases Nat.lt_or_ge j k with h | h
   ·exact h
   ·simp [List.getElem?_eq_none, h] at hy'
  simp [hjk] at hy'
  subst hy'
  obtain ⟨c, y, h3, h4, h5⟩ := key j hjk
  rw [cellVals_get, List.getElem?_take_of_lt hjk, List.getElem?_drop, h3] at hx
  simp at hx
  subst hx
  simp only [cs, h4, Option.getD_some]
  exact h5
 ·simp only [execOp, h, h2]
  rw [Sem.run_bind, run_loadK (cs := (List.range k).map cs) hT (by simp) (fun j c hjc => ?_)]
  ·rfl
  ·have hjk : j < k := by
    rcases Nat.lt_or_ge j k with h | h
    ·exact h
    ·simp [List.getElem?_eq_none, h] at hjc
   simp [hjk] at hjc
   subst hjc
   obtain ⟨c, y, h3, h4, h5⟩ := key j hjk
   have h6 := h4
   rw [← ha.cell (.inr ⟨L, xs, o', hr, hL⟩)] at h4
   simp only [cs, h6, Option.getD_some]
   rw [← h4, Nat.add_assoc]
theorem pur_ldK_b {t x d k l} {xs : List A} (hT : AggT P t k) (hx : val E x = .b l d) (hr : rowAt σ [l] = some xs) (hd : d + k ≤ xs.length) (h : o.op = .load t x) : Pur P o E σ (.g (cellVals [l] d ((xs.drop d).take k))) := fun F Λ w tmps hs hf => by
 have e1 := val_ok (ds := []) hf x
 rw [hx] at e1
 obtain ⟨b, o', hL, h2⟩ := e1.b_inv
 exact ldK_row hT hr hd h hs hL h2
theorem pur_makeFunc {fn : Nat} {cs : List Operand} (h : o.op = .makeFunc (.func fn) #[] cs.toArray) : Pur P o E σ (.f fn (cs.map (val E))) := fun F Λ w tmps hs hf => by
 refine ⟨.func (.func fn) #[] (cs.map (Act.eval ⟨tmps, []⟩)).toArray, .f fn _ _ (by simp) fun j x y hx hy => ?_, fun w' _ => ?_⟩
 ·simp only [List.getElem?_map] at hx hy
  cases hj : cs[j]? with
  | none => simp [hj] at hx
  | some c =>
   simp [hj] at hx hy
   subst hx hy
   exact val_ok hf c
 ·simp only [execOp, h]; simp [Instr.makeFunc]
theorem pur_extract {x ix y} {xs : List A} (hx : val E x = .t xs) (hy : xs[ix]? = some y) (h : o.op = .extract x ix) : Pur P o E σ y := fun F Λ w tmps hs hf => by
 have e1 := val_ok (ds := []) hf x
 rw [hx] at e1
 obtain ⟨vs, h2, hl, hi⟩ := e1.t_inv
 have hlt : ix < vs.length := by
  have := (List.getElem?_eq_some_iff.1 hy).1
  omega
 have hv : vs[ix]? = some vs[ix] := List.getElem?_eq_getElem hlt
 refine ⟨vs[ix], hi ix y _ hy hv, fun w' _ => ?_⟩
 simp only [execOp, h, h2]
 simp [Instr.extract, hlt]
theorem pur_field1 {t x fld off ft y} {xs : List A} (hT : FldT P t fld off ft) (h1 : OneT P ft) (hx : val E x = .g xs) (hy : xs[off]? = some y) (h : o.op = .field t x fld) : Pur P o E σ y := fun F Λ w tmps hs hf => by
 have e1 := val_ok (ds := []) hf x
 rw [hx] at e1
 obtain ⟨vs, h2, hl, hi⟩ := e1.g_inv
 have hlt : off < vs.length := by
  have := (List.getElem?_eq_some_iff.1 hy).1
  omega
 have hv : vs[off]? = some vs[off] := List.getElem?_eq_getElem hlt
 refine ⟨vs[off], hi off y _ hy hv, fun w' _ => ?_⟩
 obtain ⟨⟨fs, f, g1, g2, g3, g4⟩, _⟩ := hT
 subst g3 g4
 simp only [execOp, h, h2]
 simp [Instr.field, run_underlying g1, g2, asAgg, part, run_isAgg1 h1, hlt]
end
end Go.Sep
set_option linter.unusedVariables false
set_option linter.unusedSimpArgs false
namespace Go.Sep
open Go
def put (E : Env) (d : Option Tmp) (r : A) : Env := match d with | some d => (d, r) :: E | none => E
theorem getD_set (tmps : Array Value) (d u : Nat) (v : Value) (hd : d < tmps.size) : (tmps.setIfInBounds d v).getD u undef = if d = u then v else tmps.getD u undef := by
 simp only [Array.getD_eq_getD_getElem?, Array.getElem?_setIfInBounds]
 split
 ·rename_i h; subst h; simp [hd]
 ·rfl
theorem FrOK.put {F Λ w tmps E} (h : FrOK F Λ w tmps E) {d v r} (hd : d < tmps.size) (hr : OK F Λ w v r) : FrOK F Λ w (tmps.setIfInBounds d v) ((d, r) :: E) := fun t => by
 rw [getD_set _ _ _ _ hd]
 simp only [lk]
 split
 ·exact hr
 ·exact h t
def dstOK (n : Nat) : Option Tmp → Bool
 | some d => d < n
 | none => true
theorem FrOK.putO {F Λ w tmps E ds} (h : FrOK F Λ w tmps E) {d : Option Tmp} {v r n} (hn : tmps.size = n) (hd : dstOK n d = true) (hr : OK F Λ w v r) : ∃ tmps', (Act.put ⟨tmps, ds⟩ d v) = ⟨tmps', ds⟩ ∧ tmps'.size = n ∧ FrOK F Λ w tmps' (Sep.put E d r) := by
 cases d with
 | none => exact ⟨tmps, rfl, hn, h⟩
 | some d => exact ⟨tmps.setIfInBounds d v, rfl, by simpa using hn, h.put (by rw [hn]; simpa [dstOK] using hd) hr⟩
theorem FrOK.weak {F Λ w tmps E E'} (h : FrOK F Λ w tmps E) (hE : ∀ p ∈ E', lk E p.1 = p.2) : FrOK F Λ w tmps E' := fun t => by
 have : lk E' t = .j ∨ lk E' t = lk E t := by
  clear h
  induction E' with
  | nil => exact .inl rfl
  | cons p E' ih =>
   obtain ⟨u, a⟩ := p
   simp only [lk]
   split
   ·rename_i e; subst e; exact .inr (hE (u, a) (List.mem_cons_self ..)).symm
   ·exact ih fun p hp => hE p (List.mem_cons_of_mem _ hp)
 rcases this with e | e
 ·rw [e]; exact .j _
 ·rw [e]; exact h t
section
variable (P : Program) (n m : Nat)
def TO (ops : Array Oper) (os : List Oper) (N : Env → Store → Prop) (E : Env) (σ : Store) : Prop :=
 ∀ F Λ w tmps (Q : Exit → Act → World → Prop), tmps.size = n → St F Λ σ w → FrOK F Λ w tmps E →
  (∀ F' Λ' σ' w' tmps' E', tmps'.size = n → St F' Λ' σ' w' → FrOK F' Λ' w' tmps' E' → Step m F Λ σ w F' Λ' σ' w' → N E' σ' → Q .normal ⟨tmps', []⟩ w') →
  wpList P ops Q os ⟨tmps, []⟩ w
def TOp (o : Oper) (N : Env → Store → Prop) (E : Env) (σ : Store) : Prop :=
 ∀ F Λ w tmps (K : Act → World → Prop) (Q : Exit → Act → World → Prop), tmps.size = n → St F Λ σ w → FrOK F Λ w tmps E →
  (∀ F' Λ' σ' w' tmps' E', tmps'.size = n → St F' Λ' σ' w' → FrOK F' Λ' w' tmps' E' → Step m F Λ σ w F' Λ' σ' w' → N E' σ' → K ⟨tmps', []⟩ w') →
  o.wp P ⟨tmps, []⟩ w K Q
def T (c : Code) (K : Exit → Env → Store → Prop) (E : Env) (σ : Store) : Prop :=
 ∀ F Λ w tmps (Q : Exit → Act → World → Prop), tmps.size = n → St F Λ σ w → FrOK F Λ w tmps E →
  (∀ e F' Λ' σ' w' tmps' E', tmps'.size = n → St F' Λ' σ' w' → FrOK F' Λ' w' tmps' E' → Step m F Λ σ w F' Λ' σ' w' → K e E' σ' → Q e ⟨tmps', []⟩ w') →
  c.wp P Q ⟨tmps, []⟩ w
end
def thenK (N : Env → Store → Prop) (K : Exit → Env → Store → Prop) : Exit → Env → Store → Prop
 | .normal => N
 | e => K e
def blockK (id : Nat) (K : Exit → Env → Store → Prop) : Exit → Env → Store → Prop
 | .exit id' => if id' = id then K .normal else K (.exit id')
 | e => K e
section
variable {P : Program} {n m : Nat} {K : Exit → Env → Store → Prop} {N : Env → Store → Prop} {E : Env} {σ : Store} {ops : Array Oper} {os : List Oper} {o : Oper}
theorem TO_nil (h : N E σ) : TO P n m ops [] N E σ := fun F Λ w tmps Q hn hs hf hq => hq F Λ σ w tmps E hn hs hf (.refl ..) h
theorem TO_cons (hg : o.guard = none) (h : TOp P n m o (TO P n m ops os N) E σ) : TO P n m ops (o :: os) N E σ := fun F Λ w tmps Q hn hs hf hq => by
 unfold wpList
 rw [if_pos (by simp [Region.wanted, hg])]
 exact .inl (h F Λ w tmps _ Q hn hs hf fun F' Λ' σ' w' tmps' E' hn' hs' hf' hst hN =>
  hN F' Λ' w' tmps' Q hn' hs' hf' fun F2 Λ2 σ2 w2 tmps2 E2 hn2 hs2 hf2 hst2 hN2 => hq F2 Λ2 σ2 w2 tmps2 E2 hn2 hs2 hf2 (hst.trans hst2) hN2)
theorem TO_guard {j d : Nat} {want t : Bool} (hg : o.guard = some (j, want)) (hd : (ops[j]?).bind (·.dst) = some d) (hdn : d < n) (hl : lk E d = .v (.bool t)) (hdst : dstOK n o.dst = true)
  (h1 : t = want → TOp P n m o (TO P n m ops os N) ((d, .v (.bool want)) :: E) σ) (h2 : t = !want → TO P n m ops os N (put ((d, .v (.bool !want)) :: E) o.dst (.v undef)) σ) : TO P n m ops (o :: os) N E σ := fun F Λ w tmps Q hn hs hf hq => by
 have e1 := hf d
 rw [hl] at e1
 have e1 := e1.v_inv
 have hy : yielded ops tmps j = some t := by
  unfold yielded
  rw [hd]
  have : tmps[d]? = some (.bool t) := by
   rw [Array.getD_eq_getD_getElem?, Array.getElem?_eq_getElem (by omega)] at e1
   rw [Array.getElem?_eq_getElem (by omega)]
   simpa using e1
  simp [this]
 have hset : ∀ t', t = t' → FrOK F Λ w tmps ((d, .v (.bool t')) :: E) := fun t' ht u => by
  subst ht
  simp only [lk]
  split
  ·rename_i e; subst e; rw [← hl]; exact hf d
  ·exact hf u
 unfold wpList
 by_cases ht : t = want
 ·rw [if_pos (by simp [Region.wanted, hg, hy, ht])]
  exact .inl (h1 ht F Λ w tmps _ Q hn hs (hset _ ht) fun F' Λ' σ' w' tmps' E' hn' hs' hf' hst hN =>
   hN F' Λ' w' tmps' Q hn' hs' hf' fun F2 Λ2 σ2 w2 tmps2 E2 hn2 hs2 hf2 hst2 hN2 => hq F2 Λ2 σ2 w2 tmps2 E2 hn2 hs2 hf2 (hst.trans hst2) hN2)
 ·rw [if_neg (by simp [Region.wanted, hg, hy, ht])]
  have ht' : t = !want := by cases t <;> cases want <;> simp_all
  obtain ⟨tmps', e, hn', hf'⟩ := (hset _ ht').putO (ds := []) hn hdst (.imm (.v undef))
  rw [e]
  exact h2 ht' F Λ w tmps' Q hn' hs hf' hq
theorem TOp_pure {r : A} (hp : Pur P o E σ r) (hd : dstOK n o.dst = true) (h : N (put E o.dst r) σ) : TOp P n m o N E σ := fun F Λ w tmps K Q hn hs hf hk => by
 obtain ⟨v, hv, hr⟩ := hp F Λ w tmps hs hf
 unfold Oper.wp
 rw [hr w (Alike.refl F Λ σ w), Oper.upon_value]
 obtain ⟨tmps', e, hn', hf'⟩ := hf.putO (ds := []) hn hd hv
 rw [e]
 exact hk F Λ σ w tmps' _ hn' hs hf' (.refl ..) h
theorem T_skip (h : K .normal E σ) : T P n m .skip K E σ := fun F Λ w tmps Q hn hs hf hq => wp_skip (hq .normal F Λ σ w tmps E hn hs hf (.refl ..) h)
theorem T_ret (h : K .ret E σ) : T P n m .ret K E σ := fun F Λ w tmps Q hn hs hf hq => wp_ret (hq .ret F Λ σ w tmps E hn hs hf (.refl ..) h)
theorem T_exit {id} (h : K (.exit id) E σ) : T P n m (.exit id) K E σ := fun F Λ w tmps Q hn hs hf hq => wp_exit (hq (.exit id) F Λ σ w tmps E hn hs hf (.refl ..) h)
theorem T_mono {c : Code} {K' : Exit → Env → Store → Prop} (h : T P n m c K' E σ) (hk : ∀ e E σ, K' e E σ → K e E σ) : T P n m c K E σ := fun F Λ w tmps Q hn hs hf hq =>
 h F Λ w tmps Q hn hs hf fun e F' Λ' σ' w' tmps' E' hn' hs' hf' hst hK => hq e F' Λ' σ' w' tmps' E' hn' hs' hf' hst (hk _ _ _ hK)
theorem T_seq {a b : Code} (h : T P n m a (thenK (T P n m b K) K) E σ) : T P n m (.seq a b) K E σ := fun F Λ w tmps Q hn hs hf hq =>
 wp_seq (h F Λ w tmps _ hn hs hf fun e F' Λ' σ' w' tmps' E' hn' hs' hf' hst hK => by
  cases e with
  | normal => exact hK F' Λ' w' tmps' Q hn' hs' hf' fun e2 F2 Λ2 σ2 w2 tmps2 E2 hn2 hs2 hf2 hst2 hK2 => hq e2 F2 Λ2 σ2 w2 tmps2 E2 hn2 hs2 hf2 (hst.trans hst2) hK2
  | _ => exact hq _ F' Λ' σ' w' tmps' E' hn' hs' hf' hst hK)
theorem T_cut {a b : Code} (M : Env → Store → Prop) (h : T P n m a (thenK M K) E σ) (h2 : ∀ E σ, M E σ → T P n m b K E σ) : T P n m (.seq a b) K E σ :=
 T_seq (T_mono h fun e E σ hk => by cases e <;> first | exact h2 _ _ hk | exact hk)
theorem T_cond {c : Operand} {a b : Code} {t : Bool} (hc : val E c = .v (.bool t)) (h1 : t = true → T P n m a K E σ) (h2 : t = false → T P n m b K E σ) : T P n m (.cond c a b) K E σ := fun F Λ w tmps Q hn hs hf hq => by
 have e1 := val_ok (ds := []) hf c
 rw [hc] at e1
 refine wp_cond_split e1.v_inv (fun ht => h1 ht F Λ w tmps Q hn hs hf hq) (fun ht => h2 ht F Λ w tmps Q hn hs hf hq)
theorem T_block {id} {c : Code} (h : T P n m c (blockK id K) E σ) : T P n m (.block id c) K E σ := fun F Λ w tmps Q hn hs hf hq =>
 wp_block (h F Λ w tmps _ hn hs hf fun e F' Λ' σ' w' tmps' E' hn' hs' hf' hst hK => by
  cases e with
  | exit id' =>
   simp only [blockK] at hK
   show (if id' = id then Q .normal _ _ else Q (.exit id') _ _)
   split
   ·rename_i e; rw [if_pos e] at hK; exact hq _ F' Λ' σ' w' tmps' E' hn' hs' hf' hst hK
   ·rename_i e; rw [if_neg e] at hK; exact hq _ F' Λ' σ' w' tmps' E' hn' hs' hf' hst hK
  | _ => exact hq _ F' Λ' σ' w' tmps' E' hn' hs' hf' hst hK)
theorem T_region {id} {l : List Oper} (h : TO P n m l.toArray l (K .normal) E σ) : T P n m (.region id l.toArray false) K E σ := fun F Λ w tmps Q hn hs hf hq =>
 wp_region_list (by simpa using h F Λ w tmps Q hn hs hf fun F' Λ' σ' w' tmps' E' hn' hs' hf' hst hN => hq .normal F' Λ' σ' w' tmps' E' hn' hs' hf' hst hN)
def boxNames (k : Nat) : Root → Bool
 | .box xs => namesL (fun L => k ≤ L.headD 0) xs
 | _ => false
theorem rowAt_take {σ : Store} {k : Nat} {L : List Nat} {xs} (h : rowAt (σ.take k) L = some xs) : L.headD 0 < k ∧ L.headD 0 < σ.length ∧ rowAt σ L = some xs := by
 cases L with
 | nil => simp [rowAt] at h
 | cons l p =>
  simp only [rowAt, List.headD_cons] at *
  by_cases hl : l < k
  ·rw [List.getElem?_take_of_lt hl] at h
   refine ⟨hl, ?_, h⟩
   rcases Nat.lt_or_ge l σ.length with h1 | h1
   ·exact h1
   ·simp [List.getElem?_eq_none h1] at h
  ·rw [List.getElem?_eq_none (by simp; omega)] at h
   cases h
theorem isBox_take {σ : Store} {k : Nat} {L : List Nat} (h : L.headD 0 < k) : isBox (σ.take k) L = isBox σ L := by
 match L, h with
 | [], _ => rfl
 | [l], h => simp only [List.headD_cons] at h; simp only [isBox, List.getElem?_take_of_lt h]
 | _ :: _ :: _, _ => rfl
def cutL (Λ : Lbl) (k : Nat) : Lbl := fun L => if k ≤ L.headD 0 then none else Λ L
theorem OK.cut {F Λ w v x k} (h : OK F Λ w v x) (hn : x.names (fun L => k ≤ L.headD 0) = false) : OK F (cutL Λ k) w v x :=
 h.relabel _ (fun L b o hp hL => by simp only [cutL]; rw [if_neg (by simpa using hp)]; exact hL) hn
theorem inCell_names {x : A} (h : x.inCell = true) (p : List Nat → Bool) : x.names p = false := by
 have key : ∀ (xs : List A), namesL (fun _ => true) xs = false → namesL p xs = false := by
  have aux : ∀ (k : Nat), (∀ x : A, SizeOf.sizeOf x ≤ k → x.names (fun _ => true) = false → x.names p = false) ∧ (∀ xs : List A, SizeOf.sizeOf xs ≤ k → namesL (fun _ => true) xs = false → namesL p xs = false) := by
   intro k
   induction k with
   | zero =>
    refine ⟨fun x hx _ => ?_, fun xs hx _ => ?_⟩
    ·cases x <;> simp at hx
    ·cases xs <;> simp at hx
   | succ k ih =>
    refine ⟨fun x hx hn => ?_, fun xs hx hn => ?_⟩
    ·cases x <;> simp only [A.names] at * <;> first | rfl | (cases hn; done) | exact ih.2 _ (by simp at hx; omega) hn
    ·cases xs with
     | nil => rfl
     | cons y ys =>
      simp only [namesL, Bool.or_eq_false_iff] at *
      exact ⟨ih.1 _ (by simp at hx; omega) hn.1, ih.2 _ (by simp at hx; omega) hn.2⟩
  exact fun xs h => (aux (SizeOf.sizeOf xs)).2 xs (Nat.le_refl _) h
 cases x <;> simp [A.inCell] at h <;> simp only [A.names]
 exact key _ h
theorem Cell.relabel {F Λ Λ' w bx L c x} (p : List Nat → Bool) (h : ∀ L b o, p L = false → Λ L = some (b, o) → Λ' L = some (b, o)) (hL : p L = false) (hc : Cell F Λ w bx L c x) (hb : bx = true → x.names p = false) : Cell F Λ' w bx L c x := by
 cases x with
 | j => trivial
 | o k ys =>
  obtain ⟨h1, h2, n, h3, h4⟩ := hc
  refine ⟨h1, h2, n, h3, ?_⟩
  rcases h4 with h4 | ⟨b, o, cap, h4, h5⟩
  ·exact .inl h4
  ·exact .inr ⟨b, o, cap, h _ _ _ hL h4, h5⟩
 | _ =>
  refine ⟨hc.1, hc.2.relabel p h ?_⟩
  cases bx with
  | true => exact hb rfl
  | false => exact inCell_names (by have h1 := hc.1; rwa [if_neg (by simp)] at h1) p
theorem St.take {F Λ σ w} (hs : St F Λ σ w) (k : Nat) (hb : ∀ r ∈ σ.take k, boxNames k r = false) : St F (cutL Λ k) (σ.take k) w where
 row L xs hr := by
  obtain ⟨h1, h2, h3⟩ := rowAt_take hr
  have e : cutL Λ k L = Λ L := if_neg (by omega)
  rw [e]
  rcases hs.row L xs h3 with h4 | ⟨b, o, cs, t, h4, h5, h6, h7⟩
  ·exact .inl h4
  ·refine .inr ⟨b, o, cs, t, h4, h5, h6, fun j x hx => ?_⟩
   obtain ⟨c, h8, h9⟩ := h7 j x hx
   refine ⟨c, h8, ?_⟩
   rw [isBox_take h1]
   refine h9.relabel (fun L => k ≤ L.headD 0) (fun L b o hp hL => by simp only [cutL]; rw [if_neg (by simpa using hp)]; exact hL) (by
    cases L with
    | nil => simp [rowAt] at h3
    | cons l p => simpa using h1) fun hbx => ?_
   match L, h1, h3, hbx with
   | [l], h1, h3, hbx =>
    simp only [List.headD_cons] at h1
    simp only [isBox] at hbx
    cases hl : σ[l]? with
    | none => simp [hl] at hbx
    | some r =>
     cases r with
     | box ys =>
      simp only [rowAt, hl, Root.cells, sub, Option.some.injEq] at h3
      subst h3
      have := hb (.box ys) (List.mem_of_getElem? (i := l) (by rw [List.getElem?_take_of_lt h1]; exact hl))
      exact namesL_false this x (List.mem_of_getElem? hx)
     | _ => simp [hl] at hbx
 apart L xs L' xs' b o o' hr hr' hL hL' := by
  obtain ⟨h1, h2, h3⟩ := rowAt_take hr
  obtain ⟨h1', h2', h3'⟩ := rowAt_take hr'
  simp only [cutL] at hL hL'
  rw [if_neg (by omega)] at hL hL'
  exact hs.apart L xs L' xs' b o o' h3 h3' hL hL'
 old := hs.old
 tab := hs.tab
 lab L hL := by
  simp only [cutL]
  split
  ·rfl
  ·exact hs.lab L (by rw [List.length_take] at hL; omega)
theorem Own.take {Λ σ k b} (h : Own (cutL Λ k) (σ.take k) b) : Own Λ σ b := by
 obtain ⟨L, xs, o, h1, h2⟩ := h
 obtain ⟨h3, h4, h5⟩ := rowAt_take h1
 simp only [cutL] at h2
 rw [if_neg (by omega)] at h2
 exact ⟨L, xs, o, h5, h2⟩
structure Weak (m : Nat) (E : Env) (σ : Store) (E' : Env) (σ' : Store) : Prop where
  env : ∀ p ∈ E', lk E p.1 = p.2
  take : ∃ k, m ≤ k ∧ σ' = σ.take k ∧ (∀ p ∈ E', p.2.names (fun L => decide (k ≤ L.headD 0)) = false) ∧ ∀ r ∈ σ', boxNames k r = false
theorem Weak.go {m E σ E' σ' F Λ w tmps} (h : Weak m E σ E' σ') (hs : St F Λ σ w) (hf : FrOK F Λ w tmps E) : ∃ Λ', St F Λ' σ' w ∧ FrOK F Λ' w tmps E' ∧ Step m F Λ σ w F Λ' σ' w := by
  obtain ⟨he, k, hm, rfl, hE, hb⟩ := h
  refine ⟨cutL Λ k, hs.take k hb, ?_, ?_⟩
  · have hf' := hf.weak he
    intro t
    have : (lk E' t).names (fun L => decide (k ≤ L.headD 0)) = false := by
      clear hf hf' he
      induction E' with
      | nil => rfl
      | cons p E' ih =>
        simp only [lk]
        split
        · exact hE p (List.mem_cons_self ..)
        · exact ih fun p hp => hE p (List.mem_cons_of_mem _ hp)
    exact (hf' t).cut this
  · exact { os := ⟨rfl, fun _ => by first | exact Nat.le_refl _ | exact Nat.le_succ _⟩, tape := rfl, output := rfl, size := Nat.le_refl _, sizes := Sizes.refl _, keep := fun _ _ _ => rfl, mono := fun _ h => h, new := fun _ h => .inl h, own := fun b h => .inl h.take
            len := by simp; omega
            kept := fun L b o hL h => by simp only [cutL]; rw [if_neg (by omega)]; exact h
            boxes := fun l xs hl hx => ⟨by simp only [cutL]; rw [if_neg (by simp; omega)], xs, by rw [List.getElem?_take_of_lt (by omega)]; exact hx⟩ }
end
end Go.Sep
set_option linter.unusedVariables false
set_option linter.unusedSimpArgs false
namespace Go.Sep
open Go
theorem Sizes.alloc (w : World) (o : Obj) : Sizes w (w.alloc o) := fun b cs t h => ⟨cs, by
 have hb : b < w.heap.size := (Array.getElem?_eq_some_iff.1 h).1
 rw [heap_alloc_old w o b hb]; exact h, rfl⟩
theorem Cell.mono {F F' : Nat → Prop} {Λ w w' bx L c x} (h : ∀ b, F b → F' b ∧ w'.heap[b]? = w.heap[b]?) (hs : Sizes w w') (hc : Cell F Λ w bx L c x) : Cell F' Λ w' bx L c x := by
 cases x with
 | j => trivial
 | o k ys => exact ⟨hc.1, hc.2.1, hc.2.2.elim fun n hn => ⟨n, hn.1, hn.2.mono hs⟩⟩
 | _ => exact ⟨hc.1, hc.2.mono h hs⟩
theorem Sl.ext {Λ Λ' : Lbl} {w L a n k v} (h : ∀ b o, Λ L = some (b, o) → Λ' L = some (b, o)) (hc : Sl Λ w L a n k v) : Sl Λ' w L a n k v := by
 rcases hc with h4 | ⟨b, o, cap, h4, h5⟩
 ·exact .inl h4
 ·exact .inr ⟨b, o, cap, h _ _ h4, h5⟩
theorem Cell.ext {F : Nat → Prop} {Λ Λ' w bx L c x} (h : ∀ L b o, Λ L = some (b, o) → Λ' L = some (b, o)) (hc : Cell F Λ w bx L c x) : Cell F Λ' w bx L c x := by
 cases x with
 | j => trivial
 | o k ys => exact ⟨hc.1, hc.2.1, hc.2.2.elim fun n hn => ⟨n, hn.1, hn.2.ext (h L)⟩⟩
 | _ => exact ⟨hc.1, hc.2.ext h⟩
theorem FrOK.ext {F Λ Λ' w tmps E} (h : ∀ L b o, Λ L = some (b, o) → Λ' L = some (b, o)) (hf : FrOK F Λ w tmps E) : FrOK F Λ' w tmps E := fun t => (hf t).ext h
def A.plain : A → Bool
 | .o _ _ => false
 | _ => true
theorem sub_plain {ys xs : List A} {p} (h : ∀ x ∈ ys, x.plain = true) (hs : sub ys p = some xs) : p = [] ∧ xs = ys := by
 cases p with
 | nil => simp only [sub, Option.some.injEq] at hs; exact ⟨rfl, hs.symm⟩
 | cons j p =>
  simp only [sub] at hs
  split at hs
  ·rename_i k zs hj
   have := h _ (List.mem_of_getElem? hj)
   simp [A.plain] at this
  ·cases hs
theorem rowAt_push {σ : Store} {r : Root} {L xs} (h : rowAt (σ ++ [r]) L = some xs) : (L.headD 0 < σ.length ∧ rowAt σ L = some xs) ∨ ∃ p ys, L = σ.length :: p ∧ r.cells = some ys ∧ sub ys p = some xs := by
 cases L with
 | nil => simp [rowAt] at h
 | cons l p =>
  simp only [rowAt] at h
  rcases Nat.lt_trichotomy l σ.length with hl | hl | hl
  ·rw [List.getElem?_append_left hl] at h
   exact .inl ⟨hl, h⟩
  ·subst hl
   simp only [List.getElem?_append_right (Nat.le_refl _), Nat.sub_self, List.getElem?_cons_zero] at h
   split at h
   ·rename_i ys hy; exact .inr ⟨p, ys, rfl, hy, h⟩
   ·cases h
  ·rw [List.getElem?_eq_none (by simp; omega)] at h
   cases h
theorem isBox_push {σ : Store} {r : Root} {L : List Nat} (h : L.headD 0 < σ.length) : isBox (σ ++ [r]) L = isBox σ L := by
 match L, h with
 | [], _ => rfl
 | [l], h => simp only [List.headD_cons] at h; simp only [isBox, List.getElem?_append_left h]
 | _ :: _ :: _, _ => rfl
def isB : Root → Bool
 | .box _ => true
 | _ => false
theorem isBox_new {σ : Store} {r : Root} : isBox (σ ++ [r]) [σ.length] = isB r := by
 simp only [isBox, List.getElem?_append_right (Nat.le_refl _), Nat.sub_self, List.getElem?_cons_zero]
 cases r <;> rfl
def pushL (Λ : Lbl) (l b : Nat) : Lbl := fun L => if L = [l] then some (b, 0) else Λ L
theorem pushL_ext {F Λ σ w} (hs : St F Λ σ w) : ∀ L b o, Λ L = some (b, o) → pushL Λ σ.length w.heap.size L = some (b, o) := fun L b o h => by
 simp only [pushL]
 rw [if_neg ?_]
 ·exact h
 ·rintro rfl
  have := hs.lab [σ.length] (Nat.le_refl _)
  rw [h] at this; cases this
theorem St.owns {F Λ σ w} (hs : St F Λ σ w) {b} (h : Own Λ σ b) : b < w.heap.size := by
 obtain ⟨L, xs, o, h1, h2⟩ := h
 rcases hs.row L xs h1 with ⟨h3, _⟩ | ⟨b', o', cs, t, h3, _, h5, _⟩
 ·rw [h2] at h3; cases h3
 ·rw [h2] at h3; cases h3; exact (Array.getElem?_eq_some_iff.1 h5).1
theorem St.push {m F Λ σ w} (hs : St F Λ σ w) (r : Root) (ys : List A) (hr : r.cells = some ys) (ccs : List Value) (t : TypeId) (hpl : ∀ x ∈ ys, x.plain = true)
  (hc : ∀ (j : Nat) x, ys[j]? = some x → ∃ c, ccs[j]? = some c ∧ Cell F Λ w (isB r) [] c x) :
  St F (pushL Λ σ.length w.heap.size) (σ ++ [r]) (w.alloc (.cells ccs.toArray t)) ∧ Step m F Λ σ w F (pushL Λ σ.length w.heap.size) (σ ++ [r]) (w.alloc (.cells ccs.toArray t)) := by
 have hext := pushL_ext hs
 have hF : ∀ b, F b → F b ∧ (w.alloc (.cells ccs.toArray t)).heap[b]? = w.heap[b]? := fun b hb => ⟨hb, heap_alloc_old w _ b (hs.old b hb)⟩
 have hsz := Sizes.alloc w (.cells ccs.toArray t)
 have hold : ∀ L : List Nat, L.headD 0 < σ.length → pushL Λ σ.length w.heap.size L = Λ L := fun L hL => by
  simp only [pushL]; rw [if_neg]; rintro rfl; simp at hL
 have hown : ∀ b, Own (pushL Λ σ.length w.heap.size) (σ ++ [r]) b → Own Λ σ b ∨ w.heap.size ≤ b := by
  rintro b ⟨L, xs, o, h1, h2⟩
  rcases rowAt_push h1 with ⟨h3, h4⟩ | ⟨p, zs, rfl, h3, h4⟩
  ·rw [hold L h3] at h2
   exact .inl ⟨L, xs, o, h4, h2⟩
  ·rw [hr] at h3; cases h3
   obtain ⟨rfl, rfl⟩ := sub_plain hpl h4
   simp [pushL] at h2
   exact .inr (by omega)
 refine ⟨⟨?_, ?_, ?_, ?_, ?_⟩, ⟨⟨rfl, fun _ => by first | exact Nat.le_refl _ | exact Nat.le_succ _⟩, rfl, rfl, by simp, hsz, fun b hb _ => heap_alloc_old w _ b hb, fun _ h => h, fun _ h => .inl h, hown, by simp; omega, fun l xs hl hx => ?_, fun L b o _ h => hext L b o h⟩⟩
 ·intro L xs h
  rcases rowAt_push h with ⟨h3, h4⟩ | ⟨p, zs, rfl, h3, h4⟩
  ·rw [hold L h3]
   rcases hs.row L xs h4 with h5 | ⟨b, o, cs, t', h5, h6, h7, h8⟩
   ·exact .inl h5
   ·refine .inr ⟨b, o, cs, t', h5, h6, ?_, fun j x hx => ?_⟩
    ·rw [heap_alloc_old w _ b (Array.getElem?_eq_some_iff.1 h7).1]; exact h7
    ·obtain ⟨c, h9, h10⟩ := h8 j x hx
     exact ⟨c, h9, by rw [isBox_push h3]; exact (h10.mono hF hsz).ext hext⟩
  ·rw [hr] at h3; cases h3
   obtain ⟨rfl, rfl⟩ := sub_plain hpl h4
   refine .inr ⟨w.heap.size, 0, ccs.toArray, t, by simp [pushL], fun hb => absurd (hs.old _ hb) (by omega), heap_alloc_new w _, fun j x hx => ?_⟩
   obtain ⟨c, h5, h6⟩ := hc j x hx
   refine ⟨c, by simpa using h5, ?_⟩
   rw [isBox_new]
   have h7 := (h6.mono hF hsz).ext hext
   have hp := hpl x (List.mem_of_getElem? hx)
   cases x <;> first | exact h7 | (simp [A.plain] at hp)
 ·intro L xs L' xs' b o o' h1 h2 h3 h4
  rcases rowAt_push h1 with ⟨g1, g2⟩ | ⟨p, zs, rfl, g1, g2⟩ <;> rcases rowAt_push h2 with ⟨g3, g4⟩ | ⟨p', zs', rfl, g3, g4⟩
  ·rw [hold L g1] at h3
   rw [hold L' g3] at h4
   exact hs.apart L xs L' xs' b o o' g2 g4 h3 h4
  ·rw [hold L g1] at h3
   rw [hr] at g3; cases g3
   obtain ⟨rfl, rfl⟩ := sub_plain hpl g4
   simp [pushL] at h4
   have := hs.owns ⟨L, xs, o, g2, h3⟩
   omega
  ·rw [hold L' g3] at h4
   rw [hr] at g1; cases g1
   obtain ⟨rfl, rfl⟩ := sub_plain hpl g2
   simp [pushL] at h3
   have := hs.owns ⟨L', xs', o', g4, h4⟩
   omega
  ·rw [hr] at g1 g3; cases g1; cases g3
   obtain ⟨rfl, _⟩ := sub_plain hpl g2
   obtain ⟨rfl, _⟩ := sub_plain hpl g4
   rfl
 ·intro b hb; have := hs.old b hb; simp; omega
 ·exact hs.tab.mono fun b hb => ⟨hb, heap_alloc_old w _ b (hs.old b hb)⟩
 ·intro L hL
  simp only [pushL]
  rw [if_neg (by rintro rfl; simp at hL; omega)]
  exact hs.lab L (by simp at hL; simp; omega)
 ·have hl' : l < σ.length := (List.getElem?_eq_some_iff.1 hx).1
  exact ⟨by simp only [pushL]; rw [if_neg]; simp; omega, xs, by rw [List.getElem?_append_left hl']; exact hx⟩
theorem ok_new {F : Nat → Prop} {Λ : Lbl} {l b : Nat} {w : World} : OK F (pushL Λ l b) w (.pointer (some ⟨b, 0, none⟩)) (.b l 0) := OK.b (o := 0) (a := 0) (show pushL Λ l b [l] = some (b, 0) from if_pos rfl)
theorem FrOK.push {F Λ σ w tmps E} (hf : FrOK F Λ w tmps E) (hs : St F Λ σ w) (o : Obj) : FrOK F (pushL Λ σ.length w.heap.size) (w.alloc o) tmps E :=
 (hf.mono (fun b hb => ⟨hb, heap_alloc_old w _ b (hs.old b hb)⟩) (Sizes.alloc w o)).ext (pushL_ext hs)
section
variable {P : Program} {n m : Nat} {N : Env → Store → Prop} {E : Env} {σ : Store} {o : Oper}
theorem TOp_new (r : Root) (ys : List A) (hr : r.cells = some ys) (t : TypeId) (hpl : ∀ x ∈ ys, x.plain = true) (rv : A) (hd : dstOK n o.dst = true)
  (h : ∀ F Λ w tmps, St F Λ σ w → FrOK F Λ w tmps E → ∃ (ccs : List Value) (v : Value), (∀ (j : Nat) x, ys[j]? = some x → ∃ c, ccs[j]? = some c ∧ Cell F Λ w (isB r) [] c x) ∧
   (execOp (Act.eval ⟨tmps, []⟩) o).run P w = .ok (.value v) (w.alloc (.cells ccs.toArray t)) ∧ OK F (pushL Λ σ.length w.heap.size) (w.alloc (.cells ccs.toArray t)) v rv)
  (hN : N (put E o.dst rv) (σ ++ [r])) : TOp P n m o N E σ := fun F Λ w tmps K Q hn hs hf hk => by
 obtain ⟨ccs, v, hc, hrun, hv⟩ := h F Λ w tmps hs hf
 unfold Oper.wp
 rw [hrun, Oper.upon_value]
 obtain ⟨hs', hst⟩ := hs.push (m := m) r ys hr ccs t hpl hc
 obtain ⟨tmps', e, hn', hf'⟩ := (hf.push hs (.cells ccs.toArray t)).putO (ds := []) hn hd hv
 rw [e]
 exact hk F _ _ _ tmps' _ hn' hs' hf' hst hN
structure ZeroT (P : Program) (t : Nat) (zs : List Value) : Prop where
  z : ∃ inf z, P.info? t = some inf ∧ inf.zero = some z ∧ z.cells.toList = zs
  sc : ∀ z ∈ zs, sc z = true
theorem constA_plain (c : Value) : (constA c).plain = true := by unfold constA; split <;> rfl
theorem constA_inBox {c : Value} (h : sc c = true) : (constA c).inBox = true ∧ (constA c).inCell = true := by
 unfold constA; split
 ·exact ⟨rfl, rfl⟩
 ·exact ⟨h, h⟩
theorem constA_cell {F Λ w bx L c} (h : sc c = true) : Cell F Λ w bx L c (constA c) := by
 have h1 := constA_inBox h
 have h2 : OK F Λ w c (constA c) := constA_ok c
 unfold constA at *
 split at h1 <;> exact ⟨by cases bx <;> simp_all, by simpa using h2⟩
theorem TOp_alloc {t} {zs : List Value} (hz : ZeroT P t zs) (h : o.op = .alloc t) (hd : dstOK n o.dst = true) (hN : N (put E o.dst (.b σ.length 0)) (σ ++ [.box (zs.map constA)])) : TOp P n m o N E σ := by
 refine TOp_new (.box (zs.map constA)) _ rfl t (fun x hx => ?_) (.b σ.length 0) hd (fun F Λ w tmps hs hf => ?_) hN
 ·obtain ⟨c, _, rfl⟩ := List.mem_map.1 hx; exact constA_plain c
 ·obtain ⟨⟨inf, z, h1, h2, h3⟩, h4⟩ := hz
  refine ⟨zs, .pointer (some ⟨w.heap.size, 0, none⟩), fun j x hx => ?_, ?_, ok_new⟩
  ·simp only [List.getElem?_map] at hx
   cases hj : zs[j]? with
   | none => simp [hj] at hx
   | some c => simp [hj] at hx; subst hx; exact ⟨c, rfl, constA_cell (h4 c (List.mem_of_getElem? hj))⟩
  ·simp only [execOp, h]
   subst h3
   simp [Instr.alloc, zeroValue, typeInfo, h1, h2, newVar, newRow]
def cellsOf : A → List A
 | .g xs => xs
 | x => [x]
theorem OK.cells1 {F Λ w v x} (h : OK F Λ w v x) (hb : x.inBox = true) : v.cells = #[v] ∧ sc v = true := by
 cases h with
 | imm h => cases h with
  | v x => simp only [A.inBox] at hb; exact ⟨by cases v <;> simp_all [sc, Value.cells], hb⟩
  | g => simp [A.inBox] at hb
  | t => simp [A.inBox] at hb
  | raw => simp only [A.inBox] at hb; exact ⟨by cases v <;> simp_all [sc, Value.cells], hb⟩
  | _ => exact ⟨rfl, rfl⟩
 | m h =>
  obtain ⟨ad, cap, rfl⟩ := h.form
  exact ⟨rfl, rfl⟩
 | e => exact ⟨rfl, rfl⟩
 | b => exact ⟨rfl, rfl⟩
 | f => exact ⟨rfl, rfl⟩
 | j => simp [A.inBox] at hb
 | g => simp [A.inBox] at hb
 | t => simp [A.inBox] at hb
theorem inBox_plain {x : A} (h : x.inBox = true) : x.plain = true := by cases x <;> first | rfl | (simp [A.inBox] at h)
theorem Cell.ofBox {F Λ w L c x} (hb : x.inBox = true) (h : OK F Λ w c x) : Cell F Λ w true L c x := by
 cases x <;> first | exact ⟨by simpa using hb, h⟩ | (simp [A.inBox] at hb)
theorem Cell.ofCell {F Λ w L c x} (hb : x.inCell = true) (h : OK F Λ w c x) : Cell F Λ w false L c x := by
 cases x <;> first | exact ⟨by simpa using hb, h⟩ | (simp [A.inCell] at hb)
theorem OK.cellsOf {F Λ w v x} (h : OK F Λ w v x) (hb : ∀ y ∈ cellsOf x, y.inBox = true) : ∀ (j : Nat) y, (Sep.cellsOf x)[j]? = some y → ∃ c, v.cells.toList[j]? = some c ∧ OK F Λ w c y := by
 intro j y hy
 cases x with
 | g xs =>
  obtain ⟨vs, rfl, hl, hi⟩ := h.g_inv
  simp only [Sep.cellsOf] at hy
  have hj : j < vs.length := by have := (List.getElem?_eq_some_iff.1 hy).1; omega
  exact ⟨vs[j], by simp [Value.cells, hj], hi j y _ hy (List.getElem?_eq_getElem hj)⟩
 | _ =>
  obtain ⟨h1, _⟩ := h.cells1 (hb _ (by simp [Sep.cellsOf]))
  rw [h1]
  simp only [Sep.cellsOf] at hy
  cases j with
  | zero => simp at hy; subst hy; exact ⟨v, by simp, h⟩
  | succ j => simp at hy
theorem TOp_box {t x} {ys : List A} (hx : cellsOf (val E x) = ys) (hb : ∀ y ∈ ys, y.inBox = true) (h : o.op = .box t x) (hd : dstOK n o.dst = true) (hN : N (put E o.dst (.b σ.length 0)) (σ ++ [.box ys])) : TOp P n m o N E σ := by
 subst hx
 refine TOp_new (.box (cellsOf (val E x))) _ rfl t (fun y hy => inBox_plain (hb y hy)) (.b σ.length 0) hd (fun F Λ w tmps hs hf => ?_) hN
 have h1 := val_ok (ds := []) hf x
 refine ⟨(Act.eval ⟨tmps, []⟩ x).cells.toList, .pointer (some ⟨w.heap.size, 0, none⟩), fun j y hy => ?_, ?_, ok_new⟩
 ·obtain ⟨c, h2, h3⟩ := h1.cellsOf hb j y hy
  exact ⟨c, h2, .ofBox (hb y (List.mem_of_getElem? hy)) h3⟩
 ·simp only [execOp, h]
  simp [Instr.box, newVar, newRow]
end
def ArgsOK (F : Nat → Prop) (Λ : Lbl) (w : World) (vs : List Value) (as : List A) : Prop := vs.length = as.length ∧ ∀ (j : Nat) x y, as[j]? = some x → vs[j]? = some y → OK F Λ w y x
def Fn (P : Program) (f : Nat) (as : List A) (σ : Store) (Q : A → Store → Prop) : Prop :=
 ∀ F Λ w (vs : List Value) (R : Ending → World → Prop), St F Λ σ w → ArgsOK F Λ w vs as →
  (∀ F' Λ' σ' w' v r, St F' Λ' σ' w' → Step σ.length F Λ σ w F' Λ' σ' w' → OK F' Λ' w' v r → Q r σ' → R (.returned v) w') → Calls P f vs.toArray w R
theorem Fn.mono {P f as σ} {Q Q' : A → Store → Prop} (h : Fn P f as σ Q) (hq : ∀ r σ, Q r σ → Q' r σ) : Fn P f as σ Q' := fun F Λ w vs R hs ha hr =>
 h F Λ w vs R hs ha fun F' Λ' σ' w' v r h1 h2 h3 h4 => hr F' Λ' σ' w' v r h1 h2 h3 (hq _ _ h4)
def EnT (P : Program) (g : Nat) : Prop := ∀ args w, (callFunc g args).run P w = .ok (.enter g args) w
mutual
def A.loose : A → Bool
 | .v _ => true
 | .n => true
 | .i _ _ => true
 | .q _ _ => true
 | .g xs => looseL xs
 | .t xs => looseL xs
 | .f _ xs => looseL xs
 | .j => true
 | .o _ _ => false
 | .m _ _ _ _ => false
 | .e _ _ => false
 | .b _ _ => false
 | .raw _ _ => true
def looseL : List A → Bool
 | [] => true
 | x :: xs => x.loose && looseL xs
end
theorem looseL_mem {xs : List A} (h : looseL xs = true) : ∀ x ∈ xs, x.loose = true := by
 induction xs with
 | nil => simp
 | cons y ys ih =>
  simp only [looseL, Bool.and_eq_true] at h
  intro x hx
  rcases List.mem_cons.1 hx with rfl | hx
  ·exact h.1
  ·exact ih h.2 x hx
theorem OK.free {F Λ Λ' w v x} (h : OK F Λ w v x) (hl : x.loose = true) : OK F Λ' w v x := by
 induction h with
 | imm h => exact .imm h
 | j v => exact .j v
 | m => simp [A.loose] at hl
 | e => simp [A.loose] at hl
 | b => simp [A.loose] at hl
 | g vs xs hl' _ ih => simp only [A.loose] at hl; exact .g vs xs hl' fun j x y hx hy => ih j x y hx hy (looseL_mem hl x (List.mem_of_getElem? hx))
 | t vs xs hl' _ ih => simp only [A.loose] at hl; exact .t vs xs hl' fun j x y hx hy => ih j x y hx hy (looseL_mem hl x (List.mem_of_getElem? hx))
 | f fn vs xs hl' _ ih => simp only [A.loose] at hl; exact .f fn vs xs hl' fun j x y hx hy => ih j x y hx hy (looseL_mem hl x (List.mem_of_getElem? hx))
theorem St.empty {F Λ σ w} (hs : St F Λ σ w) : St F (fun _ => none) [] w :=
 ⟨fun L xs h => by cases L <;> simp [rowAt] at h, fun L xs _ _ _ _ _ h => by cases L <;> simp [rowAt] at h, hs.old, hs.tab, fun _ _ => rfl⟩
theorem Own.empty {Λ b} (h : Own Λ [] b) : False := by
 obtain ⟨L, xs, o, h, _⟩ := h
 cases L <;> simp [rowAt] at h
section
variable {P : Program} {n m : Nat} {N : Env → Store → Prop} {E : Env} {σ : Store} {o : Oper}
theorem run_callStatic {g : Nat} {args : List Operand} {aT : Array TypeId} (hE : EnT P g) (h : o.op = .call { callee := .value (.func g), args := args.toArray, argTypes := aT }) (ρ : Operand → Value) (hρ : ρ (.func g) = .func (.func g) #[] #[]) (w : World) :
  (execOp ρ o).run P w = .ok (.enter g (args.map ρ).toArray) w := by
 simp only [execOp, h, resolve, Sem.run_bind, Sem.run_pure, hρ, Deferred.ofValue, Result.andThen, invoke]
 simp
 exact hE _ _
theorem run_callClosure {g : Nat} {x : Operand} {args : List Operand} {aT : Array TypeId} (hE : EnT P g) (h : o.op = .call { callee := .value x, args := args.toArray, argTypes := aT }) (ρ : Operand → Value) {caps : List Value} (hρ : ρ x = .func (.func g) #[] caps.toArray) (w : World) :
  (execOp ρ o).run P w = .ok (.enter g (args.map ρ ++ caps).toArray) w := by
 simp only [execOp, h, resolve, Sem.run_bind, Sem.run_pure, hρ, Deferred.ofValue, Result.andThen, invoke]
 simp
 exact hE _ _
def CallOp (P : Program) (o : Oper) (E : Env) (g : Nat) (as : List A) : Prop :=
 ∀ F Λ w tmps, FrOK F Λ w tmps E → ∃ vs : List Value, ArgsOK F Λ w vs as ∧ ∀ w', (execOp (Act.eval ⟨tmps, []⟩) o).run P w' = .ok (.enter g vs.toArray) w'
theorem call_static {g : Nat} {args : List Operand} {aT : Array TypeId} (hE : EnT P g) (h : o.op = .call { callee := .value (.func g), args := args.toArray, argTypes := aT }) : CallOp P o E g (args.map (val E)) := fun F Λ w tmps hf =>
 ⟨args.map (Act.eval ⟨tmps, []⟩), ⟨by simp, fun j x y hx hy => by
  simp only [List.getElem?_map] at hx hy
  cases hj : args[j]? with
  | none => simp [hj] at hx
  | some c => simp [hj] at hx hy; subst hx hy; exact val_ok hf c⟩, fun w' => run_callStatic hE h _ rfl w'⟩
theorem call_closure {g : Nat} {x : Operand} {caps : List A} {args : List Operand} {aT : Array TypeId} (hE : EnT P g) (hx : val E x = .f g caps) (h : o.op = .call { callee := .value x, args := args.toArray, argTypes := aT }) : CallOp P o E g (args.map (val E) ++ caps) := fun F Λ w tmps hf => by
 have e1 := val_ok (ds := []) hf x
 rw [hx] at e1
 obtain ⟨vs, h2, hl, hi⟩ := e1.f_inv
 refine ⟨args.map (Act.eval ⟨tmps, []⟩) ++ vs, ⟨by simp [hl], fun j x y hx hy => ?_⟩, fun w' => run_callClosure hE h _ h2 w'⟩
 rcases Nat.lt_or_ge j args.length with hj | hj
 ·rw [List.getElem?_append_left (by simpa using hj)] at hx hy
  simp only [List.getElem?_map] at hx hy
  cases hj : args[j]? with
  | none => simp [hj] at hx
  | some c => simp [hj] at hx hy; subst hx hy; exact val_ok hf c
 ·rw [List.getElem?_append_right (by simpa using hj)] at hx hy
  simp only [List.length_map] at hx hy
  exact hi _ x y hx hy
theorem Step.callee {m F Λ σ w F1 Λ1 σ1 w1} (hs : St F Λ σ w) (h : Step 0 F (fun _ => none) [] w F1 Λ1 σ1 w1) : Step m F Λ σ w F1 Λ σ w1 :=
  { os := h.os, tape := h.tape, output := h.output, size := h.size, sizes := h.sizes, keep := fun b hb _ => h.keep b hb fun ho => ho.empty, mono := h.mono
    new := fun b hb => (h.new b hb).elim .inl fun h1 => h1.elim (fun ho => ho.empty.elim) fun h1 => .inr (.inr h1)
    own := fun b hb => .inl hb, len := Nat.min_le_right _ _, boxes := fun l xs _ hx => ⟨rfl, xs, hx⟩, kept := fun _ _ _ _ h => h }
theorem St.callee {F Λ σ w F1 Λ1 σ1 w1} (hs : St F Λ σ w) (h : Step 0 F (fun _ => none) [] w F1 Λ1 σ1 w1) (hs1 : St F1 Λ1 σ1 w1) : St F1 Λ σ w1 := by
 have hb : ∀ b, b < w.heap.size → w1.heap[b]? = w.heap[b]? := fun b hb => h.keep b hb fun ho => ho.empty
 have hF : ∀ b, F b → F1 b ∧ w1.heap[b]? = w.heap[b]? := fun b hb' => ⟨h.mono b hb', hb b (hs.old b hb')⟩
 refine ⟨fun L xs hr => ?_, hs.apart, hs1.old, hs1.tab, hs.lab⟩
 rcases hs.row L xs hr with h5 | ⟨b, o, cs, t', h5, h6, h7, h8⟩
 ·exact .inl h5
 ·have hlt : b < w.heap.size := (Array.getElem?_eq_some_iff.1 h7).1
  refine .inr ⟨b, o, cs, t', h5, fun hf => ?_, by rw [hb b hlt]; exact h7, fun j x hx => ?_⟩
  ·rcases h.new b hf with h1 | h1 | h1
   ·exact h6 h1
   ·exact h1.empty
   ·omega
  ·obtain ⟨c, h9, h10⟩ := h8 j x hx
   exact ⟨c, h9, h10.mono hF h.sizes⟩
theorem TOp_call {g : Nat} {as : List A} (hc : CallOp P o E g as) (hl : looseL as = true) {Q : A → Store → Prop} (hF : Fn P g as [] Q) (hd : dstOK n o.dst = true)
  (hN : ∀ r, Q r [] → r.loose = true ∧ N (put E o.dst r) σ) (hQ : ∀ r σ, Q r σ → σ = []) : TOp P n m o N E σ := fun F Λ w tmps K Qx hn hs hf hk => by
 obtain ⟨vs, ⟨hvl, hvs⟩, hrun⟩ := hc F Λ w tmps hf
 unfold Oper.wp
 rw [hrun w, Oper.upon_enter]
 refine hF F (fun _ => none) w vs _ hs.empty ⟨hvl, fun j x y hx hy => (hvs j x y hx hy).free (looseL_mem hl x (List.mem_of_getElem? hx))⟩ fun F1 Λ1 σ1 w1 v r hs1 hst hv hq => ?_
 have := hQ r σ1 hq
 subst this
 obtain ⟨hrl, hn'⟩ := hN r hq
 have hst' := Step.callee (m := m) hs hst
 have hf1 := hf.mono (hst'.frozen hs) hst.sizes
 obtain ⟨tmps', e, hn2, hf2⟩ := hf1.putO (ds := []) hn hd (hv.free (Λ' := Λ) hrl)
 show K (Act.put ⟨tmps, []⟩ o.dst v) w1
 rw [e]
 exact hk F1 Λ σ w1 tmps' _ hn2 (hs.callee hst hs1) hf2 hst' hn'
end
def entry : Nat → List A → Env
 | _, [] => []
 | k, a :: as => (k, a) :: entry (k + 1) as
theorem lk_entry : ∀ (as : List A) (k t : Nat), lk (entry k as) t = if k ≤ t then (as[t - k]?).getD .j else .j
 | [], k, t => by simp [entry, lk]
 | a :: as, k, t => by
  simp only [entry, lk]
  split
  ·rename_i e; subst e; simp
  ·rename_i e
   rw [lk_entry as]
   by_cases h : k ≤ t
   ·rw [if_pos (by omega), if_pos h, show t - k = (t - (k + 1)) + 1 by omega]
    simp
   ·rw [if_neg (by omega), if_neg h]
inductive ResA (P : Program) (E : Env) (σ : Store) : List ResultVar → List A → Prop
  | nil : ResA P E σ [] []
  | tmp {t rs as} : ResA P E σ rs as → ResA P E σ (.tmp t :: rs) (lk E t :: as)
  | cellK {a t l k xs rs as} : lk E a = .b l 0 → AggT P t k → rowAt σ [l] = some xs → k ≤ xs.length → ResA P E σ rs as → ResA P E σ (.cell a t :: rs) (.g (cellVals [l] 0 (xs.take k)) :: as)
  | cell1 {a t l y xs rs as} : lk E a = .b l 0 → OneT P t → rowAt σ [l] = some xs → xs[0]? = some y → ResA P E σ rs as → ResA P E σ (.cell a t :: rs) (cellVal [l, 0] y :: as)
def resA : List A → A
 | [a] => a
 | as => .t as
def resF (tmps : Array Value) : ResultVar → Sem Value
 | .tmp t => pure (tmps.getD t undef)
 | .cell a t => do loadVar t (← asAddr (tmps.getD a undef))
theorem ResA.run {P E σ rs as F Λ w} {tmps : Array Value} (h : ResA P E σ rs as) (hs : St F Λ σ w) (hf : FrOK F Λ w tmps E) :
  ∃ vs : List Value, vs.length = as.length ∧ (∀ (j : Nat) x y, as[j]? = some x → vs[j]? = some y → OK F Λ w y x) ∧
   Sem.run P (rs.mapM (resF tmps)) w = .ok vs w := by
 induction h with
 | nil => exact ⟨[], rfl, by simp, rfl⟩
 | @tmp t rs as _ ih =>
  obtain ⟨vs, h1, h2, h3⟩ := ih
  refine ⟨tmps.getD t undef :: vs, by simp [h1], fun j x y hx hy => ?_, ?_⟩
  ·cases j with
   | zero => simp only [List.getElem?_cons_zero, Option.some.injEq] at hx hy; subst hx hy; exact hf t
   | succ j => exact h2 j x y (by simpa using hx) (by simpa using hy)
  ·rw [List.mapM_cons]
   simp only [resF, Sem.run_bind, Sem.run_pure, Result.andThen_ok, h3]
 | @cellK a t l k xs rs as ha hT hr hk _ ih =>
  obtain ⟨vs, h1, h2, h3⟩ := ih
  have e1 := hf a
  rw [ha] at e1
  obtain ⟨b, o', hL, h4⟩ := e1.b_inv
  have h5 := pur_ldK_b (E := E) (σ := σ) (x := .tmp a) (o := { dst := none, op := .load t (.tmp a), type := t, pos := "", after := #[], guard := none }) (d := 0) hT ha hr (by omega) rfl F Λ w tmps hs hf
  obtain ⟨v, h6, h7⟩ := h5
  have h8 := h7 w (Alike.refl F Λ σ w)
  simp only [execOp, Act.eval, h4, Instr.loadAt, Instr.sureAddr, Sem.run_bind, Sem.run_pure, Result.andThen_ok] at h8
  have h9 : (loadVar t ⟨b, o' + 0, none⟩).run P w = .ok v w := by
   cases hrun : (loadVar t ⟨b, o' + 0, none⟩).run P w with
   | ok u w' => rw [hrun] at h8; simp only [Result.andThen_ok] at h8; cases h8; rfl
   | halt x w' => rw [hrun] at h8; cases h8
  refine ⟨v :: vs, by simp [h1], fun j x y hx hy => ?_, ?_⟩
  ·cases j with
   | zero => simp only [List.getElem?_cons_zero, Option.some.injEq] at hx hy; subst hx hy; simpa using h6
   | succ j => exact h2 j x y (by simpa using hx) (by simpa using hy)
  ·rw [List.mapM_cons]
   have h10 : (asAddr (tmps.getD a undef)).run P w = .ok ⟨b, o' + 0, none⟩ w := by rw [h4]; rfl
   simp only [resF, Sem.run_bind, h10, Sem.run_pure, Result.andThen_ok, h9, h3]
 | @cell1 a t l y0 xs rs as ha hT hr hk _ ih =>
  obtain ⟨vs, h1, h2, h3⟩ := ih
  have e1 := hf a
  rw [ha] at e1
  obtain ⟨b, o', hL, h4⟩ := e1.b_inv
  have h5 := pur_ld_b (E := E) (σ := σ) (x := .tmp a) (o := { dst := none, op := .load t (.tmp a), type := t, pos := "", after := #[], guard := none }) (d := 0) hT ha hr hk rfl F Λ w tmps hs hf
  obtain ⟨v, h6, h7⟩ := h5
  have h8 := h7 w (Alike.refl F Λ σ w)
  simp only [execOp, Act.eval, h4, Instr.loadAt, Instr.sureAddr, Sem.run_bind, Sem.run_pure, Result.andThen_ok] at h8
  have h9 : (loadVar t ⟨b, o' + 0, none⟩).run P w = .ok v w := by
   cases hrun : (loadVar t ⟨b, o' + 0, none⟩).run P w with
   | ok u w' => rw [hrun] at h8; simp only [Result.andThen_ok] at h8; cases h8; rfl
   | halt x w' => rw [hrun] at h8; cases h8
  refine ⟨v :: vs, by simp [h1], fun j x y hx hy => ?_, ?_⟩
  ·cases j with
   | zero => simp only [List.getElem?_cons_zero, Option.some.injEq] at hx hy; subst hx hy; exact h6
   | succ j => exact h2 j x y (by simpa using hx) (by simpa using hy)
  ·rw [List.mapM_cons]
   have h10 : (asAddr (tmps.getD a undef)).run P w = .ok ⟨b, o' + 0, none⟩ w := by rw [h4]; rfl
   simp only [resF, Sem.run_bind, h10, Sem.run_pure, Result.andThen_ok, h9, h3]
theorem OK.res {F Λ w} {vs : List Value} {as : List A} (hl : vs.length = as.length) (h : ∀ (j : Nat) x y, as[j]? = some x → vs[j]? = some y → OK F Λ w y x) : OK F Λ w (if h : vs.toArray.size = 1 then vs.toArray[0] else .tuple vs.toArray) (resA as) := by
 match as, vs, hl with
 | [], [], _ => exact .t [] [] rfl (by simp)
 | [a], [v], _ => exact h 0 a v rfl rfl
 | a :: a' :: as, v :: v' :: vs, hl => exact .t _ _ (by simpa using hl) h
theorem results_run {P E σ F Λ w} {tmps : Array Value} {fn : Func} {rs : List ResultVar} {as} (hr : fn.results = rs.toArray) (h : ResA P E σ rs as) (hs : St F Λ σ w) (hf : FrOK F Λ w tmps E) : ∃ v, (results fn tmps).run P w = .ok v w ∧ OK F Λ w v (resA as) := by
 obtain ⟨vs, h1, h2, h3⟩ := h.run hs hf
 refine ⟨_, ?_, OK.res h1 h2⟩
 change (Sem.run P (do let vs ← fn.results.mapM (resF tmps); pure (if h : vs.size = 1 then vs[0] else .tuple vs)) w) = _
 rw [Sem.run_bind, hr, List.mapM_toArray]
 simp only [Sem.run_map, h3, Result.andThen_ok, Sem.run_pure]
def EndK (P : Program) (rs : List ResultVar) (m : Nat) (Q : A → Store → Prop) : Exit → Env → Store → Prop
 | .normal, E, σ | .ret, E, σ => ∃ as, ResA P E σ rs as ∧ (∃ E' σ', Weak m [] σ E' σ' ∧ (resA as).names (fun L => decide (σ'.length ≤ L.headD 0)) = false ∧ (∀ r ∈ σ', boxNames σ'.length r = false) ∧ Q (resA as) σ')
 | _, _, _ => False
theorem fn_of_T {P f} {fn : Func} {c : Code} {as : List A} {σ : Store} {Q : A → Store → Prop} {rs : List ResultVar} (hf : P.funcs[f]? = some fn) (hb : fn.body = some c) (hr : fn.results = rs.toArray) (hn : as.length ≤ fn.ntmps)
    (h : T P fn.ntmps σ.length c (EndK P rs σ.length Q) (entry 0 as) σ) : Fn P f as σ Q := fun F Λ w vs R hs ⟨hvl, hvs⟩ hR => by
  refine calls_of_wp hf hb ?_
  refine h F Λ w _ _ (by simp; omega) hs (fun t => ?_) fun e F1 Λ1 σ1 w1 tmps1 E1 hn1 hs1 hf1 hst hK => ?_
  · rw [lk_entry]
    simp only [Nat.zero_le, if_true, Nat.sub_zero]
    cases ha : as[t]? with
    | none => exact .j _
    | some a =>
      have ht : t < vs.length := by have := (List.getElem?_eq_some_iff.1 ha).1; omega
      have : (vs.toArray ++ Array.replicate (fn.ntmps - vs.toArray.size) undef).getD t undef = vs[t] := by
        rw [Array.getD_eq_getD_getElem?, Array.getElem?_append_left (by simpa using ht)]
        simp [ht]
      rw [this]
      exact hvs t a _ ha (List.getElem?_eq_getElem ht)
  · have key : (∃ as, ResA P E1 σ1 rs as ∧ (∃ E' σ', Weak σ.length [] σ1 E' σ' ∧ (resA as).names (fun L => decide (σ'.length ≤ L.headD 0)) = false ∧ (∀ r ∈ σ', boxNames σ'.length r = false) ∧ Q (resA as) σ')) → ∃ v, (results fn tmps1).run P w1 = .ok v w1 ∧ R (.returned v) w1 := by
      rintro ⟨as', h1, E', σ', ⟨_, k, hm, rfl, hE, hb'⟩, hnm, hbx, hq⟩
      obtain ⟨v, h3, h4⟩ := results_run hr h1 hs1 hf1
      refine ⟨v, h3, ?_⟩
      have hw2 : Weak σ.length [] σ1 [] (σ1.take k) := ⟨by simp, k, hm, rfl, by simp, hb'⟩
      rcases Nat.le_total k σ1.length with hk | hk
      · have e : (σ1.take k).length = k := by simp; omega
        rw [e] at hnm
        refine hR F1 (cutL Λ1 k) (σ1.take k) w1 v _ (hs1.take k hb') (hst.trans ?_) (h4.cut hnm) hq
        exact { os := ⟨rfl, fun _ => by first | exact Nat.le_refl _ | exact Nat.le_succ _⟩, tape := rfl, output := rfl, size := Nat.le_refl _, sizes := Sizes.refl _, keep := fun _ _ _ => rfl, mono := fun _ h => h, new := fun _ h => .inl h, own := fun b h => .inl h.take
                len := by simp; omega
                kept := fun L b o hL h => by simp only [cutL]; rw [if_neg (by omega)]; exact h
                boxes := fun l xs hl hx => ⟨by simp only [cutL]; rw [if_neg (by simp; omega)], xs, by rw [List.getElem?_take_of_lt (by omega)]; exact hx⟩ }
      · rw [List.take_of_length_le hk] at hq
        exact hR F1 Λ1 σ1 w1 v _ hs1 hst h4 hq
    cases e with
    | normal => exact ⟨rfl, key hK⟩
    | ret => exact ⟨rfl, key hK⟩
    | _ => exact hK.elim
end Go.Sep
set_option linter.unusedVariables false
set_option linter.unusedSimpArgs false
namespace Go.Sep
open Go
def Pk (E : Env) : Env → Prop
 | [] => True
 | (t, a) :: E' => lk E t = a ∧ Pk E E'
theorem Pk.all {E : Env} : ∀ {E' : Env}, Pk E E' → ∀ p ∈ E', lk E p.1 = p.2
 | [], _, p, hp => by cases hp
 | (t, a) :: E', h, p, hp => by
  rcases List.mem_cons.1 hp with rfl | hp
  ·exact h.1
  ·exact Pk.all h.2 p hp
def namesE (k : Nat) : Env → Bool
 | [] => false
 | (_, a) :: E => a.names (fun L => decide (k ≤ L.headD 0)) || namesE k E
theorem namesE_all {k : Nat} : ∀ {E : Env}, namesE k E = false → ∀ p ∈ E, p.2.names (fun L => decide (k ≤ L.headD 0)) = false
 | [], _, p, hp => by cases hp
 | (t, a) :: E', h, p, hp => by
  simp only [namesE, Bool.or_eq_false_iff] at h
  rcases List.mem_cons.1 hp with rfl | hp
  ·exact h.1
  ·exact namesE_all h.2 p hp
def boxesE (k : Nat) : Store → Bool
 | [] => false
 | r :: σ => boxNames k r || boxesE k σ
theorem boxesE_all {k : Nat} : ∀ {σ : Store}, boxesE k σ = false → ∀ r ∈ σ, boxNames k r = false
 | [], _, p, hp => by cases hp
 | a :: E', h, p, hp => by
  simp only [boxesE, Bool.or_eq_false_iff] at h
  rcases List.mem_cons.1 hp with rfl | hp
  ·exact h.1
  ·exact boxesE_all h.2 p hp
theorem Weak.to {m E σ E' σ'} (k : Nat) (hm : m ≤ k) (hσ : σ' = σ.take k) (h1 : namesE k E' = false) (h2 : boxesE k σ' = false) (hE : Pk E E') : Weak m E σ E' σ' :=
 ⟨hE.all, k, hm, hσ, namesE_all h1, boxesE_all h2⟩
section
variable {P : Program} {n m : Nat} {K : Exit → Env → Store → Prop} {N : Env → Store → Prop} {E : Env} {σ : Store} {ops : Array Oper} {os : List Oper} {o : Oper}
theorem T_env {c : Code} {E' : Env} (hE : Pk E E') (h : T P n m c K E' σ) : T P n m c K E σ := fun F Λ w tmps Q hn hs hf hq =>
 h F Λ w tmps Q hn hs (hf.weak hE.all) hq
theorem TO_split (d : Nat) {t : Bool} (hl : lk E d = .v (.bool t)) (h1 : t = true → TO P n m ops os N ((d, .v (.bool true)) :: E) σ) (h2 : t = false → TO P n m ops os N ((d, .v (.bool false)) :: E) σ) : TO P n m ops os N E σ := fun F Λ w tmps Q hn hs hf hq => by
 have hset : ∀ t', t = t' → FrOK F Λ w tmps ((d, .v (.bool t')) :: E) := fun t' ht u => by
  subst ht
  simp only [lk]
  split
  ·rename_i e; subst e; rw [← hl]; exact hf d
  ·exact hf u
 cases t with
 | true => exact h1 rfl F Λ w tmps Q hn hs (hset _ rfl) hq
 | false => exact h2 rfl F Λ w tmps Q hn hs (hset _ rfl) hq
theorem FrOK.congr {F Λ w tmps} {E E' : Env} (h : ∀ u, lk E' u = lk E u) (hf : FrOK F Λ w tmps E) : FrOK F Λ w tmps E' := fun t => by rw [h]; exact hf t
theorem lk_same {E : Env} {d a} (h : lk E d = a) (u : Nat) : lk E u = lk ((d, a) :: E) u := by
 simp only [lk]
 split
 ·rename_i e; subst e; exact h
 ·rfl
theorem TO_on {j d : Nat} {want : Bool} (hg : o.guard = some (j, want)) (hd : (ops[j]?).bind (·.dst) = some d) (hdn : d < n) (hl : lk E d = .v (.bool want)) (hdst : dstOK n o.dst = true)
  (h1 : TOp P n m o (TO P n m ops os N) E σ) : TO P n m ops (o :: os) N E σ :=
 TO_guard hg hd hdn hl hdst (fun _ F Λ w tmps K Q hn hs hf hk => h1 F Λ w tmps K Q hn hs (hf.congr (lk_same hl)) hk) (fun h => by cases want <;> cases h)
def offB (want : Bool) : Value → Bool
 | .bool b => b != want
 | _ => true
theorem yielded_off {F Λ w tmps} {j d : Nat} {want : Bool} {v0 : Value} (hf : FrOK F Λ w tmps E) (hn : tmps.size = n) (hd : (ops[j]?).bind (·.dst) = some d) (hdn : d < n) (hl : lk E d = .v v0) (hv : offB want v0 = true) : yielded ops tmps j ≠ some want := by
 have e1 := hf d
 rw [hl] at e1
 have e1 := e1.v_inv
 have h1 : tmps[d]? = some v0 := by
  rw [Array.getD_eq_getD_getElem?, Array.getElem?_eq_getElem (by omega)] at e1
  rw [Array.getElem?_eq_getElem (by omega)]
  simpa using e1
 unfold yielded
 rw [hd]
 simp only [Option.bind_some, h1]
 cases v0 <;> simp_all [offB]
theorem TO_off {j d : Nat} {want : Bool} {v0 : Value} (hg : o.guard = some (j, want)) (hd : (ops[j]?).bind (·.dst) = some d) (hdn : d < n) (hl : lk E d = .v v0) (hv : offB want v0 = true) (hdst : dstOK n o.dst = true)
  (h1 : TO P n m ops os N (put E o.dst (.v undef)) σ) : TO P n m ops (o :: os) N E σ := fun F Λ w tmps Q hn hs hf hq => by
 unfold wpList
 rw [if_neg (by simpa [Region.wanted, hg] using yielded_off hf hn hd hdn hl hv)]
 obtain ⟨tmps', e, hn', hf'⟩ := hf.putO (ds := []) (v := undef) hn hdst (.imm (.v _))
 rw [e]; exact h1 F Λ w tmps' Q hn' hs hf' hq
theorem then_exit {N : Env → Store → Prop} {id} (h : K (.exit id) E σ) : thenK N K (.exit id) E σ := h
theorem then_ret {N : Env → Store → Prop} (h : K .ret E σ) : thenK N K .ret E σ := h
theorem block_ret {id} (h : K .ret E σ) : blockK id K .ret E σ := h
theorem block_exit {id} (h : K .normal E σ) : blockK id K (.exit id) E σ := by
 show (if id = id then K .normal else K (.exit id)) E σ
 rw [if_pos rfl]; exact h
theorem end_ret {rs as Q} (h : ResA P E σ rs as) {r} (hr : resA as = r) (hl : r.names (fun _ => true) = false) (hq : Q r []) : EndK P rs 0 Q .ret E σ := by
 subst hr
 exact ⟨as, h, [], [], ⟨by simp, 0, Nat.le_refl _, by simp, by simp, by simp⟩, by simpa using hl, by simp, hq⟩
end
abbrev intA (z : Int) : A := .v (.int .i64 z)
abbrev natA (z : Nat) : A := .v (.int .i64 (z : Int))
abbrev boolA (b : Bool) : A := .v (.bool b)
abbrev strA (s : ByteArray) : A := .v (.string s)
def ints (xs : List Int) : List A := xs.map intA
def bools (xs : List Bool) : List A := xs.map boolA
def strs (xs : List ByteArray) : List A := xs.map strA
def flat {α : Type} (f : α → List A) : List α → List A
 | [] => []
 | x :: xs => f x ++ flat f xs
class Len (xs : List A) (k : Nat) (n : outParam Nat) : Prop where
  h : xs.length = n * k
instance (xs : List Int) : Len (ints xs) 1 xs.length := ⟨by simp [ints]⟩
instance (xs : List Bool) : Len (bools xs) 1 xs.length := ⟨by simp [bools]⟩
instance (xs : List ByteArray) : Len (strs xs) 1 xs.length := ⟨by simp [strs]⟩
theorem flat_len {α : Type} {f : α → List A} {k : Nat} (h : ∀ x, (f x).length = k) : ∀ xs : List α, (flat f xs).length = xs.length * k
 | [] => by simp [flat]
 | x :: xs => by simp [flat, flat_len h xs, h, Nat.succ_mul, Nat.add_comm]
theorem flat_get {α : Type} [Inhabited α] {f : α → List A} {k : Nat} (h : ∀ x, (f x).length = k) : ∀ (xs : List α) (i j : Nat), i < xs.length → j < k → (flat f xs)[i * k + j]? = (f (xs.getD i default))[j]?
 | [], i, j, hi, _ => by simp at hi
 | x :: xs, 0, j, _, hj => by simp only [flat, Nat.zero_mul, Nat.zero_add, List.getD_cons_zero]; rw [List.getElem?_append_left (by rw [h]; exact hj)]
 | x :: xs, i + 1, j, hi, hj => by
  simp only [flat, List.getD_cons_succ]
  rw [List.getElem?_append_right (by rw [h, Nat.succ_mul]; omega), h, ← flat_get h xs i j (by simpa using hi) hj]
  congr 1
  rw [Nat.succ_mul]; omega
section
variable {P : Program} {E : Env} {σ : Store} {o : Oper}
end
end Go.Sep
set_option linter.unusedVariables false
set_option linter.unusedSimpArgs false
namespace Go.Sep
open Go
def FnV (P : Program) (f : Nat) (as : List A) (r : A) : Prop := Fn P f as [] fun r' σ => r' = r ∧ σ = []
theorem looseL_app {xs ys : List A} (h1 : looseL xs = true) (h2 : looseL ys = true) : looseL (xs ++ ys) = true := by
 induction xs with
 | nil => exact h2
 | cons x xs ih => simp only [looseL, Bool.and_eq_true, List.cons_append] at *; exact ⟨h1.1, ih h1.2⟩
section
variable {P : Program} {n m : Nat} {K : Exit → Env → Store → Prop} {N : Env → Store → Prop} {E : Env} {σ : Store} {ops : Array Oper} {os : List Oper} {o : Oper}
theorem TOp_callV {g : Nat} {as : List A} {r : A} (hc : CallOp P o E g as) (hF : FnV P g as r) (hl : looseL as = true) (hr : r.loose = true) (hd : dstOK n o.dst = true) (hN : N (put E o.dst r) σ) : TOp P n m o N E σ :=
 TOp_call hc hl hF hd (fun r' h => by rw [h.1]; exact ⟨hr, hN⟩) fun r' σ' h => h.2
theorem fnV_of_T {f} {fn : Func} {c : Code} {as : List A} {r : A} {rs : List ResultVar} (hf : P.funcs[f]? = some fn) (hb : fn.body = some c) (hr : fn.results = rs.toArray) (hn : as.length ≤ fn.ntmps)
  (h : T P fn.ntmps 0 c (EndK P rs 0 fun r' σ => r' = r ∧ σ = []) (entry 0 as) []) : FnV P f as r := fn_of_T hf hb hr hn h
def Cls (m : Nat) (F : Nat → Prop) (Λ : Lbl) (σ : Store) (w : World) (w' : World) : Prop := St F Λ σ w' ∧ Alike F Λ σ w w' ∧ Step m F Λ σ w F Λ σ w'
theorem Cls.fr {F Λ w tmps w'} (h : Cls m F Λ σ w w') (hf : FrOK F Λ w tmps E) : FrOK F Λ w' tmps E := hf.mono (fun b hb => ⟨hb, h.2.1 b (.inl hb)⟩) h.2.2.sizes
def TQ (P : Program) (n m : Nat) (ops : Array Oper) (os : List Oper) (N : Env → Store → Prop) (E : Env) (σ : Store) : Prop :=
 ∀ F Λ w tmps (Q : Act → Prop), tmps.size = n → St F Λ σ w → FrOK F Λ w tmps E → (∀ tmps' E', tmps'.size = n → FrOK F Λ w tmps' E' → N E' σ → Q ⟨tmps', []⟩) →
  wpQuiet P ops (Cls m F Λ σ w) Q os ⟨tmps, []⟩
theorem TQ_nil (h : N E σ) : TQ P n m ops [] N E σ := fun F Λ w tmps Q hn hs hf hq => hq tmps E hn hf h
theorem TQ_pure {r : A} (hg : o.guard = none) (hp : Pur P o E σ r) (hd : dstOK n o.dst = true) (h : TQ P n m ops os N (put E o.dst r) σ) : TQ P n m ops (o :: os) N E σ := fun F Λ w tmps Q hn hs hf hq => by
 obtain ⟨v, hv, hr⟩ := hp F Λ w tmps hs hf
 unfold wpQuiet
 rw [if_pos (by simp [Region.wanted, hg])]
 refine ⟨v, fun w' hw' => ?_, ?_⟩
 ·unfold Oper.quietAt; rw [hr w' hw'.2.1]; exact ⟨rfl, rfl⟩
 ·obtain ⟨tmps', e, hn', hf'⟩ := hf.putO (ds := []) hn hd hv
  rw [e]; exact h F Λ w tmps' Q hn' hs hf' hq
theorem TQ_split (d : Nat) {t : Bool} (hl : lk E d = .v (.bool t)) (h1 : t = true → TQ P n m ops os N ((d, .v (.bool true)) :: E) σ) (h2 : t = false → TQ P n m ops os N ((d, .v (.bool false)) :: E) σ) : TQ P n m ops os N E σ := fun F Λ w tmps Q hn hs hf hq => by
 cases t with
 | true => exact h1 rfl F Λ w tmps Q hn hs (hf.congr fun u => (lk_same hl u).symm) hq
 | false => exact h2 rfl F Λ w tmps Q hn hs (hf.congr fun u => (lk_same hl u).symm) hq
theorem yielded_of {F Λ w tmps} {j d : Nat} {t : Bool} (hf : FrOK F Λ w tmps E) (hn : tmps.size = n) (hd : (ops[j]?).bind (·.dst) = some d) (hdn : d < n) (hl : lk E d = .v (.bool t)) : yielded ops tmps j = some t := by
 have e1 := hf d
 rw [hl] at e1
 have e1 := e1.v_inv
 unfold yielded
 rw [hd]
 have : tmps[d]? = some (.bool t) := by
  rw [Array.getD_eq_getD_getElem?, Array.getElem?_eq_getElem (by omega)] at e1
  rw [Array.getElem?_eq_getElem (by omega)]
  simpa using e1
 simp [this]
theorem TQ_on {r : A} {j d : Nat} {want : Bool} (hg : o.guard = some (j, want)) (hd : (ops[j]?).bind (·.dst) = some d) (hdn : d < n) (hl : lk E d = .v (.bool want)) (hp : Pur P o E σ r) (hdst : dstOK n o.dst = true) (h : TQ P n m ops os N (put E o.dst r) σ) : TQ P n m ops (o :: os) N E σ := fun F Λ w tmps Q hn hs hf hq => by
 obtain ⟨v, hv, hr⟩ := hp F Λ w tmps hs hf
 unfold wpQuiet
 rw [if_pos (by simp [Region.wanted, hg, yielded_of hf hn hd hdn hl])]
 refine ⟨v, fun w' hw' => ?_, ?_⟩
 ·unfold Oper.quietAt; rw [hr w' hw'.2.1]; exact ⟨rfl, rfl⟩
 ·obtain ⟨tmps', e, hn', hf'⟩ := hf.putO (ds := []) hn hdst hv
  rw [e]; exact h F Λ w tmps' Q hn' hs hf' hq
theorem TQ_off {j d : Nat} {want : Bool} {v0 : Value} (hg : o.guard = some (j, want)) (hd : (ops[j]?).bind (·.dst) = some d) (hdn : d < n) (hl : lk E d = .v v0) (hv : offB want v0 = true) (hdst : dstOK n o.dst = true) (h : TQ P n m ops os N (put E o.dst (.v undef)) σ) : TQ P n m ops (o :: os) N E σ := fun F Λ w tmps Q hn hs hf hq => by
 unfold wpQuiet
 rw [if_neg (by simpa [Region.wanted, hg] using yielded_off hf hn hd hdn hl hv)]
 obtain ⟨tmps', e, hn', hf'⟩ := hf.putO (ds := []) (v := undef) hn hdst (.imm (.v _))
 rw [e]; exact h F Λ w tmps' Q hn' hs hf' hq
theorem quiet_call {g : Nat} {as : List A} {x : Value} {F Λ w tmps} (hc : CallOp P o E g as) (hF : FnV P g as (.v x)) (hl : looseL as = true) (hf : FrOK F Λ w tmps E) : ∀ w', Cls m F Λ σ w w' → o.quietAt P ⟨tmps, []⟩ (Cls m F Λ σ w) w' x := fun w' hw' => by
  obtain ⟨vs, ⟨hvl, hvs⟩, hrun⟩ := hc F Λ w' tmps (hw'.fr hf)
  unfold Oper.quietAt
  rw [hrun w']
  refine ⟨rfl, ?_⟩
  refine hF F (fun _ => none) w' vs _ hw'.1.empty ⟨hvl, fun j x y hx hy => (hvs j x y hx hy).free (looseL_mem hl x (List.mem_of_getElem? hx))⟩ fun F1 Λ1 σ1 w1 v r hs1 hst hv hq => ?_
  obtain ⟨rfl, rfl⟩ := hq
  have := hv.v_inv
  subst this
  refine ⟨rfl, ?_⟩
  have hst' : Step m F Λ σ w' F Λ σ w1 :=
    { os := hst.os, tape := hst.tape, output := hst.output, size := hst.size, sizes := hst.sizes, keep := fun b hb _ => hst.keep b hb fun ho => ho.empty, mono := fun _ h => h
      new := fun b hb => .inl hb, own := fun b hb => .inl hb, len := Nat.min_le_right _ _, boxes := fun l xs _ hx => ⟨rfl, xs, hx⟩, kept := fun _ _ _ _ h => h }
  have hkeep : ∀ b, b < w'.heap.size → w1.heap[b]? = w'.heap[b]? := fun b hb => hst.keep b hb fun ho => ho.empty
  have hs' := hw'.1
  refine ⟨⟨fun L xs hr => ?_, hs'.apart, fun b hb => Nat.lt_of_lt_of_le (hs'.old b hb) hst.size, hs'.tab.mono (fun b hb => ⟨hb, hkeep b (hs'.old b hb)⟩), hs'.lab⟩, fun b hb => ?_, hw'.2.2.trans hst'⟩
  · rcases hs'.row L xs hr with h5 | ⟨b, o, cs, t', h5, h6, h7, h8⟩
    · exact .inl h5
    · have hlt : b < w'.heap.size := (Array.getElem?_eq_some_iff.1 h7).1
      refine .inr ⟨b, o, cs, t', h5, h6, by rw [hkeep b hlt]; exact h7, fun j x hx => ?_⟩
      obtain ⟨c, h9, h10⟩ := h8 j x hx
      exact ⟨c, h9, h10.mono (fun b hb => ⟨hb, hkeep b (hs'.old b hb)⟩) hst.sizes⟩
  · have hlt : b < w'.heap.size := by
      rcases hb with hb | hb
      · exact hs'.old b hb
      · exact hs'.owns hb
    rw [hkeep b hlt, hw'.2.1 b hb]
theorem TQ_callV {g : Nat} {as : List A} {x : Value} (hg : o.guard = none) (hc : CallOp P o E g as) (hF : FnV P g as (.v x)) (hl : looseL as = true) (hd : dstOK n o.dst = true) (h : TQ P n m ops os N (put E o.dst (.v x)) σ) : TQ P n m ops (o :: os) N E σ := fun F Λ w tmps Q hn hs hf hq => by
 unfold wpQuiet
 rw [if_pos (by simp [Region.wanted, hg])]
 refine ⟨x, quiet_call hc hF hl hf, ?_⟩
 obtain ⟨tmps', e, hn', hf'⟩ := hf.putO (ds := []) hn hd (.imm (.v x))
 rw [e]; exact h F Λ w tmps' Q hn' hs hf' hq
theorem TQ_onV {g : Nat} {as : List A} {x : Value} {j d : Nat} {want : Bool} (hg : o.guard = some (j, want)) (hd : (ops[j]?).bind (·.dst) = some d) (hdn : d < n) (hw : lk E d = .v (.bool want)) (hc : CallOp P o E g as) (hF : FnV P g as (.v x)) (hl : looseL as = true) (hdst : dstOK n o.dst = true) (h : TQ P n m ops os N (put E o.dst (.v x)) σ) : TQ P n m ops (o :: os) N E σ := fun F Λ w tmps Q hn hs hf hq => by
 unfold wpQuiet
 rw [if_pos (by simp [Region.wanted, hg, yielded_of hf hn hd hdn hw])]
 refine ⟨x, quiet_call hc hF hl hf, ?_⟩
 obtain ⟨tmps', e, hn', hf'⟩ := hf.putO (ds := []) hn hdst (.imm (.v x))
 rw [e]; exact h F Λ w tmps' Q hn' hs hf' hq
theorem T_regionD {id} {l : List Oper} (hm : P.follows .mixedOrders = true) (hB : Region.lexB .any l.toArray = true) (h : TQ P n m l.toArray l (K .normal) E σ) : T P n m (.region id l.toArray true) K E σ := fun F Λ w tmps Q hn hs hf hq => by
 have h0 : ∀ b, Own Λ σ b → b < w.heap.size := fun b hb => hs.owns hb
 refine wp_region_quiet (C := Cls m F Λ σ w) hm hB ⟨⟨fun L xs hr => ?_, hs.apart, hs.old, hs.tab, hs.lab⟩, fun b _ => rfl, ?_⟩ ?_
 ·exact (hs.row L xs hr).imp (fun h => h) fun ⟨b, o, cs, t, h1, h2, h3, h4⟩ => ⟨b, o, cs, t, h1, h2, h3, fun j x hx => (h4 j x hx).imp fun c hc => ⟨hc.1, hc.2.mono (w := w) (w' := { w with drawn := w.drawn + 1 }) (fun b hb => ⟨hb, rfl⟩) fun b cs t h => ⟨cs, h, rfl⟩⟩⟩
 ·exact { os := ⟨rfl, fun _ => by first | exact Nat.le_refl _ | exact Nat.le_succ _⟩, tape := rfl, output := rfl, size := Nat.le_refl _, sizes := fun b cs t h => ⟨cs, h, rfl⟩, keep := fun _ _ _ => rfl, mono := fun _ h => h, new := fun _ h => .inl h, own := fun _ h => .inl h, len := Nat.min_le_right _ _, boxes := fun l xs _ hx => ⟨rfl, xs, hx⟩, kept := fun _ _ _ _ h => h }
 ·have := h F Λ w tmps (fun a' => ∀ w', Cls m F Λ σ w w' → Q .normal a' w') hn hs hf fun tmps' E' hn' hf' hN w' hw' => hq .normal F Λ σ w' tmps' E' hn' hw'.1 (hw'.fr hf') hw'.2.2 hN
  simpa using this
end
theorem SlT.of {P : Program} {t e k : Nat} (u : P.underlying t = some (.slice e)) (i : (P.info? e).map (·.size) = some k) (pos : 0 < k) : SlT P t e k := ⟨u, by simpa using i, pos⟩
theorem AggT.of {P : Program} {t k : Nat} (u : ((P.underlying t).map fun d => match d with | .struct _ => true | _ => false) = some true) (i : (P.info? t).map (·.size) = some k) : AggT P t k := by
 refine ⟨?_, by simpa using i⟩
 cases h : P.underlying t with
 | none => simp [h] at u
 | some d => cases d <;> simp [h] at u; exact ⟨_, rfl⟩
theorem OneT.of {P : Program} {t : Nat} (u : ((P.underlying t).map isOne) = some true) : OneT P t := by
 cases h : P.underlying t with
 | none => simp [h] at u
 | some d => exact ⟨d, h, by simpa [h] using u⟩
theorem FldT.of {P : Program} {t x off ft : Nat} (u : ((P.underlying t).bind fun d => match d with | .struct fs => (fs[x]?).map fun f => (f.offset, f.type) | _ => none) = some (off, ft)) (i : ((P.info? ft).map fun j => j.size != 0) = some true) : FldT P t x off ft := by
 constructor
 ·cases h : P.underlying t with
  | none => simp [h] at u
  | some d =>
   cases d <;> simp [h] at u
   rename_i fs
   obtain ⟨f, h1, h2, h3⟩ := u
   exact ⟨fs, f, rfl, by simpa using h1, h2, h3⟩
 ·cases h : P.info? ft with
  | none => simp [h] at i
  | some j => exact ⟨j, rfl, by simpa [h] using i⟩
theorem ZeroT.of {P : Program} {t : Nat} {zs : List Value} (z : ((P.info? t).bind (·.zero)).map (fun z => z.cells.toList) = some zs) (s : ∀ z ∈ zs, Sep.sc z = true) : ZeroT P t zs := by
 refine ⟨?_, s⟩
 cases h : P.info? t with
 | none => simp [h] at z
 | some i =>
  simp [h] at z
  obtain ⟨y, h1, h2⟩ := z
  exact ⟨i, y, rfl, h1, h2⟩
end Go.Sep
set_option linter.unusedVariables false
set_option linter.unusedSimpArgs false
namespace Go.Sep
open Go
def setSub : List A → List Nat → List A → List A
 | _, [], ys => ys
 | xs, j :: p, ys => match xs[j]? with
  | some (.o k zs) => xs.set j (.o k (setSub zs p ys))
  | _ => xs
def Root.under (f : List A → List A) : Root → Root
 | .dead => .dead
 | .box xs => .box (f xs)
 | .row xs => .row (f xs)
def setRow (σ : Store) (L : List Nat) (ys : List A) : Store := match L with
 | [] => σ
 | l :: p => match σ[l]? with
  | some r => σ.set l (r.under fun xs => setSub xs p ys)
  | none => σ
@[simp] theorem under_cells (r : Root) (f : List A → List A) : (r.under f).cells = r.cells.map f := by cases r <;> rfl
theorem under_isB (r : Root) (f : List A → List A) : isB (r.under f) = isB r := by cases r <;> rfl
theorem setSub_len : ∀ (p : List Nat) (xs xs0 ys : List A), sub xs p = some xs0 → ys.length = xs0.length → (setSub xs p ys).length = xs.length
 | [], xs, xs0, ys, h, hl => by simp only [sub, Option.some.injEq] at h; subst h; simpa [setSub] using hl
 | j :: p, xs, xs0, ys, h, hl => by
  simp only [setSub]
  split <;> simp
theorem sub_setSub : ∀ (p : List Nat) (xs xs0 ys : List A), sub xs p = some xs0 → ys.length = xs0.length → (∀ (j : Nat) (x' : A), ys[j]? = some x' → xs0[j]? = some x' ∨ x'.plain = true) →
  ∀ q zs', sub (setSub xs p ys) q = some zs' → ∃ zs, sub xs q = some zs ∧ zs'.length = zs.length ∧ ∀ (j : Nat) (x' : A), zs'[j]? = some x' →
   (q = p ∧ ys[j]? = some x') ∨ (q ≠ p ∧ ∃ x, zs[j]? = some x ∧ (x' = x ∨ ∃ (k : Nat) (u u' : List A), x = .o k u ∧ x' = .o k u' ∧ u'.length = u.length))
 | [], xs, xs0, ys, h, hl, hp, q, zs', hq => by
  simp only [sub, Option.some.injEq] at h
  subst h
  simp only [setSub] at hq
  cases q with
  | nil =>
   simp only [sub, Option.some.injEq] at hq
   subst hq
   exact ⟨xs, rfl, hl, fun j x' hx => .inl ⟨rfl, hx⟩⟩
  | cons i q =>
   simp only [sub] at hq
   split at hq
   ·rename_i k u hi
    rcases hp i _ hi with h1 | h1
    ·refine ⟨zs', by simp only [sub, h1]; exact hq, rfl, fun j x' hx => .inr ⟨by simp, x', hx, .inl rfl⟩⟩
    ·simp [A.plain] at h1
   ·cases hq
 | i :: p, xs, xs0, ys, h, hl, hp, q, zs', hq => by
  simp only [sub] at h
  split at h
  case h_2 => cases h
  rename_i k zs0 hi
  simp only [setSub, hi] at hq
  have hil : i < xs.length := (List.getElem?_eq_some_iff.1 hi).1
  cases q with
  | nil =>
   simp only [sub, Option.some.injEq] at hq
   subst hq
   refine ⟨xs, rfl, by simp, fun j x' hx => .inr ⟨by simp, ?_⟩⟩
   rw [List.getElem?_set] at hx
   split at hx
   ·rename_i e
    subst e
    simp [hil] at hx
    subst hx
    exact ⟨_, hi, .inr ⟨k, zs0, _, rfl, rfl, setSub_len p zs0 xs0 ys h hl⟩⟩
   ·exact ⟨x', hx, .inl rfl⟩
  | cons j q =>
   simp only [sub] at hq
   by_cases e : i = j
   ·subst e
    rw [List.getElem?_set] at hq
    simp only [if_true, hil] at hq
    obtain ⟨zs, h1, h2, h3⟩ := sub_setSub p zs0 xs0 ys h hl hp q zs' hq
    refine ⟨zs, by simp only [sub, hi]; exact h1, h2, fun j x' hx => ?_⟩
    rcases h3 j x' hx with ⟨h4, h5⟩ | ⟨h4, h5⟩
    ·exact .inl ⟨by rw [h4], h5⟩
    ·exact .inr ⟨by simpa using h4, h5⟩
   ·rw [List.getElem?_set, if_neg e] at hq
    refine ⟨zs', by simp only [sub]; exact hq, rfl, fun j' x' hx => .inr ⟨by simp; intro h; exact absurd h.symm e, x', hx, .inl rfl⟩⟩
theorem rowAt_setRow {σ : Store} {L : List Nat} {xs ys : List A} (hr : rowAt σ L = some xs) (hl : ys.length = xs.length) (hp : ∀ (j : Nat) (x' : A), ys[j]? = some x' → xs[j]? = some x' ∨ x'.plain = true) {L' zs'} (h : rowAt (setRow σ L ys) L' = some zs') :
  ∃ zs, rowAt σ L' = some zs ∧ zs'.length = zs.length ∧ ∀ (j : Nat) (x' : A), zs'[j]? = some x' →
   (L' = L ∧ ys[j]? = some x') ∨ (L' ≠ L ∧ ∃ x, zs[j]? = some x ∧ (x' = x ∨ ∃ (k : Nat) (u u' : List A), x = .o k u ∧ x' = .o k u' ∧ u'.length = u.length)) := by
 cases L with
 | nil => simp [rowAt] at hr
 | cons l p =>
  simp only [rowAt] at hr
  split at hr
  case h_2 => cases hr
  rename_i r hlr
  split at hr
  case h_2 => cases hr
  rename_i ws hws
  simp only [setRow, hlr] at h
  have hll : l < σ.length := (List.getElem?_eq_some_iff.1 hlr).1
  cases L' with
  | nil => simp [rowAt] at h
  | cons l' q =>
   simp only [rowAt] at h
   by_cases e : l = l'
   ·subst e
    rw [List.getElem?_set] at h
    simp only [if_true, hll, under_cells, hws, Option.map_some] at h
    obtain ⟨zs, h1, h2, h3⟩ := sub_setSub p ws xs ys hr hl hp q zs' h
    refine ⟨zs, by simp only [rowAt, hlr, hws]; exact h1, h2, fun j x' hx => ?_⟩
    rcases h3 j x' hx with ⟨h4, h5⟩ | ⟨h4, h5⟩
    ·exact .inl ⟨by rw [h4], h5⟩
    ·exact .inr ⟨by simpa using h4, h5⟩
   ·rw [List.getElem?_set, if_neg e] at h
    refine ⟨zs', by simp only [rowAt]; exact h, rfl, fun j x' hx => .inr ⟨by simp; intro h; exact absurd h.symm e, x', hx, .inl rfl⟩⟩
theorem setRow_len (σ : Store) (L ys) : (setRow σ L ys).length = σ.length := by
 unfold setRow
 split
 ·rfl
 ·split <;> simp
theorem isBox_one (σ : Store) (l : Nat) : isBox σ [l] = ((σ[l]?).map isB).getD false := by
 simp only [isBox]
 cases σ[l]? with
 | none => rfl
 | some r => cases r <;> rfl
theorem isBox_setRow (σ : Store) (L ys L') : isBox (setRow σ L ys) L' = isBox σ L' := by
 match L' with
 | [] => rfl
 | [l'] =>
  rw [isBox_one, isBox_one]
  congr 1
  unfold setRow
  split
  ·rfl
  ·rename_i l p
   split
   ·rename_i r hr
    rw [List.getElem?_set]
    split
    ·rename_i e
     subst e
     have hll : l < σ.length := (List.getElem?_eq_some_iff.1 hr).1
     rw [if_pos hll, hr]
     simp [under_isB]
    ·rfl
   ·rfl
 | _ :: _ :: _ => rfl
theorem Cell.len {F Λ w bx L c k u u'} (h : Cell F Λ w bx L c (.o k u)) (hl : u'.length = u.length) : Cell F Λ w bx L c (.o k u') := by
 obtain ⟨h1, h2, n, h3, h4⟩ := h
 exact ⟨h1, h2, n, by rw [hl]; exact h3, h4⟩
theorem St.store {m F Λ σ w w'} (hs : St F Λ σ w) {L xs ys b o'} {cs cs' : Array Value} {t : TypeId} (hr : rowAt σ L = some xs) (hl : ys.length = xs.length) (hp : ∀ (j : Nat) (x' : A), ys[j]? = some x' → xs[j]? = some x' ∨ x'.plain = true)
    (hL : Λ L = some (b, o')) (hb : w.heap[b]? = some (.cells cs t (0, 0))) (hb' : w'.heap[b]? = some (.cells cs' t (0, 0))) (hsz : cs'.size = cs.size) (hoth : ∀ b', b' ≠ b → w'.heap[b']? = w.heap[b']?)
    (hsize : w'.heap.size = w.heap.size) (hos : OsLe w w') (htape : w'.tape = w.tape) (hout : w'.output = w.output)
    (hc : ∀ (j : Nat) x', ys[j]? = some x' → ∃ c, cs'[o' + j]? = some c ∧ Cell F Λ w (isBox σ L) (L ++ [j]) c x') :
    St F Λ (setRow σ L ys) w' ∧ Step m F Λ σ w F Λ (setRow σ L ys) w' := by
  have hO : ¬ F b := fun hf => hs.notOwn hf ⟨L, xs, o', hr, hL⟩
  have hF : ∀ b', F b' → F b' ∧ w'.heap[b']? = w.heap[b']? := fun b' hb' => ⟨hb', hoth b' fun e => hO (e ▸ hb')⟩
  have hS : Sizes w w' := fun b' cs1 t1 h1 => by
    by_cases e : b' = b
    · subst e; rw [hb] at h1; cases h1; exact ⟨cs', hb', hsz⟩
    · exact ⟨cs1, by rw [hoth b' e]; exact h1, rfl⟩
  have hown : ∀ b', Own Λ (setRow σ L ys) b' → Own Λ σ b' := by
    rintro b' ⟨L', zs', o2, h1, h2⟩
    obtain ⟨zs, h3, _⟩ := rowAt_setRow hr hl hp h1
    exact ⟨L', zs, o2, h3, h2⟩
  refine ⟨⟨fun L' zs' h1 => ?_, fun L1 x1 L2 x2 b1 o1 o2 h1 h2 h3 h4 => ?_, fun b' hb' => by rw [hsize]; exact hs.old b' hb', hs.tab.mono hF, fun L' hL' => hs.lab L' (by rw [setRow_len] at hL'; exact hL')⟩, ?_⟩
  · obtain ⟨zs, h3, h4, h5⟩ := rowAt_setRow hr hl hp h1
    by_cases e : L' = L
    · subst e
      refine .inr ⟨b, o', cs', t, hL, hO, hb', fun j x' hx => ?_⟩
      rcases h5 j x' hx with ⟨_, h6⟩ | ⟨h6, _⟩
      · obtain ⟨c, h7, h8⟩ := hc j x' h6
        exact ⟨c, h7, by rw [isBox_setRow]; exact h8.mono hF hS⟩
      · exact absurd rfl h6
    · rcases hs.row L' zs h3 with ⟨h6, h7⟩ | ⟨b2, o2, cs2, t2, h6, h7, h8, h9⟩
      · refine .inl ⟨h6, ?_⟩
        subst h7
        exact List.eq_nil_of_length_eq_zero h4
      · have hne : b2 ≠ b := fun e2 => by
          subst e2
          exact e (hs.apart L' zs L xs b2 o2 o' h3 hr h6 hL)
        refine .inr ⟨b2, o2, cs2, t2, h6, h7, by rw [hoth b2 hne]; exact h8, fun j x' hx => ?_⟩
        rcases h5 j x' hx with ⟨h10, _⟩ | ⟨_, x, h10, h11⟩
        · exact absurd h10 e
        · obtain ⟨c, h12, h13⟩ := h9 j x h10
          refine ⟨c, h12, ?_⟩
          rw [isBox_setRow]
          rcases h11 with rfl | ⟨k, u, u', rfl, rfl, h14⟩
          · exact h13.mono hF hS
          · exact (h13.mono hF hS).len h14
  · obtain ⟨zs1, g1, _⟩ := rowAt_setRow hr hl hp h1
    obtain ⟨zs2, g2, _⟩ := rowAt_setRow hr hl hp h2
    exact hs.apart L1 zs1 L2 zs2 b1 o1 o2 g1 g2 h3 h4
  · exact { os := hos, tape := htape, output := hout, size := by omega, sizes := hS
            keep := fun b' _ hno => hoth b' fun e => hno (e ▸ ⟨L, xs, o', hr, hL⟩)
            mono := fun _ h => h, new := fun _ h => .inl h, own := fun b' h => .inl (hown b' h)
            len := by rw [setRow_len]; exact Nat.min_le_right _ _
            kept := fun _ _ _ _ h => h
            boxes := fun l zs _ hx => ⟨rfl, by
              have := isBox_setRow σ L ys [l]
              simp only [isBox, hx] at this
              split at this
              · rename_i zs' h; exact ⟨zs', h⟩
              · cases this⟩ }
def spl : List A → Nat → List A → List A
 | xs, _, [] => xs
 | xs, d, y :: ys => spl (xs.set d y) (d + 1) ys
theorem spl_len : ∀ (ys xs : List A) (d : Nat), (spl xs d ys).length = xs.length
 | [], xs, d => rfl
 | y :: ys, xs, d => by simp [spl, spl_len ys]
theorem spl_get : ∀ (ys xs : List A) (d j : Nat), d + ys.length ≤ xs.length → (spl xs d ys)[j]? = if d ≤ j ∧ j < d + ys.length then ys[j - d]? else xs[j]?
 | [], xs, d, j, h => by simp only [spl, List.length_nil]; rw [if_neg (by omega)]
 | y :: ys, xs, d, j, h => by
  simp only [List.length_cons] at h
  simp only [spl]
  rw [spl_get ys _ (d + 1) j (by simp; omega)]
  by_cases h1 : d + 1 ≤ j ∧ j < d + 1 + ys.length
  ·rw [if_pos h1, if_pos (by simp; omega), show j - d = (j - (d + 1)) + 1 by omega]; simp
  ·rw [if_neg h1, List.getElem?_set]
   by_cases e : d = j
   ·subst e; rw [if_pos rfl, if_pos (by omega), if_pos (by simp)]; simp
   ·rw [if_neg e, if_neg (by simp; omega)]
structure SzT (P : Program) (t k : Nat) : Prop where
  i : ∃ inf, P.info? t = some inf ∧ inf.size = k
theorem SzT.of {P : Program} {t k : Nat} (i : (P.info? t).map (·.size) = some k) : SzT P t k := ⟨by simpa using i⟩
section
variable {P : Program} {n m : Nat} {N : Env → Store → Prop} {E : Env} {σ : Store} {o : Oper}
theorem oneCell_sc {v : Value} (h : sc v = true) : v.oneCell' = true := by cases v <;> simp_all [sc, Value.oneCell']
theorem store_row {t : Nat} {addr x : Operand} {L : List Nat} {d k : Nat} {xs ys : List A} (hT : SzT P t k) (h : o.op = .store t addr x) (hdst : o.dst = none) (hr : rowAt σ L = some xs) (hv : cellsOf (val E x) = ys) (hk : ys.length = k) (hk0 : 0 < k) (hd : d + k ≤ xs.length)
  (hcell : ∀ y ∈ ys, (if isBox σ L then y.inBox else y.inCell) = true) (hbox : ∀ y ∈ ys, y.inBox = true)
  (ha : ∀ F Λ w tmps, St F Λ σ w → FrOK F Λ w tmps E → ∃ b o', Λ L = some (b, o') ∧ Act.eval ⟨tmps, []⟩ addr = .pointer (some ⟨b, o' + d, none⟩))
  (hN : N E (setRow σ L (spl xs d ys))) : TOp P n m o N E σ := fun F Λ w tmps K Q hn hs hf hq => by
 obtain ⟨b, o', hL, he⟩ := ha F Λ w tmps hs hf
 have hx := val_ok (ds := []) hf x
 have hcs := hx.cellsOf (by rw [hv]; exact hbox)
 rw [hv] at hcs
 obtain hrow | ⟨b2, o2, cs, ty, h1, h2, h3, h4⟩ := hs.row L xs hr
 ·rw [hL] at hrow; cases hrow.1
 rw [hL] at h1; cases h1
 have hlen : (Act.eval ⟨tmps, []⟩ x).cells.toList.length = k := by
  cases hvx : val E x with
  | g zs =>
   rw [hvx] at hx hv
   obtain ⟨vs, h5, h6, _⟩ := hx.g_inv
   simp only [Sep.cellsOf] at hv
   rw [h5]; simp [Value.cells, h6, hv, hk]
  | _ =>
   rw [hvx] at hx hv
   simp only [Sep.cellsOf] at hv
   obtain ⟨h5, _⟩ := hx.cells1 (hbox _ (by rw [← hv]; simp))
   rw [h5, ← hk, ← hv]; simp
 have hfit : o' + d + k ≤ cs.size := by
  obtain ⟨y, hy⟩ : ∃ y, xs[d + k - 1]? = some y := ⟨_, List.getElem?_eq_getElem (by omega)⟩
  obtain ⟨c, h6, _⟩ := h4 _ y hy
  have := (Array.getElem?_eq_some_iff.1 h6).1
  omega
 generalize hvs : (Act.eval ⟨tmps, []⟩ x).cells.toList = vs at hcs hlen
 have hone : ∀ v ∈ vs, v.oneCell' = true := fun v hv' => by
  obtain ⟨j, hj, hjv⟩ := List.getElem_of_mem hv'
  obtain ⟨y, hy⟩ : ∃ y, ys[j]? = some y := ⟨_, List.getElem?_eq_getElem (by omega)⟩
  obtain ⟨c, h5, h6⟩ := hcs j y hy
  rw [List.getElem?_eq_getElem hj, hjv] at h5
  cases h5
  exact oneCell_sc (h6.cells1 (hbox y (List.mem_of_getElem? hy))).2
 have hst := run_storeCells_at P b (o' + d) ty vs 0 cs w h3 (by omega) hone
 have hrun : (execOp (Act.eval ⟨tmps, []⟩) o).run P w = .ok .skip (w.setRow b (cs.toList.take (o' + d + 0) ++ vs ++ cs.toList.drop (o' + d + 0 + vs.length)).toArray) := by
  simp only [execOp, h, he, Instr.storeAt, Instr.sureAddr, storeVar, Sem.run_bind, Sem.run_pure, Result.andThen_ok, run_sizeOf' hT.i]
  have hsz : (Act.eval ⟨tmps, []⟩ x).cells.size = k := by rw [← hlen, ← hvs]; simp
  simp only [hsz, ne_eq, not_true_eq_false, if_false, Sem.run_bind, Sem.run_pure, Result.andThen_ok, hvs, hst]
 unfold Oper.wp
 rw [hrun, Oper.upon_skip]
 generalize hcs' : (cs.toList.take (o' + d + 0) ++ vs ++ cs.toList.drop (o' + d + 0 + vs.length)).toArray = cs'
 have hcl : cs'.size = cs.size := by rw [← hcs']; simp; omega
 have hcget : ∀ j, cs'[j]? = if o' + d ≤ j ∧ j < o' + d + k then vs[j - (o' + d)]? else cs[j]? := fun j => by
  rw [← hcs']
  simp only [List.getElem?_toArray, Nat.add_zero]
  by_cases h1 : j < o' + d
  ·rw [if_neg (by omega), List.append_assoc, List.getElem?_append_left (by simp; omega), List.getElem?_take_of_lt h1]
   simp
  ·by_cases h2 : j < o' + d + k
   ·rw [if_pos ⟨by omega, h2⟩, List.append_assoc, List.getElem?_append_right (by simp; omega), List.getElem?_append_left (by simp; omega)]
    congr 1; simp; omega
   ·rw [if_neg (by omega), List.getElem?_append_right (by simp; omega), List.getElem?_drop]
    simp only [List.length_append, List.length_take, Array.length_toList]
    rw [show o' + d + vs.length + (j - (min (o' + d) cs.size + vs.length)) = j by omega]
    simp
 obtain ⟨hs', hst'⟩ := hs.store (m := m) (ys := spl xs d ys) (cs' := cs') hr (spl_len ..) (fun j x' hx' => by
   rw [spl_get ys xs d j (by omega)] at hx'
   split at hx'
   ·exact .inr (inBox_plain (hbox x' (List.mem_of_getElem? hx')))
   ·exact .inl hx') hL h3 (setRow_heap w b cs _ ty _ h3) hcl (fun b' hb' => setRow_other w b b' _ hb') (by simp) ⟨rfl, fun _ => by first | exact Nat.le_refl _ | exact Nat.le_succ _⟩ rfl rfl (fun j x' hx' => by
   rw [spl_get ys xs d j (by omega)] at hx'
   rw [hcget]
   split at hx'
   ·rename_i h5
    rw [if_pos (by omega)]
    obtain ⟨c, h6, h7⟩ := hcs _ x' hx'
    refine ⟨c, by rw [← h6]; congr 1; omega, ?_⟩
    have h8 := hcell x' (List.mem_of_getElem? hx')
    cases hbx : isBox σ L with
    | true => exact .ofBox (by simpa [hbx] using h8) h7
    | false => exact .ofCell (by simpa [hbx] using h8) h7
   ·rename_i h5
    rw [if_neg (by omega)]
    exact h4 j x' hx')
 have hput : (Act.put ⟨tmps, []⟩ o.dst undef) = ⟨tmps, []⟩ := by rw [hdst]; rfl
 rw [hput]
 exact hq F Λ _ _ tmps E hn hs' (hf.mono (hst'.frozen hs) hst'.sizes) hst' hN
def boxAllB (ys : List A) : Bool := ys.all A.inBox
theorem boxAll {ys : List A} (h : boxAllB ys = true) : ∀ y ∈ ys, y.inBox = true := by simpa [boxAllB] using h
theorem inCell_inBox {x : A} (h : x.inCell = true) : x.inBox = true := by cases x <;> simp_all [A.inCell, A.inBox]
def cellAllB (ys : List A) : Bool := ys.all A.inCell
theorem cellAll {ys : List A} (h : cellAllB ys = true) : ∀ y ∈ ys, y.inCell = true := by simpa [cellAllB] using h
theorem TOp_storeB {t : Nat} {addr x : Operand} {l d k : Nat} {xs ys : List A} (hT : SzT P t k) (h : o.op = .store t addr x) (hdst : o.dst = none) (ha : val E addr = .b l d) (hr : rowAt σ [l] = some xs) (hbx : isBox σ [l] = true) (hv : cellsOf (val E x) = ys) (hk : ys.length = k) (hk0 : 0 < k) (hd : d + k ≤ xs.length)
  (hbox : boxAllB ys = true) (hN : N E (setRow σ [l] (spl xs d ys))) : TOp P n m o N E σ :=
 store_row hT h hdst hr hv hk hk0 hd (fun y hy => by rw [hbx, if_pos rfl]; exact boxAll hbox y hy) (boxAll hbox) (fun F Λ w tmps hs hf => by
  have e1 := val_ok (ds := []) hf addr
  rw [ha] at e1
  exact e1.b_inv) hN
theorem TOp_storeE {t : Nat} {addr x : Operand} {L : List Nat} {d k : Nat} {xs ys : List A} (hT : SzT P t k) (h : o.op = .store t addr x) (hdst : o.dst = none) (ha : val E addr = .e L d) (hr : rowAt σ L = some xs) (hv : cellsOf (val E x) = ys) (hk : ys.length = k) (hk0 : 0 < k) (hd : d + k ≤ xs.length)
  (hcell : cellAllB ys = true) (hN : N E (setRow σ L (spl xs d ys))) : TOp P n m o N E σ :=
 store_row hT h hdst hr hv hk hk0 hd (fun y hy => by
  have := cellAll hcell y hy
  split
  ·exact inCell_inBox this
  ·exact this) (fun y hy => inCell_inBox (cellAll hcell y hy)) (fun F Λ w tmps hs hf => by
  have e1 := val_ok (ds := []) hf addr
  rw [ha] at e1
  exact e1.e_inv) hN
theorem new_slice {F : Nat → Prop} {Λ : Lbl} {σ : Nat} {w : World} {cs : Array Value} {t : TypeId} {nn k : Nat} (hk : nn * k ≤ cs.size) (hm : nn ≤ maxLen) : OK F (pushL Λ σ w.heap.size) (w.alloc (.cells cs t)) (.slice (some ⟨w.heap.size, 0, none⟩) nn nn) (.m [σ] 0 nn k) :=
 .m (.inr ⟨w.heap.size, 0, nn, by simp [pushL], by simp, Nat.le_refl _, hm, cs, t, heap_alloc_new w _, by simpa using hk⟩)
theorem TOp_make {t e k kl kc : _} {x y : Operand} {nn : Nat} {zs : List Value} {by_ : Nat} (hT : SlT P t e k) (hz : ZeroT P e zs) (hzk : zs.length = k) (hb : (P.info? e).map (·.bytes) = some by_) (h : o.op = .makeSlice t x y) (hd : dstOK n o.dst = true)
  (hx : val E x = .v (.int kl (nn : Int))) (hy : val E y = .v (.int kc (nn : Int))) (hsz : by_ * nn ≤ 281474976710656) (hm : nn ≤ 1099511627776)
  (hN : N (put E o.dst (.m [σ.length] 0 nn k)) (σ ++ [.row ((List.range (nn * k)).map fun j => constA (zs[j % k]!))])) : TOp P n m o N E σ := by
 obtain ⟨⟨inf, z, h1, h2, h3⟩, h4⟩ := hz
 have hb' : inf.bytes = by_ := by simpa [h1] using hb
 have hsize : inf.size = k := by obtain ⟨i2, g1, g2⟩ := hT.i; rw [h1] at g1; cases g1; exact g2
 have hmm : nn ≤ maxLen := by simp only [maxLen]; omega
 have hzc : z.cells.size = k := by rw [← hzk, ← h3]; simp
 refine TOp_new (.row _) _ rfl e (fun y hy => ?_) _ hd (fun F Λ w tmps hs hf => ?_) hN
 ·obtain ⟨c, _, rfl⟩ := List.mem_map.1 hy; exact constA_plain _
 ·have e1 := val_ok (ds := []) hf x
  have e2 := val_ok (ds := []) hf y
  rw [hx] at e1
  rw [hy] at e2
  have e1 := e1.v_inv
  have e2 := e2.v_inv
  have hbb : (inf.bytes : Int) * (nn : Int) ≤ 281474976710656 := by
   have h9 : ((inf.bytes * nn : Nat) : Int) ≤ 281474976710656 := by rw [hb']; omega
   rwa [Int.natCast_mul] at h9
  have hr := run_make (P := P) w t e inf z hT.u h1 h2 kl kc nn nn (by omega) (Int.le_refl _) hbb (by omega)
  simp only [Int.toNat_natCast] at hr
  refine ⟨(madeCells z.cells (nn * inf.size)).toList, .slice (some ⟨w.heap.size, 0, none⟩) nn nn, fun j x hjx => ?_, ?_, ?_⟩
  ·have hjl : j < nn * k := by
    have := (List.getElem?_eq_some_iff.1 hjx).1
    simpa using this
   rw [List.getElem?_map, List.getElem?_range hjl] at hjx
   simp only [Option.map_some, Option.some.injEq] at hjx
   subst hjx
   have hk0 := hT.pos
   have hlt : j % k < zs.length := by rw [hzk]; exact Nat.mod_lt _ hk0
   refine ⟨zs[j % k]!, ?_, constA_cell (h4 _ (by have := List.getElem_mem hlt; rwa [← getElem!_pos zs (j % k) hlt] at this))⟩
   subst h3
   have hlt2 : j % k < z.cells.size := by simpa using hlt
   have h10 : z.cells.toList[j % k]! = z.cells[j % k]! := by rw [getElem!_pos z.cells.toList _ hlt, getElem!_pos z.cells _ hlt2]; simp
   rw [h10, madeCells, hsize, hzc, Array.toList_map, List.getElem?_map, Array.toList_range, List.getElem?_range hjl]
   rfl
  ·simp only [execOp, h, e1, e2, Sem.run_bind]
   rw [hr]; simp
  ·refine new_slice ?_ hmm
   simp [size_madeCells, hsize]
end
end Go.Sep
set_option linter.unusedVariables false
set_option linter.unusedSimpArgs false
namespace Go.Sep
open Go
mutual
def fz : A → A
 | .o k xs => .i k (fzL xs)
 | .v x => .v x
 | .n => .n
 | .i k xs => .i k xs
 | .q xs d => .q xs d
 | .f f xs => .f f xs
 | .g xs => .g xs
 | .t xs => .t xs
 | .j => .j
 | .m L a n k => .m L a n k
 | .e L a => .e L a
 | .b l a => .b l a
 | .raw v a => .raw v a
def fzL : List A → List A
 | [] => []
 | x :: xs => fz x :: fzL xs
end
mutual
def firm : A → Bool
 | .v _ => true
 | .n => true
 | .i _ _ => true
 | .q _ _ => true
 | .g xs => firmL xs
 | .t xs => firmL xs
 | .f _ xs => firmL xs
 | .o k xs => decide (0 < k) && firmL xs
 | .j => false
 | .m _ _ _ _ => false
 | .e _ _ => false
 | .b _ _ => false
 | .raw _ _ => true
def firmL : List A → Bool
 | [] => true
 | x :: xs => firm x && firmL xs
end
theorem firmL_mem {xs : List A} (h : firmL xs = true) : ∀ x ∈ xs, firm x = true := by
 induction xs with
 | nil => simp
 | cons y ys ih =>
  simp only [firmL, Bool.and_eq_true] at h
  intro x hx
  rcases List.mem_cons.1 hx with rfl | hx
  ·exact h.1
  ·exact ih h.2 x hx
theorem fzL_get : ∀ (xs : List A) (j : Nat), (fzL xs)[j]? = (xs[j]?).map fz
 | [], j => by simp [fzL]
 | x :: xs, 0 => by simp [fzL]
 | x :: xs, j + 1 => by simp [fzL, fzL_get xs j]
theorem fzL_len : ∀ xs : List A, (fzL xs).length = xs.length
 | [] => rfl
 | x :: xs => by simp [fzL, fzL_len xs]
theorem fzL_map (xs : List A) : fzL xs = xs.map fz := by
 induction xs with
 | nil => rfl
 | cons x xs ih => simp [fzL, ih]
theorem OK.imm_of {F Λ w v x} (h : OK F Λ w v x) (hf : firm x = true) : Imm F w v x := by
 induction h with
 | imm h => exact h
 | j v => simp [firm] at hf
 | m => simp [firm] at hf
 | e => simp [firm] at hf
 | b => simp [firm] at hf
 | g vs xs hl _ ih => simp only [firm] at hf; exact .g vs xs hl fun j x y hx hy => ih j x y hx hy (firmL_mem hf x (List.mem_of_getElem? hx))
 | t vs xs hl _ ih => simp only [firm] at hf; exact .t vs xs hl fun j x y hx hy => ih j x y hx hy (firmL_mem hf x (List.mem_of_getElem? hx))
 | f fn vs xs hl _ ih => simp only [firm] at hf; exact .f fn vs xs hl fun j x y hx hy => ih j x y hx hy (firmL_mem hf x (List.mem_of_getElem? hx))
theorem sub_snoc : ∀ (p : List Nat) (xs ys zs : List A) (j k : Nat), sub xs p = some ys → ys[j]? = some (.o k zs) → sub xs (p ++ [j]) = some zs
 | [], xs, ys, zs, j, k, h, hj => by simp only [sub, Option.some.injEq] at h; subst h; simp [sub, hj]
 | i :: p, xs, ys, zs, j, k, h, hj => by
  simp only [sub] at h
  split at h
  ·rename_i k' us hi
   simp only [List.cons_append, sub, hi]
   exact sub_snoc p us ys zs j k h hj
  ·cases h
theorem rowAt_cons (σ : Store) (l : Nat) (p : List Nat) : rowAt σ (l :: p) = ((σ[l]?).bind Root.cells).bind fun xs => sub xs p := by
 simp only [rowAt]
 cases σ[l]? with
 | none => rfl
 | some r =>
  show (match r.cells with | some xs => sub xs p | none => none) = _
  simp only [Option.bind_some]
  cases r.cells <;> rfl
theorem rowAt_snoc {σ : Store} {L xs j k zs} (h : rowAt σ L = some xs) (hj : xs[j]? = some (.o k zs)) : rowAt σ (L ++ [j]) = some zs := by
 cases L with
 | nil => simp [rowAt] at h
 | cons l p =>
  rw [List.cons_append, rowAt_cons] at *
  cases hr : (σ[l]?).bind Root.cells with
  | none => rw [hr] at h; cases h
  | some ws =>
   rw [hr] at h
   exact sub_snoc p ws xs zs j k h hj
def FO (F : Nat → Prop) (Λ : Lbl) (σ : Store) (b : Nat) : Prop := F b ∨ Own Λ σ b
theorem cell_imm {F Λ σ w} (hs : St F Λ σ w) : ∀ (N : Nat) (x : A), SizeOf.sizeOf x < N → ∀ L j bx c xs, rowAt σ L = some xs → xs[j]? = some x → firm x = true → Cell F Λ w bx (L ++ [j]) c x → Imm (FO F Λ σ) w c (fz x) := by
 intro N
 have hF : ∀ b, F b → FO F Λ σ b ∧ w.heap[b]? = w.heap[b]? := fun b hb => ⟨.inl hb, rfl⟩
 induction N with
 | zero => intro x hx; exact absurd hx (Nat.not_lt_zero _)
 | succ N ih =>
  intro x hx L j bx c xs hr hj hf hc
  cases x with
  | o k ys =>
   obtain ⟨_, hk, n, hn, hsl⟩ := hc
   have hr' := rowAt_snoc hr hj
   simp only [firm, Bool.and_eq_true] at hf
   show Imm (FO F Λ σ) w c (.i k (fzL ys))
   rcases hsl with ⟨rfl, ad, rfl⟩ | ⟨b, o', cap, hL, rfl, hle, hm, cs, t, hb, hcap⟩
   ·have : ys = [] := List.eq_nil_of_length_eq_zero (by omega)
    subst this
    exact .i0 ad 0 k
   ·rcases Nat.eq_zero_or_pos n with h0 | h0
    ·subst h0
     have : ys = [] := List.eq_nil_of_length_eq_zero (by omega)
     subst this
     exact .i0 _ cap k
    ·obtain hrow | ⟨b2, o2, cs2, t2, g1, g2, g3, g4⟩ := hs.row _ ys hr'
     ·rw [hL] at hrow; cases hrow.1
     rw [hL] at g1; cases g1
     refine .i b (o' + 0) n cap k (fun j => (cs2[o' + j]?).getD undef) (fzL ys) (.inr ⟨_, ys, o', hr', hL⟩) h0 hle (Nat.le_trans hle hm) (by rw [fzL_len]; exact hn) (fun i y hy => ?_) (fun i y hy => ?_)
     ·rw [fzL_get] at hy
      cases hi : ys[i]? with
      | none => simp [hi] at hy
      | some u =>
       obtain ⟨c', g5, _⟩ := g4 i u hi
       simp [World.cell?, g3, g5]
     ·rw [fzL_get] at hy
      cases hi : ys[i]? with
      | none => simp [hi] at hy
      | some u =>
       simp [hi] at hy
       subst hy
       obtain ⟨c', g5, g6⟩ := g4 i u hi
       simp only [g5, Option.getD_some]
       have hsz : SizeOf.sizeOf u < SizeOf.sizeOf ys := List.sizeOf_lt_of_mem (List.mem_of_getElem? hi)
       exact ih u (by simp at hx; omega) _ i _ c' ys hr' hi (firmL_mem hf.2 u (List.mem_of_getElem? hi)) g6
  | j => simp [firm] at hf
  | _ => exact (hc.2.imm_of hf).mono hF
mutual
def fzR (σ : Store) : A → A
 | .m L a n k => .i k (fzL ((((rowAt σ L).getD []).drop a).take (n * k)))
 | .e L a => .q (fzL ((rowAt σ L).getD [])) a
 | .b l a => .q (fzL ((rowAt σ [l]).getD [])) a
 | .g xs => .g (fzRL σ xs)
 | .t xs => .t (fzRL σ xs)
 | .f f xs => .f f (fzRL σ xs)
 | .o k xs => .o k xs
 | .v x => .v x
 | .n => .n
 | .i k xs => .i k xs
 | .q xs d => .q xs d
 | .j => .j
 | .raw v a => .raw v a
def fzRL (σ : Store) : List A → List A
 | [] => []
 | x :: xs => fzR σ x :: fzRL σ xs
end
mutual
def frzOK (σ : Store) : A → Prop
 | .m L a n k => 0 < k ∧ ∃ xs, rowAt σ L = some xs ∧ a + n * k ≤ xs.length ∧ firmL ((xs.drop a).take (n * k)) = true
 | .e L a => ∃ xs, rowAt σ L = some xs ∧ firmL xs = true
 | .b l a => ∃ xs, rowAt σ [l] = some xs ∧ firmL xs = true
 | .g xs => frzOKL σ xs
 | .t xs => frzOKL σ xs
 | .f _ xs => frzOKL σ xs
 | .o _ _ => False
 | .v _ => True
 | .n => True
 | .i _ _ => True
 | .q _ _ => True
 | .j => True
 | .raw _ _ => True
def frzOKL (σ : Store) : List A → Prop
 | [] => True
 | x :: xs => frzOK σ x ∧ frzOKL σ xs
end
theorem frzOKL_mem {σ : Store} {xs : List A} (h : frzOKL σ xs) : ∀ x ∈ xs, frzOK σ x := by
 induction xs with
 | nil => simp
 | cons y ys ih =>
  intro x hx
  rcases List.mem_cons.1 hx with rfl | hx
  ·exact h.1
  ·exact ih h.2 x hx
theorem fzRL_get (σ : Store) : ∀ (xs : List A) (j : Nat), (fzRL σ xs)[j]? = (xs[j]?).map (fzR σ)
 | [], j => by simp [fzRL]
 | x :: xs, 0 => by simp [fzRL]
 | x :: xs, j + 1 => by simp [fzRL, fzRL_get σ xs j]
theorem fzRL_len (σ : Store) : ∀ xs : List A, (fzRL σ xs).length = xs.length
 | [] => rfl
 | x :: xs => by simp [fzRL, fzRL_len σ xs]
theorem fzR_loose {F w v} {σ : Store} {x : A} (h : Imm F w v x) : fzR σ x = x := by
 induction h with
 | g vs xs hl _ ih =>
  simp only [fzR]; congr 1
  apply List.ext_getElem?
  intro j
  rw [fzRL_get]
  cases hj : xs[j]? with
  | none => rfl
  | some x =>
   have : j < vs.length := by have := (List.getElem?_eq_some_iff.1 hj).1; omega
   simp [ih j x _ hj (List.getElem?_eq_getElem this)]
 | t vs xs hl _ ih =>
  simp only [fzR]; congr 1
  apply List.ext_getElem?
  intro j
  rw [fzRL_get]
  cases hj : xs[j]? with
  | none => rfl
  | some x =>
   have : j < vs.length := by have := (List.getElem?_eq_some_iff.1 hj).1; omega
   simp [ih j x _ hj (List.getElem?_eq_getElem this)]
 | f fn vs xs hl _ ih =>
  simp only [fzR]; congr 1
  apply List.ext_getElem?
  intro j
  rw [fzRL_get]
  cases hj : xs[j]? with
  | none => rfl
  | some x =>
   have : j < vs.length := by have := (List.getElem?_eq_some_iff.1 hj).1; omega
   simp [ih j x _ hj (List.getElem?_eq_getElem this)]
 | _ => rfl
theorem OK.frz {F Λ σ w v x} (hs : St F Λ σ w) (h : OK F Λ w v x) (hf : frzOK σ x) : OK (FO F Λ σ) (fun _ => none) w v (fzR σ x) := by
 have hF : ∀ b, F b → FO F Λ σ b ∧ w.heap[b]? = w.heap[b]? := fun b hb => ⟨.inl hb, rfl⟩
 have row : ∀ L xs b o' , rowAt σ L = some xs → Λ L = some (b, o') → ∀ (j : Nat) y, xs[j]? = some y → firm y = true → ∃ c, w.cell? ⟨b, o' + j, none⟩ = some c ∧ Imm (FO F Λ σ) w c (fz y) := fun L xs b o' hr hL j y hy hfy => by
  obtain ⟨c, h1, h2⟩ := hs.cellAt hr hL hy
  exact ⟨c, h1, cell_imm hs _ y (Nat.lt_succ_self _) L j _ c xs hr hy hfy h2⟩
 have ptr : ∀ L xs b o' a, rowAt σ L = some xs → Λ L = some (b, o') → firmL xs = true → Imm (FO F Λ σ) w (.pointer (some ⟨b, o' + a, none⟩)) (.q (fzL xs) a) := fun L xs b o' a hr hL hfx => by
  refine .q b o' a (fun j => (w.cell? ⟨b, o' + j, none⟩).getD undef) (fzL xs) (.inr ⟨L, xs, o', hr, hL⟩) (fun i y hy => ?_) (fun i y hy => ?_)
  all_goals
   rw [fzL_get] at hy
   cases hi : xs[i]? with
   | none => simp [hi] at hy
   | some u =>
    simp [hi] at hy
    subst hy
    obtain ⟨c, h1, h2⟩ := row L xs b o' hr hL i u hi (firmL_mem hfx u (List.mem_of_getElem? hi))
    simp only [h1, Option.getD_some]
    first | done | rfl | exact h2
 induction h with
 | imm h => rw [fzR_loose h]; exact .imm (h.mono hF)
 | j v => exact .j v
 | @m v L a n k hsl =>
  obtain ⟨hk, xs, hr, hl, hfx⟩ := hf
  simp only [fzR, hr, Option.getD_some]
  refine .imm ?_
  have hlen : ((xs.drop a).take (n * k)).length = n * k := by simp; omega
  rcases hsl with ⟨rfl, ad, rfl⟩ | ⟨b, o', cap, hL, rfl, hle, hm, cs, t, hb, hcap⟩
  ·simp only [Nat.zero_mul, List.take_zero, fzL]; exact .i0 ad 0 k
  ·rcases Nat.eq_zero_or_pos n with h0 | h0
   ·subst h0
    simp only [Nat.zero_mul, List.take_zero, fzL]; exact .i0 _ cap k
   ·have key : ∀ (i : Nat) y, ((xs.drop a).take (n * k))[i]? = some y → xs[a + i]? = some y := fun i y hi => by
     have hil : i < n * k := by have := (List.getElem?_eq_some_iff.1 hi).1; omega
     rwa [List.getElem?_take_of_lt hil, List.getElem?_drop] at hi
    refine .i b (o' + a) n cap k (fun j => (w.cell? ⟨b, o' + a + j, none⟩).getD undef) _ (.inr ⟨L, xs, o', hr, hL⟩) h0 hle (Nat.le_trans hle hm) (by rw [fzL_len]; exact hlen) (fun i y hy => ?_) (fun i y hy => ?_)
    all_goals
     rw [fzL_get] at hy
     cases hi : ((xs.drop a).take (n * k))[i]? with
     | none => simp [hi] at hy
     | some u =>
      simp [hi] at hy
      subst hy
      obtain ⟨c, h1, h2⟩ := row L xs b o' hr hL (a + i) u (key i u hi) (firmL_mem hfx u (List.mem_of_getElem? hi))
      rw [← Nat.add_assoc] at h1
      simp only [h1, Option.getD_some]
      first | done | rfl | exact h2
 | @e L a b o' hL =>
  obtain ⟨xs, hr, hfx⟩ := hf
  simp only [fzR, hr, Option.getD_some]
  exact .imm (ptr L xs b o' a hr hL hfx)
 | @b l a b o' hL =>
  obtain ⟨xs, hr, hfx⟩ := hf
  simp only [fzR, hr, Option.getD_some]
  exact .imm (ptr [l] xs b o' a hr hL hfx)
 | g vs xs hl _ ih =>
  simp only [frzOK] at hf
  simp only [fzR]
  refine .g vs _ (by rw [fzRL_len]; exact hl) fun j x y hx hy => ?_
  rw [fzRL_get] at hx
  cases hj : xs[j]? with
  | none => simp [hj] at hx
  | some u => simp [hj] at hx; subst hx; exact ih j u y hj hy (frzOKL_mem hf u (List.mem_of_getElem? hj))
 | t vs xs hl _ ih =>
  simp only [frzOK] at hf
  simp only [fzR]
  refine .t vs _ (by rw [fzRL_len]; exact hl) fun j x y hx hy => ?_
  rw [fzRL_get] at hx
  cases hj : xs[j]? with
  | none => simp [hj] at hx
  | some u => simp [hj] at hx; subst hx; exact ih j u y hj hy (frzOKL_mem hf u (List.mem_of_getElem? hj))
 | f fn vs xs hl _ ih =>
  simp only [frzOK] at hf
  simp only [fzR]
  refine .f fn vs _ (by rw [fzRL_len]; exact hl) fun j x y hx hy => ?_
  rw [fzRL_get] at hx
  cases hj : xs[j]? with
  | none => simp [hj] at hx
  | some u => simp [hj] at hx; subst hx; exact ih j u y hj hy (frzOKL_mem hf u (List.mem_of_getElem? hj))
theorem St.frz {F Λ σ w} (hs : St F Λ σ w) : St (FO F Λ σ) (fun _ => none) [] w :=
 ⟨fun L xs h => by cases L <;> simp [rowAt] at h, fun L xs _ _ _ _ _ h => by cases L <;> simp [rowAt] at h, fun b hb => hb.elim (hs.old b) hs.owns, hs.tab.mono (fun b hb => ⟨.inl hb, rfl⟩), fun _ _ => rfl⟩
theorem Fn.frz {P : Program} {f : Nat} {as : List A} {Q : A → Store → Prop} {r' : A} (h : Fn P f as [] Q) (hq : ∀ r σ, Q r σ → frzOK σ r ∧ fzR σ r = r') : FnV P f as r' := fun F Λ w vs R hs ha hR => by
  refine h F Λ w vs R hs ha fun F1 Λ1 σ1 w1 v r hs1 hst hv hqr => ?_
  obtain ⟨h1, h2⟩ := hq r σ1 hqr
  have h3 := hv.frz hs1 h1
  rw [h2] at h3
  refine hR (FO F1 Λ1 σ1) (fun _ => none) [] w1 v r' hs1.frz ?_ h3 ⟨rfl, rfl⟩
  have hne : ∀ b, Own Λ1 σ1 b → w.heap.size ≤ b := fun b hb => (hst.own b hb).elim (fun ho => ho.empty.elim) id
  exact { os := hst.os, tape := hst.tape, output := hst.output, size := hst.size, sizes := hst.sizes, keep := hst.keep
          mono := fun b hb => .inl (hst.mono b hb)
          new := fun b hb => hb.elim (hst.new b) fun ho => .inr (.inr (hne b ho))
          own := fun b hb => hb.empty.elim, len := Nat.zero_le _, boxes := fun l xs hl _ => by simp at hl
          kept := fun L b o hL _ => by simp at hL }
section
variable {P : Program} {n m : Nat} {N : Env → Store → Prop} {E : Env} {σ : Store} {o : Oper} {ops : Array Oper} {os : List Oper}
theorem TOp_callB {g : Nat} {as as' : List A} {x : Value} (hc : CallOp P o E g as) (hf : frzOKL σ as) (has : fzRL σ as = as') (hF : FnV P g as' (.v x)) (hd : dstOK n o.dst = true) (hN : N (put E o.dst (.v x)) σ) : TOp P n m o N E σ := fun F Λ w tmps K Qx hn hs hfr hk => by
  obtain ⟨vs, ⟨hvl, hvs⟩, hrun⟩ := hc F Λ w tmps hfr
  unfold Oper.wp
  rw [hrun w, Oper.upon_enter]
  subst has
  refine hF (FO F Λ σ) (fun _ => none) w vs _ hs.frz ⟨by rw [fzRL_len]; exact hvl, fun j a y hx hy => ?_⟩ fun F1 Λ1 σ1 w1 v r hs1 hst hv hq => ?_
  · rw [fzRL_get] at hx
    cases hj : as[j]? with
    | none => simp [hj] at hx
    | some u => simp [hj] at hx; subst hx; exact (hvs j u y hj hy).frz hs (frzOKL_mem hf u (List.mem_of_getElem? hj))
  · obtain ⟨rfl, rfl⟩ := hq
    have := hv.v_inv
    subst this
    have hkeep : ∀ b, b < w.heap.size → w1.heap[b]? = w.heap[b]? := fun b hb => hst.keep b hb fun ho => ho.empty
    have hst' : Step m F Λ σ w F Λ σ w1 :=
      { os := hst.os, tape := hst.tape, output := hst.output, size := hst.size, sizes := hst.sizes, keep := fun b hb _ => hkeep b hb, mono := fun _ h => h
        new := fun b hb => .inl hb, own := fun b hb => .inl hb, len := Nat.min_le_right _ _, boxes := fun l xs _ hx => ⟨rfl, xs, hx⟩, kept := fun _ _ _ _ h => h }
    have hs' : St F Λ σ w1 := ⟨fun L xs hr => by
      rcases hs.row L xs hr with h5 | ⟨b, o, cs, t', h5, h6, h7, h8⟩
      · exact .inl h5
      · have hlt : b < w.heap.size := (Array.getElem?_eq_some_iff.1 h7).1
        refine .inr ⟨b, o, cs, t', h5, h6, by rw [hkeep b hlt]; exact h7, fun j x hx => ?_⟩
        obtain ⟨c, h9, h10⟩ := h8 j x hx
        exact ⟨c, h9, h10.mono (fun b hb => ⟨hb, hkeep b (hs.old b hb)⟩) hst.sizes⟩, hs.apart, fun b hb => Nat.lt_of_lt_of_le (hs.old b hb) hst.size, hs.tab.mono (fun b hb => ⟨hb, hkeep b (hs.old b hb)⟩), hs.lab⟩
    obtain ⟨tmps', e, hn2, hf2⟩ := (hfr.mono (hst'.frozen hs) hst.sizes).putO (ds := []) hn hd (.imm (.v v))
    show K (Act.put ⟨tmps, []⟩ o.dst v) w1
    rw [e]
    exact hk F Λ σ w1 tmps' _ hn2 hs' hf2 hst' hN
end
end Go.Sep
set_option linter.unusedVariables false
set_option linter.unusedSimpArgs false
namespace Go.Sep
open Go
def edge (e : Int × Int) : List A := [intA e.1, intA e.2]
theorem len_edge (e : Int × Int) : (edge e).length = 2 := rfl
instance (xs : List (Int × Int)) : Len (flat edge xs) 2 xs.length := ⟨flat_len len_edge xs⟩
def rows (xs : List (List Int)) : List A := xs.map fun r => .i 1 (ints r)
instance (xs : List (List Int)) : Len (rows xs) 1 xs.length := ⟨by simp [rows]⟩
theorem mem_flat {α : Type} {f : α → List A} {x : A} : ∀ {xs : List α}, x ∈ flat f xs → ∃ y ∈ xs, x ∈ f y
 | [], h => by simp [flat] at h
 | y :: ys, h => by
  simp only [flat, List.mem_append] at h
  rcases h with h | h
  ·exact ⟨y, by simp, h⟩
  ·obtain ⟨z, h1, h2⟩ := mem_flat h
   exact ⟨z, by simp [h1], h2⟩
section
variable {P : Program} {E : Env} {σ : Store} {o : Oper}
end
theorem spl_flat {α : Type} {f : α → List A} {k : Nat} (hk : ∀ x, (f x).length = k) (xs : List α) (i : Nat) (y : α) (hi : i < xs.length) : spl (flat f xs) (0 + i * k) (f y) = flat f (xs.set i y) := by
 rcases Nat.eq_zero_or_pos k with h0 | h0
 ·have h1 : ∀ x, f x = [] := fun x => List.eq_nil_of_length_eq_zero ((hk x).trans h0)
  have h2 : ∀ ys : List α, flat f ys = [] := fun ys => by induction ys with | nil => rfl | cons y ys ih => simp [flat, h1, ih]
  simp [h1, h2, spl]
 apply List.ext_getElem?
 intro j
 have hlen : (flat f xs).length = xs.length * k := flat_len hk xs
 have hik : i * k + k ≤ xs.length * k := by rw [← Nat.succ_mul]; exact Nat.mul_le_mul_right _ hi
 rw [Nat.zero_add, spl_get _ _ _ _ (by rw [hk, hlen]; exact hik), hk]
 rcases Nat.lt_or_ge j (xs.length * k) with hj | hj
 ·have hq : j / k < xs.length := Nat.div_lt_of_lt_mul (by rw [Nat.mul_comm]; exact hj)
  have hm : j % k < k := Nat.mod_lt _ h0
  have e : j = j / k * k + j % k := by rw [Nat.mul_comm]; exact (Nat.div_add_mod j k).symm
  haveI : Inhabited α := ⟨y⟩
  have g1 := flat_get hk xs (j / k) (j % k) hq hm
  have g2 := flat_get hk (xs.set i y) (j / k) (j % k) (by simpa using hq) hm
  rw [← e] at g1 g2
  rw [g1, g2]
  by_cases e2 : j / k = i
  ·have hle : i * k ≤ j := by rw [← e2]; exact Nat.div_mul_le_self j k
   have hlt : j < i * k + k := by rw [e, e2]; omega
   rw [if_pos ⟨hle, hlt⟩, ← e2]
   have : (xs.set (j / k) y).getD (j / k) default = y := by simp [List.getD, hq]
   rw [this]
   congr 1
   have := Nat.mod_add_div j k
   rw [Nat.mul_comm] at this
   omega
  ·rw [if_neg (fun h => e2 (by
    apply Nat.le_antisymm
    ·exact Nat.lt_succ_iff.1 (Nat.div_lt_of_lt_mul (by rw [Nat.mul_comm, Nat.succ_mul]; exact h.2))
    ·exact (Nat.le_div_iff_mul_le h0).2 h.1))]
   congr 2
   simp [List.getD, List.getElem?_set, Ne.symm e2]
 ·rw [if_neg (by omega), List.getElem?_eq_none (by omega), List.getElem?_eq_none (by rw [flat_len hk]; simpa using hj)]
theorem foldl_cells : ∀ (vs : List Value) (k off : Nat) (cs : Array Value), off + k + vs.length ≤ cs.size → ∀ (i : Nat),
  ((vs.zipIdx k).foldl (fun cs (x : Value × Nat) => cs.setIfInBounds (off + x.2) x.1) cs)[i]? = if off + k ≤ i ∧ i < off + k + vs.length then vs[i - (off + k)]? else cs[i]?
 | [], k, off, cs, h, i => by simp only [List.zipIdx_nil, List.foldl_nil, List.length_nil]; rw [if_neg (by omega)]
 | v :: vs, k, off, cs, h, i => by
  simp only [List.length_cons] at h
  simp only [List.zipIdx_cons, List.foldl_cons]
  rw [foldl_cells vs (k + 1) off _ (by simp; omega) i]
  by_cases h1 : off + (k + 1) ≤ i ∧ i < off + (k + 1) + vs.length
  ·rw [if_pos h1, if_pos (by simp; omega), show i - (off + k) = (i - (off + (k + 1))) + 1 by omega]; simp
  ·rw [if_neg h1, Array.getElem?_setIfInBounds]
   by_cases e : off + k = i
   ·subst e; rw [if_pos rfl, if_pos (by omega), if_pos (by simp)]; simp
   ·rw [if_neg e, if_neg (by simp; omega)]
theorem foldl_size : ∀ (vs : List Value) (k off : Nat) (cs : Array Value), ((vs.zipIdx k).foldl (fun cs (x : Value × Nat) => cs.setIfInBounds (off + x.2) x.1) cs).size = cs.size
 | [], k, off, cs => rfl
 | v :: vs, k, off, cs => by simp only [List.zipIdx_cons, List.foldl_cons]; rw [foldl_size vs]; simp
structure BldT (P : Program) (t : Nat) (pl : List (Nat × Nat)) (zs : List Value) : Prop where
  z : ZeroT P t zs
  f : ∃ fs, P.underlying t = some (.struct fs) ∧ ∀ w, Sem.run P (fs.mapM fun f => do pure (f.offset, ← sizeOf f.type)) w = .ok pl.toArray w
def fillA (pl : List (Nat × Nat)) : List A → List (Nat × A) → Option (List A)
 | cs, [] => some cs
 | cs, (i, a) :: rest => match pl[i]? with
  | some (off, k) => if (cellsOf a).length = k ∧ off + k ≤ cs.length ∧ boxAllB (cellsOf a) = true then fillA pl (spl cs off (cellsOf a)) rest else none
  | none => none
theorem fill_ok {F Λ w} {pl : List (Nat × Nat)} {tmps : Array Value} {E : Env} (hf : FrOK F Λ w tmps E) : ∀ (parts : List (Nat × Operand)) (cs : Array Value) (as as' : List A), cs.size = as.length → (∀ (j : Nat) y, as[j]? = some y → ∃ c, cs[j]? = some c ∧ OK F Λ w c y) →
  fillA pl as (parts.map fun p => (p.1, val E p.2)) = some as' →
  ∃ cs', Instr.fill (fun i => pl[i]?) cs (parts.map fun p => (p.1, Act.eval ⟨tmps, []⟩ p.2)) = some cs' ∧ cs'.size = as'.length ∧ (∀ (j : Nat) y, as'[j]? = some y → ∃ c, cs'[j]? = some c ∧ OK F Λ w c y)
 | [], cs, as, as', hl, hc, h => by
  simp only [List.map_nil, fillA, Option.some.injEq] at h
  subst h
  exact ⟨cs, rfl, hl, hc⟩
 | (i, x) :: rest, cs, as, as', hl, hc, h => by
  simp only [List.map_cons, fillA] at h
  split at h
  case h_2 => cases h
  rename_i off k hp
  split at h
  case isFalse => cases h
  rename_i hh
  obtain ⟨h1, h2, h3⟩ := hh
  have hx := val_ok (ds := []) hf x
  have hcs := hx.cellsOf (boxAll h3)
  have hlen : (Act.eval ⟨tmps, []⟩ x).cells.size = k := by
   cases hvx : val E x with
   | g zs =>
    rw [hvx] at hx h1
    obtain ⟨vs, h5, h6, _⟩ := hx.g_inv
    simp only [Sep.cellsOf] at h1
    rw [h5]; simp [Value.cells, h6, h1]
   | _ =>
    rw [hvx] at hx h1 h3
    simp only [Sep.cellsOf] at h1 h3
    obtain ⟨h5, _⟩ := hx.cells1 (boxAll h3 _ (by simp))
    rw [h5, ← h1]; simp
  generalize hvs : Act.eval ⟨tmps, []⟩ x = v at hcs hlen
  simp only [List.map_cons, Instr.fill, hp, hvs]
  rw [if_neg (by simp [hlen]; omega)]
  refine fill_ok hf rest _ _ as' ?_ (fun j y hy => ?_) h
  ·rw [← Array.foldl_toList, Array.toList_zipIdx, foldl_size, spl_len]; exact hl
  ·rw [spl_get _ _ _ _ (by rw [h1]; omega)] at hy
   rw [← Array.foldl_toList, Array.toList_zipIdx, foldl_cells _ 0 off cs (by simp [hlen]; omega)]
   simp only [Nat.add_zero, Array.length_toList, hlen]
   rw [h1] at hy
   split at hy
   ·rename_i h6
    rw [if_pos h6]
    obtain ⟨c, h7, h8⟩ := hcs _ y hy
    exact ⟨c, h7, h8⟩
   ·rename_i h6
    rw [if_neg h6]
    exact hc j y hy
theorem pur_build {P : Program} {E : Env} {σ : Store} {o : Oper} {t} {pl : List (Nat × Nat)} {zs : List Value} {parts : List (Nat × Operand)} {as : List A} (hT : BldT P t pl zs) (h : o.op = .build t parts.toArray) (hfill : fillA pl (zs.map constA) (parts.map fun p => (p.1, val E p.2)) = some as) : Pur P o E σ (.g as) := fun F Λ w tmps hs hf => by
 obtain ⟨⟨⟨inf, z, h1, h2, h3⟩, h4⟩, fs, h5, h6⟩ := hT
 obtain ⟨cs', g1, g2, g3⟩ := fill_ok hf parts z.cells (zs.map constA) as (by rw [← h3]; simp) (fun j y hy => by
  rw [List.getElem?_map] at hy
  cases hj : zs[j]? with
  | none => simp [hj] at hy
  | some c =>
   simp [hj] at hy
   subst hy
   refine ⟨c, ?_, constA_ok c⟩
   rw [← hj, ← h3]; simp) hfill
 refine ⟨.agg cs', ?_, fun w' _ => ?_⟩
 ·have : OK F Λ w (.agg cs'.toList.toArray) (.g as) := .g cs'.toList as (by simpa using g2) fun j x y hx hy => by
   obtain ⟨c, g4, g5⟩ := g3 j x hx
   have : y = c := by
    rw [Array.getElem?_toList] at hy
    rw [hy] at g4; exact Option.some.inj g4
   rw [this]; exact g5
  simpa using this
 ·simp only [execOp, h, Instr.build, Sem.run_bind]
  have hz : (zeroValue t).run P w' = .ok z w' := by simp [zeroValue, typeInfo, h1, h2]
  rw [hz]
  simp only [Result.andThen_ok, run_underlying h5, h6]
  have hm : (parts.toArray.map fun (x : Nat × Operand) => match x with | (i, x) => (i, Act.eval ⟨tmps, []⟩ x)).toList = parts.map fun p => (p.1, Act.eval ⟨tmps, []⟩ p.2) := by simp
  simp only [Sem.run_bind, Result.andThen_ok, h6, hm]
  have hpl : (fun i : Nat => pl.toArray[i]?) = fun i : Nat => pl[i]? := by funext i; simp
  rw [hpl, g1]
  simp
structure EqE (P : Program) (t : Nat) : Prop where
  g : P.eqGuardType P.depth t = false
  e : ∀ (a b : Int × Int) w, Sem.run P (binOp .eql t (.agg #[.int .i64 a.1, .int .i64 a.2]) (.agg #[.int .i64 b.1, .int .i64 b.2])) w = .ok (.bool (decide (a = b))) w
theorem edge_inv {F Λ w v} {e : Int × Int} (h : OK F Λ w v (.g (edge e))) : v = .agg #[.int .i64 e.1, .int .i64 e.2] := by
 obtain ⟨vs, rfl, hl, hi⟩ := h.g_inv
 match vs, hl with
 | [x, y], _ =>
  have h1 := (hi 0 _ x rfl rfl).v_inv
  have h2 := (hi 1 _ y rfl rfl).v_inv
  subst h1 h2
  rfl
theorem pur_eql_edge {P : Program} {E : Env} {σ : Store} {o : Oper} {t x y t'} {a b : Int × Int} (hT : EqE P t) (h : o.op = .binOp .eql t x y t') (hx : val E x = .g (edge a)) (hy : val E y = .g (edge b)) : Pur P o E σ (.v (.bool (decide (a = b)))) := fun F Λ w tmps hs hf => by
 have h1 := val_ok (ds := []) hf x
 have h2 := val_ok (ds := []) hf y
 rw [hx] at h1
 rw [hy] at h2
 refine ⟨_, .imm (.v _), fun w' _ => ?_⟩
 simp only [execOp, h, edge_inv h1, edge_inv h2, Sem.run_bind, run_eqGuard_agg w' _ t x y _ _ hT.g, Result.andThen_ok, hT.e, Sem.run_pure]
theorem mapM_fields {P : Program} : ∀ (fs : List Field) (pl : List (Nat × Nat)) (w : World), fs.map (fun f => (f.offset, (P.info? f.type).map (·.size))) = pl.map (fun p => (p.1, some p.2)) →
  Sem.run P (fs.mapM fun f => do pure (f.offset, ← sizeOf f.type)) w = .ok pl w
 | [], [], w, _ => rfl
 | [], _ :: _, w, h => by simp at h
 | _ :: _, [], w, h => by simp at h
 | f :: fs, p :: pl, w, h => by
  simp only [List.map_cons, List.cons.injEq, Prod.mk.injEq] at h
  obtain ⟨⟨h1, h2⟩, h3⟩ := h
  have hs : (sizeOf f.type).run P w = .ok p.2 w := run_sizeOf' (by simpa using h2) w
  rw [List.mapM_cons]
  simp only [Sem.run_bind, hs, Result.andThen_ok, Sem.run_pure, mapM_fields fs pl w h3, h1]
theorem BldT.of {P : Program} {t : Nat} {pl : List (Nat × Nat)} {zs : List Value} (z : ZeroT P t zs)
  (f : ((P.underlying t).map fun d => match d with | .struct fs => fs.toList.map fun f => (f.offset, (P.info? f.type).map (·.size)) | _ => []) = some (pl.map fun p => (p.1, some p.2))) (h0 : pl ≠ []) : BldT P t pl zs := by
 refine ⟨z, ?_⟩
 cases h : P.underlying t with
 | none => simp [h] at f
 | some d =>
  cases d <;> simp [h, h0] at f
  rename_i fs
  refine ⟨fs, rfl, fun w => ?_⟩
  have := mapM_fields fs.toList pl w f
  rw [← Array.toArray_toList (xs := fs), List.mapM_toArray]
  simp only [Sem.run_map, this, Result.andThen_ok]
theorem EqE.of {P : Program} {t ti : Nat} (g : P.eqGuardType P.depth t = false) (hS : P.underlying t = some (.struct (P.fieldsOf t))) (hp : P.stoodInHeld t = false) (hi : P.underlying ti = some (.int .i64))
  (hf : ((P.fieldsOf t).toList.map fun f => (decide (f.name = "_"), f.offset, f.type)) = [(false, 0, ti), (false, 1, ti)]) : EqE P t := by
 refine ⟨g, fun a b w => ?_⟩
 rw [run_eql_struct, show (10000 : Nat) = 9999 + 1 from rfl, run_equalIn_agg w 9999 t _ _ hS hp]
 generalize (P.fieldsOf t).toList = fs at hf
 rcases fs with _ | ⟨f1, _ | ⟨f2, _ | ⟨f3, r⟩⟩⟩ <;> simp at hf
 obtain ⟨⟨h1, h2, h3⟩, h4, h5, h6⟩ := hf
 have ha : ∀ w, (isAgg ti).run P w = .ok false w := fun w => by simp [isAgg, run_underlying hi]
 have he : ∀ (x y : Int) w, (Op.equalIn 9999 ti (.int .i64 x) (.int .i64 y)).run P w = .ok (x == y) w := fun x y w => run_equalIn_int w 9998 ti .i64 .i64 x y hi
 obtain ⟨a1, a2⟩ := a
 obtain ⟨b1, b2⟩ := b
 simp only [Op.eqFields, h2, h3, h5, h6]
 by_cases e1 : a1 = b1 <;> by_cases e2 : a2 = b2 <;> simp [part, ha, he, e1, e2, h1, h4]
section
variable {P : Program} {n m : Nat} {N : Env → Store → Prop} {E : Env} {σ : Store} {o : Oper}
theorem TOp_makeZ {t e k kl kc : _} {x y : Operand} {nn : Nat} {zs : List Value} {by_ : Nat} {xs : List A} (hxs : (List.range (nn * k)).map (fun j => constA (zs[j % k]!)) = xs) (hT : SlT P t e k) (hz : ZeroT P e zs) (hzk : zs.length = k) (hb : (P.info? e).map (·.bytes) = some by_) (h : o.op = .makeSlice t x y) (hd : dstOK n o.dst = true)
  (hx : val E x = .v (.int kl (nn : Int))) (hy : val E y = .v (.int kc (nn : Int))) (hsz : by_ * nn ≤ 281474976710656) (hm : nn ≤ 1099511627776)
  (hN : N (put E o.dst (.m [σ.length] 0 nn k)) (σ ++ [.row xs])) : TOp P n m o N E σ :=
 TOp_make hT hz hzk hb h hd hx hy hsz hm (by rw [hxs]; exact hN)
end
theorem end_own {P : Program} {m : Nat} {E : Env} {σ : Store} {rs as} {Q : A → Store → Prop} (h : ResA P E σ rs as) {r} (hr : resA as = r) (k : Nat) {σ'} (hm : m ≤ k) (hσ : σ' = σ.take k) (hb : boxesE k σ' = false)
  (hn : r.names (fun L => decide (σ'.length ≤ L.headD 0)) = false) (hb2 : boxesE σ'.length σ' = false) (hq : Q r σ') : EndK P rs m Q .ret E σ := by
 subst hr
 exact ⟨as, h, [], σ', ⟨by simp, k, hm, hσ, by simp, boxesE_all hb⟩, hn, boxesE_all hb2, hq⟩
end Go.Sep

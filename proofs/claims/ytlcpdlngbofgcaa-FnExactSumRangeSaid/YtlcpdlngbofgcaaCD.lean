/- New roots; calls; functions. -/
import Derived.Test.YtlcpdlngbofgcaaCC
set_option linter.unusedVariables false
set_option linter.unusedSimpArgs false
namespace Go.Sep
open Go

/-! ### one state grows out of another -/
theorem Sizes.alloc (w : World) (o : Obj) : Sizes w (w.alloc o) := fun b cs t h => ⟨cs, by
  have hb : b < w.heap.size := (Array.getElem?_eq_some_iff.1 h).1
  rw [heap_alloc_old w o b hb]; exact h, rfl⟩
theorem Cell.mono {F F' : Nat → Prop} {Λ w w' bx L c x} (h : ∀ b, F b → F' b ∧ w'.heap[b]? = w.heap[b]?) (hs : Sizes w w') (hc : Cell F Λ w bx L c x) : Cell F' Λ w' bx L c x := by
  cases x with
  | j => trivial
  | o k ys => exact ⟨hc.1, hc.2.1, hc.2.2.elim fun n hn => ⟨n, hn.1, hn.2.mono hs⟩⟩
  | _ => exact ⟨hc.1, hc.2.mono h hs⟩
theorem Sl.ext {Λ Λ' : Lbl} {w L a n k v} (h : ∀ b o, Λ L = some (b, o) → Λ' L = some (b, o)) (hc : Sl Λ w L a n k v) : Sl Λ' w L a n k v := by
  rcases hc with h4 | ⟨b, o, cap, h4, h5⟩
  · exact .inl h4
  · exact .inr ⟨b, o, cap, h _ _ h4, h5⟩
theorem Cell.ext {F : Nat → Prop} {Λ Λ' w bx L c x} (h : ∀ L b o, Λ L = some (b, o) → Λ' L = some (b, o)) (hc : Cell F Λ w bx L c x) : Cell F Λ' w bx L c x := by
  cases x with
  | j => trivial
  | o k ys => exact ⟨hc.1, hc.2.1, hc.2.2.elim fun n hn => ⟨n, hn.1, hn.2.ext (h L)⟩⟩
  | _ => exact ⟨hc.1, hc.2.ext h⟩
theorem FrOK.ext {F Λ Λ' w tmps E} (h : ∀ L b o, Λ L = some (b, o) → Λ' L = some (b, o)) (hf : FrOK F Λ w tmps E) : FrOK F Λ' w tmps E := fun t => (hf t).ext h

def A.plain : A → Bool
  | .o _ _ => false
  | _ => true
theorem sub_plain {ys xs : List A} {p} (h : ∀ x ∈ ys, x.plain = true) (hs : sub ys p = some xs) : p = [] ∧ xs = ys := by
  cases p with
  | nil => simp only [sub, Option.some.injEq] at hs; exact ⟨rfl, hs.symm⟩
  | cons j p =>
    simp only [sub] at hs
    split at hs
    · rename_i k zs hj
      have := h _ (List.mem_of_getElem? hj)
      simp [A.plain] at this
    · cases hs
theorem rowAt_push {σ : Store} {r : Root} {L xs} (h : rowAt (σ ++ [r]) L = some xs) : (L.headD 0 < σ.length ∧ rowAt σ L = some xs) ∨ ∃ p ys, L = σ.length :: p ∧ r.cells = some ys ∧ sub ys p = some xs := by
  cases L with
  | nil => simp [rowAt] at h
  | cons l p =>
    simp only [rowAt] at h
    rcases Nat.lt_trichotomy l σ.length with hl | hl | hl
    · rw [List.getElem?_append_left hl] at h
      exact .inl ⟨hl, h⟩
    · subst hl
      simp only [List.getElem?_append_right (Nat.le_refl _), Nat.sub_self, List.getElem?_cons_zero] at h
      split at h
      · rename_i ys hy; exact .inr ⟨p, ys, rfl, hy, h⟩
      · cases h
    · rw [List.getElem?_eq_none (by simp; omega)] at h
      cases h
theorem isBox_push {σ : Store} {r : Root} {L : List Nat} (h : L.headD 0 < σ.length) : isBox (σ ++ [r]) L = isBox σ L := by
  match L, h with
  | [], _ => rfl
  | [l], h => simp only [List.headD_cons] at h; simp only [isBox, List.getElem?_append_left h]
  | _ :: _ :: _, _ => rfl
def isB : Root → Bool
  | .box _ => true
  | _ => false
theorem isBox_new {σ : Store} {r : Root} : isBox (σ ++ [r]) [σ.length] = isB r := by
  simp only [isBox, List.getElem?_append_right (Nat.le_refl _), Nat.sub_self, List.getElem?_cons_zero]
  cases r <;> rfl

def pushL (Λ : Lbl) (l b : Nat) : Lbl := fun L => if L = [l] then some (b, 0) else Λ L
theorem pushL_ext {F Λ σ w} (hs : St F Λ σ w) : ∀ L b o, Λ L = some (b, o) → pushL Λ σ.length w.heap.size L = some (b, o) := fun L b o h => by
  simp only [pushL]
  rw [if_neg ?_]
  · exact h
  · rintro rfl
    have := hs.lab [σ.length] (Nat.le_refl _)
    rw [h] at this; cases this

theorem St.owns {F Λ σ w} (hs : St F Λ σ w) {b} (h : Own Λ σ b) : b < w.heap.size := by
  obtain ⟨L, xs, o, h1, h2⟩ := h
  rcases hs.row L xs h1 with ⟨h3, _⟩ | ⟨b', o', cs, t, h3, _, h5, _⟩
  · rw [h2] at h3; cases h3
  · rw [h2] at h3; cases h3; exact (Array.getElem?_eq_some_iff.1 h5).1

theorem St.push {m F Λ σ w} (hs : St F Λ σ w) (r : Root) (ys : List A) (hr : r.cells = some ys) (ccs : List Value) (t : TypeId) (hpl : ∀ x ∈ ys, x.plain = true)
    (hc : ∀ (j : Nat) x, ys[j]? = some x → ∃ c, ccs[j]? = some c ∧ Cell F Λ w (isB r) [] c x) :
    St F (pushL Λ σ.length w.heap.size) (σ ++ [r]) (w.alloc (.cells ccs.toArray t)) ∧ Step m F Λ σ w F (pushL Λ σ.length w.heap.size) (σ ++ [r]) (w.alloc (.cells ccs.toArray t)) := by
  have hext := pushL_ext hs
  have hF : ∀ b, F b → F b ∧ (w.alloc (.cells ccs.toArray t)).heap[b]? = w.heap[b]? := fun b hb => ⟨hb, heap_alloc_old w _ b (hs.old b hb)⟩
  have hsz := Sizes.alloc w (.cells ccs.toArray t)
  have hold : ∀ L : List Nat, L.headD 0 < σ.length → pushL Λ σ.length w.heap.size L = Λ L := fun L hL => by
    simp only [pushL]; rw [if_neg]; rintro rfl; simp at hL
  have hown : ∀ b, Own (pushL Λ σ.length w.heap.size) (σ ++ [r]) b → Own Λ σ b ∨ w.heap.size ≤ b := by
    rintro b ⟨L, xs, o, h1, h2⟩
    rcases rowAt_push h1 with ⟨h3, h4⟩ | ⟨p, zs, rfl, h3, h4⟩
    · rw [hold L h3] at h2
      exact .inl ⟨L, xs, o, h4, h2⟩
    · rw [hr] at h3; cases h3
      obtain ⟨rfl, rfl⟩ := sub_plain hpl h4
      simp [pushL] at h2
      exact .inr (by omega)
  refine ⟨⟨?_, ?_, ?_, ?_⟩, ⟨rfl, rfl, rfl, by simp, hsz, fun b hb _ => heap_alloc_old w _ b hb, fun _ h => h, fun _ h => .inl h, hown, by simp; omega, fun l xs hl hx => ?_, fun L b o _ h => hext L b o h⟩⟩
  · intro L xs h
    rcases rowAt_push h with ⟨h3, h4⟩ | ⟨p, zs, rfl, h3, h4⟩
    · rw [hold L h3]
      rcases hs.row L xs h4 with h5 | ⟨b, o, cs, t', h5, h6, h7, h8⟩
      · exact .inl h5
      · refine .inr ⟨b, o, cs, t', h5, h6, ?_, fun j x hx => ?_⟩
        · rw [heap_alloc_old w _ b (Array.getElem?_eq_some_iff.1 h7).1]; exact h7
        · obtain ⟨c, h9, h10⟩ := h8 j x hx
          exact ⟨c, h9, by rw [isBox_push h3]; exact (h10.mono hF hsz).ext hext⟩
    · rw [hr] at h3; cases h3
      obtain ⟨rfl, rfl⟩ := sub_plain hpl h4
      refine .inr ⟨w.heap.size, 0, ccs.toArray, t, by simp [pushL], fun hb => absurd (hs.old _ hb) (by omega), heap_alloc_new w _, fun j x hx => ?_⟩
      obtain ⟨c, h5, h6⟩ := hc j x hx
      refine ⟨c, by simpa using h5, ?_⟩
      rw [isBox_new]
      have h7 := (h6.mono hF hsz).ext hext
      have hp := hpl x (List.mem_of_getElem? hx)
      cases x <;> first | exact h7 | (simp [A.plain] at hp)
  · intro L xs L' xs' b o o' h1 h2 h3 h4
    rcases rowAt_push h1 with ⟨g1, g2⟩ | ⟨p, zs, rfl, g1, g2⟩ <;> rcases rowAt_push h2 with ⟨g3, g4⟩ | ⟨p', zs', rfl, g3, g4⟩
    · rw [hold L g1] at h3
      rw [hold L' g3] at h4
      exact hs.apart L xs L' xs' b o o' g2 g4 h3 h4
    · rw [hold L g1] at h3
      rw [hr] at g3; cases g3
      obtain ⟨rfl, rfl⟩ := sub_plain hpl g4
      simp [pushL] at h4
      have := hs.owns ⟨L, xs, o, g2, h3⟩
      omega
    · rw [hold L' g3] at h4
      rw [hr] at g1; cases g1
      obtain ⟨rfl, rfl⟩ := sub_plain hpl g2
      simp [pushL] at h3
      have := hs.owns ⟨L', xs', o', g4, h4⟩
      omega
    · rw [hr] at g1 g3; cases g1; cases g3
      obtain ⟨rfl, _⟩ := sub_plain hpl g2
      obtain ⟨rfl, _⟩ := sub_plain hpl g4
      rfl
  · intro b hb; have := hs.old b hb; simp; omega
  · intro L hL
    simp only [pushL]
    rw [if_neg (by rintro rfl; simp at hL; omega)]
    exact hs.lab L (by simp at hL; simp; omega)
  · have hl' : l < σ.length := (List.getElem?_eq_some_iff.1 hx).1
    exact ⟨by simp only [pushL]; rw [if_neg]; simp; omega, xs, by rw [List.getElem?_append_left hl']; exact hx⟩

theorem ok_new {F : Nat → Prop} {Λ : Lbl} {l b : Nat} {w : World} : OK F (pushL Λ l b) w (.pointer (some ⟨b, 0, none⟩)) (.b l 0) := OK.b (o := 0) (a := 0) (show pushL Λ l b [l] = some (b, 0) from if_pos rfl)
theorem FrOK.push {F Λ σ w tmps E} (hf : FrOK F Λ w tmps E) (hs : St F Λ σ w) (o : Obj) : FrOK F (pushL Λ σ.length w.heap.size) (w.alloc o) tmps E :=
  (hf.mono (fun b hb => ⟨hb, heap_alloc_old w _ b (hs.old b hb)⟩) (Sizes.alloc w o)).ext (pushL_ext hs)

section
variable {P : Program} {n m : Nat} {N : Env → Store → Prop} {E : Env} {σ : Store} {o : Oper}

/-- An operation that lays a block and hands back where it lies. -/
theorem TOp_new (r : Root) (ys : List A) (hr : r.cells = some ys) (t : TypeId) (hpl : ∀ x ∈ ys, x.plain = true) (rv : A) (hd : dstOK n o.dst = true)
    (h : ∀ F Λ w tmps, St F Λ σ w → FrOK F Λ w tmps E → ∃ (ccs : List Value) (v : Value), (∀ (j : Nat) x, ys[j]? = some x → ∃ c, ccs[j]? = some c ∧ Cell F Λ w (isB r) [] c x) ∧
      (execOp (Act.eval ⟨tmps, []⟩) o).run P w = .ok (.value v) (w.alloc (.cells ccs.toArray t)) ∧ OK F (pushL Λ σ.length w.heap.size) (w.alloc (.cells ccs.toArray t)) v rv)
    (hN : N (put E o.dst rv) (σ ++ [r])) : TOp P n m o N E σ := fun F Λ w tmps K Q hn hs hf hk => by
  obtain ⟨ccs, v, hc, hrun, hv⟩ := h F Λ w tmps hs hf
  unfold Oper.wp
  rw [hrun, Oper.upon_value]
  obtain ⟨hs', hst⟩ := hs.push (m := m) r ys hr ccs t hpl hc
  obtain ⟨tmps', e, hn', hf'⟩ := (hf.push hs (.cells ccs.toArray t)).putO (ds := []) hn hd hv
  rw [e]
  exact hk F _ _ _ tmps' _ hn' hs' hf' hst hN

/-- The cells of a variable of type t that nobody has written. -/
structure ZeroT (P : Program) (t : Nat) (zs : List Value) : Prop where
  z : ∃ inf z, P.info? t = some inf ∧ inf.zero = some z ∧ z.cells.toList = zs
  sc : ∀ z ∈ zs, sc z = true

theorem constA_plain (c : Value) : (constA c).plain = true := by unfold constA; split <;> rfl
theorem constA_inBox {c : Value} (h : sc c = true) : (constA c).inBox = true ∧ (constA c).inCell = true := by
  unfold constA; split
  · exact ⟨rfl, rfl⟩
  · exact ⟨h, h⟩
theorem constA_cell {F Λ w bx L c} (h : sc c = true) : Cell F Λ w bx L c (constA c) := by
  have h1 := constA_inBox h
  have h2 : OK F Λ w c (constA c) := constA_ok c
  unfold constA at *
  split at h1 <;> exact ⟨by cases bx <;> simp_all, by simpa using h2⟩

theorem TOp_alloc {t} {zs : List Value} (hz : ZeroT P t zs) (h : o.op = .alloc t) (hd : dstOK n o.dst = true) (hN : N (put E o.dst (.b σ.length 0)) (σ ++ [.box (zs.map constA)])) : TOp P n m o N E σ := by
  refine TOp_new (.box (zs.map constA)) _ rfl t (fun x hx => ?_) (.b σ.length 0) hd (fun F Λ w tmps hs hf => ?_) hN
  · obtain ⟨c, _, rfl⟩ := List.mem_map.1 hx; exact constA_plain c
  · obtain ⟨⟨inf, z, h1, h2, h3⟩, h4⟩ := hz
    refine ⟨zs, .pointer (some ⟨w.heap.size, 0, none⟩), fun j x hx => ?_, ?_, ok_new⟩
    · simp only [List.getElem?_map] at hx
      cases hj : zs[j]? with
      | none => simp [hj] at hx
      | some c => simp [hj] at hx; subst hx; exact ⟨c, rfl, constA_cell (h4 c (List.mem_of_getElem? hj))⟩
    · simp only [execOp, h]
      subst h3
      simp [Instr.alloc, zeroValue, typeInfo, h1, h2, newVar, newRow]

def cellsOf : A → List A
  | .g xs => xs
  | x => [x]
def boxable (x : A) : Bool := x.inBox || (match x with | .j => false | _ => false)

theorem OK.cells1 {F Λ w v x} (h : OK F Λ w v x) (hb : x.inBox = true) : v.cells = #[v] ∧ sc v = true := by
  cases h with
  | imm h => cases h with
    | v x => simp only [A.inBox] at hb; exact ⟨by cases v <;> simp_all [sc, Value.cells], hb⟩
    | g => simp [A.inBox] at hb
    | t => simp [A.inBox] at hb
    | _ => exact ⟨rfl, rfl⟩
  | m h =>
    obtain ⟨ad, cap, rfl⟩ := h.form
    exact ⟨rfl, rfl⟩
  | e => exact ⟨rfl, rfl⟩
  | b => exact ⟨rfl, rfl⟩
  | f => exact ⟨rfl, rfl⟩
  | j => simp [A.inBox] at hb
  | g => simp [A.inBox] at hb
  | t => simp [A.inBox] at hb
theorem inBox_plain {x : A} (h : x.inBox = true) : x.plain = true := by cases x <;> first | rfl | (simp [A.inBox] at h)
theorem Cell.ofBox {F Λ w L c x} (hb : x.inBox = true) (h : OK F Λ w c x) : Cell F Λ w true L c x := by
  cases x <;> first | exact ⟨by simpa using hb, h⟩ | (simp [A.inBox] at hb)
theorem Cell.ofCell {F Λ w L c x} (hb : x.inCell = true) (h : OK F Λ w c x) : Cell F Λ w false L c x := by
  cases x <;> first | exact ⟨by simpa using hb, h⟩ | (simp [A.inCell] at hb)
theorem OK.cellsOf {F Λ w v x} (h : OK F Λ w v x) (hb : ∀ y ∈ cellsOf x, y.inBox = true) : ∀ (j : Nat) y, (Sep.cellsOf x)[j]? = some y → ∃ c, v.cells.toList[j]? = some c ∧ OK F Λ w c y := by
  intro j y hy
  cases x with
  | g xs =>
    obtain ⟨vs, rfl, hl, hi⟩ := h.g_inv
    simp only [Sep.cellsOf] at hy
    have hj : j < vs.length := by have := (List.getElem?_eq_some_iff.1 hy).1; omega
    exact ⟨vs[j], by simp [Value.cells, hj], hi j y _ hy (List.getElem?_eq_getElem hj)⟩
  | _ =>
    obtain ⟨h1, _⟩ := h.cells1 (hb _ (by simp [Sep.cellsOf]))
    rw [h1]
    simp only [Sep.cellsOf] at hy
    cases j with
    | zero => simp at hy; subst hy; exact ⟨v, by simp, h⟩
    | succ j => simp at hy

theorem TOp_box {t x} {ys : List A} (hx : cellsOf (val E x) = ys) (hb : ∀ y ∈ ys, y.inBox = true) (h : o.op = .box t x) (hd : dstOK n o.dst = true) (hN : N (put E o.dst (.b σ.length 0)) (σ ++ [.box ys])) : TOp P n m o N E σ := by
  subst hx
  refine TOp_new (.box (cellsOf (val E x))) _ rfl t (fun y hy => inBox_plain (hb y hy)) (.b σ.length 0) hd (fun F Λ w tmps hs hf => ?_) hN
  have h1 := val_ok (ds := []) hf x
  refine ⟨(Act.eval ⟨tmps, []⟩ x).cells.toList, .pointer (some ⟨w.heap.size, 0, none⟩), fun j y hy => ?_, ?_, ok_new⟩
  · obtain ⟨c, h2, h3⟩ := h1.cellsOf hb j y hy
    exact ⟨c, h2, .ofBox (hb y (List.mem_of_getElem? hy)) h3⟩
  · simp only [execOp, h]
    simp [Instr.box, newVar, newRow]
end

/-! ### calls -/
def ArgsOK (F : Nat → Prop) (Λ : Lbl) (w : World) (vs : List Value) (as : List A) : Prop := vs.length = as.length ∧ ∀ (j : Nat) x y, as[j]? = some x → vs[j]? = some y → OK F Λ w y x

/-- Function f, called with 'as' over the store σ, comes to Q of its result and the store. -/
def Fn (P : Program) (f : Nat) (as : List A) (σ : Store) (Q : A → Store → Prop) : Prop :=
  ∀ F Λ w (vs : List Value) (R : Ending → World → Prop), St F Λ σ w → ArgsOK F Λ w vs as →
    (∀ F' Λ' σ' w' v r, St F' Λ' σ' w' → Step σ.length F Λ σ w F' Λ' σ' w' → OK F' Λ' w' v r → Q r σ' → R (.returned v) w') → Calls P f vs.toArray w R

theorem Fn.mono {P f as σ} {Q Q' : A → Store → Prop} (h : Fn P f as σ Q) (hq : ∀ r σ, Q r σ → Q' r σ) : Fn P f as σ Q' := fun F Λ w vs R hs ha hr =>
  h F Λ w vs R hs ha fun F' Λ' σ' w' v r h1 h2 h3 h4 => hr F' Λ' σ' w' v r h1 h2 h3 (hq _ _ h4)

/-- A call of g enters it. -/
def EnT (P : Program) (g : Nat) : Prop := ∀ args w, (callFunc g args).run P w = .ok (.enter g args) w

mutual
def A.loose : A → Bool
  | .v _ => true
  | .n => true
  | .i _ _ => true
  | .q _ _ => true
  | .g xs => looseL xs
  | .t xs => looseL xs
  | .f _ xs => looseL xs
  | .j => true
  | .o _ _ => false
  | .m _ _ _ _ => false
  | .e _ _ => false
  | .b _ _ => false
def looseL : List A → Bool
  | [] => true
  | x :: xs => x.loose && looseL xs
end
theorem looseL_mem {xs : List A} (h : looseL xs = true) : ∀ x ∈ xs, x.loose = true := by
  induction xs with
  | nil => simp
  | cons y ys ih =>
    simp only [looseL, Bool.and_eq_true] at h
    intro x hx
    rcases List.mem_cons.1 hx with rfl | hx
    · exact h.1
    · exact ih h.2 x hx
/-- What names no root holds under any labels. -/
theorem OK.free {F Λ Λ' w v x} (h : OK F Λ w v x) (hl : x.loose = true) : OK F Λ' w v x := by
  induction h with
  | imm h => exact .imm h
  | j v => exact .j v
  | m => simp [A.loose] at hl
  | e => simp [A.loose] at hl
  | b => simp [A.loose] at hl
  | g vs xs hl' _ ih => simp only [A.loose] at hl; exact .g vs xs hl' fun j x y hx hy => ih j x y hx hy (looseL_mem hl x (List.mem_of_getElem? hx))
  | t vs xs hl' _ ih => simp only [A.loose] at hl; exact .t vs xs hl' fun j x y hx hy => ih j x y hx hy (looseL_mem hl x (List.mem_of_getElem? hx))
  | f fn vs xs hl' _ ih => simp only [A.loose] at hl; exact .f fn vs xs hl' fun j x y hx hy => ih j x y hx hy (looseL_mem hl x (List.mem_of_getElem? hx))

theorem St.empty {F Λ σ w} (hs : St F Λ σ w) : St F (fun _ => none) [] w :=
  ⟨fun L xs h => by cases L <;> simp [rowAt] at h, fun L xs _ _ _ _ _ h => by cases L <;> simp [rowAt] at h, hs.old, fun _ _ => rfl⟩
theorem Own.empty {Λ b} (h : Own Λ [] b) : False := by
  obtain ⟨L, xs, o, h, _⟩ := h
  cases L <;> simp [rowAt] at h

section
variable {P : Program} {n m : Nat} {N : Env → Store → Prop} {E : Env} {σ : Store} {o : Oper}

theorem run_callStatic {g : Nat} {args : List Operand} {aT : Array TypeId} (hE : EnT P g) (h : o.op = .call { callee := .value (.func g), args := args.toArray, argTypes := aT }) (ρ : Operand → Value) (hρ : ρ (.func g) = .func (.func g) #[] #[]) (w : World) :
    (execOp ρ o).run P w = .ok (.enter g (args.map ρ).toArray) w := by
  simp only [execOp, h, resolve, Sem.run_bind, Sem.run_pure, hρ, Deferred.ofValue, Result.andThen, invoke]
  simp
  exact hE _ _
theorem run_callClosure {g : Nat} {x : Operand} {args : List Operand} {aT : Array TypeId} (hE : EnT P g) (h : o.op = .call { callee := .value x, args := args.toArray, argTypes := aT }) (ρ : Operand → Value) {caps : List Value} (hρ : ρ x = .func (.func g) #[] caps.toArray) (w : World) :
    (execOp ρ o).run P w = .ok (.enter g (args.map ρ ++ caps).toArray) w := by
  simp only [execOp, h, resolve, Sem.run_bind, Sem.run_pure, hρ, Deferred.ofValue, Result.andThen, invoke]
  simp
  exact hE _ _

/-- The operation calls g with 'as'. -/
def CallOp (P : Program) (o : Oper) (E : Env) (g : Nat) (as : List A) : Prop :=
  ∀ F Λ w tmps, FrOK F Λ w tmps E → ∃ vs : List Value, ArgsOK F Λ w vs as ∧ ∀ w', (execOp (Act.eval ⟨tmps, []⟩) o).run P w' = .ok (.enter g vs.toArray) w'
theorem call_static {g : Nat} {args : List Operand} {aT : Array TypeId} (hE : EnT P g) (h : o.op = .call { callee := .value (.func g), args := args.toArray, argTypes := aT }) : CallOp P o E g (args.map (val E)) := fun F Λ w tmps hf =>
  ⟨args.map (Act.eval ⟨tmps, []⟩), ⟨by simp, fun j x y hx hy => by
    simp only [List.getElem?_map] at hx hy
    cases hj : args[j]? with
    | none => simp [hj] at hx
    | some c => simp [hj] at hx hy; subst hx hy; exact val_ok hf c⟩, fun w' => run_callStatic hE h _ rfl w'⟩
theorem call_closure {g : Nat} {x : Operand} {caps : List A} {args : List Operand} {aT : Array TypeId} (hE : EnT P g) (hx : val E x = .f g caps) (h : o.op = .call { callee := .value x, args := args.toArray, argTypes := aT }) : CallOp P o E g (args.map (val E) ++ caps) := fun F Λ w tmps hf => by
  have e1 := val_ok (ds := []) hf x
  rw [hx] at e1
  obtain ⟨vs, h2, hl, hi⟩ := e1.f_inv
  refine ⟨args.map (Act.eval ⟨tmps, []⟩) ++ vs, ⟨by simp [hl], fun j x y hx hy => ?_⟩, fun w' => run_callClosure hE h _ h2 w'⟩
  rcases Nat.lt_or_ge j args.length with hj | hj
  · rw [List.getElem?_append_left (by simpa using hj)] at hx hy
    simp only [List.getElem?_map] at hx hy
    cases hj : args[j]? with
    | none => simp [hj] at hx
    | some c => simp [hj] at hx hy; subst hx hy; exact val_ok hf c
  · rw [List.getElem?_append_right (by simpa using hj)] at hx hy
    simp only [List.length_map] at hx hy
    exact hi _ x y hx hy

/-- A step of a callee that was handed nothing, seen by the caller. -/
theorem Step.callee {m F Λ σ w F1 Λ1 σ1 w1} (hs : St F Λ σ w) (h : Step 0 F (fun _ => none) [] w F1 Λ1 σ1 w1) : Step m F Λ σ w F1 Λ σ w1 :=
  { os := h.os, tape := h.tape, output := h.output, size := h.size, sizes := h.sizes, keep := fun b hb _ => h.keep b hb fun ho => ho.empty, mono := h.mono
    new := fun b hb => (h.new b hb).elim .inl fun h1 => h1.elim (fun ho => ho.empty.elim) fun h1 => .inr (.inr h1)
    own := fun b hb => .inl hb, len := Nat.min_le_right _ _, boxes := fun l xs _ hx => ⟨rfl, xs, hx⟩, kept := fun _ _ _ _ h => h }
theorem St.callee {F Λ σ w F1 Λ1 σ1 w1} (hs : St F Λ σ w) (h : Step 0 F (fun _ => none) [] w F1 Λ1 σ1 w1) (hs1 : St F1 Λ1 σ1 w1) : St F1 Λ σ w1 := by
  have hb : ∀ b, b < w.heap.size → w1.heap[b]? = w.heap[b]? := fun b hb => h.keep b hb fun ho => ho.empty
  have hF : ∀ b, F b → F1 b ∧ w1.heap[b]? = w.heap[b]? := fun b hb' => ⟨h.mono b hb', hb b (hs.old b hb')⟩
  refine ⟨fun L xs hr => ?_, hs.apart, hs1.old, hs.lab⟩
  rcases hs.row L xs hr with h5 | ⟨b, o, cs, t', h5, h6, h7, h8⟩
  · exact .inl h5
  · have hlt : b < w.heap.size := (Array.getElem?_eq_some_iff.1 h7).1
    refine .inr ⟨b, o, cs, t', h5, fun hf => ?_, by rw [hb b hlt]; exact h7, fun j x hx => ?_⟩
    · rcases h.new b hf with h1 | h1 | h1
      · exact h6 h1
      · exact h1.empty
      · omega
    · obtain ⟨c, h9, h10⟩ := h8 j x hx
      exact ⟨c, h9, h10.mono hF h.sizes⟩

/-- A call of a function that is handed nothing of the call's own, and hands back nothing of its own. -/
theorem TOp_call {g : Nat} {as : List A} (hc : CallOp P o E g as) (hl : looseL as = true) {Q : A → Store → Prop} (hF : Fn P g as [] Q) (hd : dstOK n o.dst = true)
    (hN : ∀ r, Q r [] → r.loose = true ∧ N (put E o.dst r) σ) (hQ : ∀ r σ, Q r σ → σ = []) : TOp P n m o N E σ := fun F Λ w tmps K Qx hn hs hf hk => by
  obtain ⟨vs, ⟨hvl, hvs⟩, hrun⟩ := hc F Λ w tmps hf
  unfold Oper.wp
  rw [hrun w, Oper.upon_enter]
  refine hF F (fun _ => none) w vs _ hs.empty ⟨hvl, fun j x y hx hy => (hvs j x y hx hy).free (looseL_mem hl x (List.mem_of_getElem? hx))⟩ fun F1 Λ1 σ1 w1 v r hs1 hst hv hq => ?_
  have := hQ r σ1 hq
  subst this
  obtain ⟨hrl, hn'⟩ := hN r hq
  have hst' := Step.callee (m := m) hs hst
  have hf1 := hf.mono (hst'.frozen hs) hst.sizes
  obtain ⟨tmps', e, hn2, hf2⟩ := hf1.putO (ds := []) hn hd (hv.free (Λ' := Λ) hrl)
  show K (Act.put ⟨tmps, []⟩ o.dst v) w1
  rw [e]
  exact hk F1 Λ σ w1 tmps' _ hn2 (hs.callee hst hs1) hf2 hst' hn'
end

/-! ### functions -/
def entry : Nat → List A → Env
  | _, [] => []
  | k, a :: as => (k, a) :: entry (k + 1) as
theorem lk_entry : ∀ (as : List A) (k t : Nat), lk (entry k as) t = if k ≤ t then (as[t - k]?).getD .j else .j
  | [], k, t => by simp [entry, lk]
  | a :: as, k, t => by
    simp only [entry, lk]
    split
    · rename_i e; subst e; simp
    · rename_i e
      rw [lk_entry as]
      by_cases h : k ≤ t
      · rw [if_pos (by omega), if_pos h, show t - k = (t - (k + 1)) + 1 by omega]
        simp
      · rw [if_neg (by omega), if_neg h]

/-- The result variables, read at the end. -/
inductive ResA (P : Program) (E : Env) (σ : Store) : List ResultVar → List A → Prop
  | nil : ResA P E σ [] []
  | tmp {t rs as} : ResA P E σ rs as → ResA P E σ (.tmp t :: rs) (lk E t :: as)
  | cellK {a t l k xs rs as} : lk E a = .b l 0 → AggT P t k → rowAt σ [l] = some xs → k ≤ xs.length → ResA P E σ rs as → ResA P E σ (.cell a t :: rs) (.g (cellVals [l] 0 (xs.take k)) :: as)
  | cell1 {a t l y xs rs as} : lk E a = .b l 0 → OneT P t → rowAt σ [l] = some xs → xs[0]? = some y → ResA P E σ rs as → ResA P E σ (.cell a t :: rs) (cellVal [l, 0] y :: as)
def resA : List A → A
  | [a] => a
  | as => .t as

def resF (tmps : Array Value) : ResultVar → Sem Value
  | .tmp t => pure (tmps.getD t undef)
  | .cell a t => do loadVar t (← asAddr (tmps.getD a undef))
theorem ResA.run {P E σ rs as F Λ w} {tmps : Array Value} (h : ResA P E σ rs as) (hs : St F Λ σ w) (hf : FrOK F Λ w tmps E) :
    ∃ vs : List Value, vs.length = as.length ∧ (∀ (j : Nat) x y, as[j]? = some x → vs[j]? = some y → OK F Λ w y x) ∧
      Sem.run P (rs.mapM (resF tmps)) w = .ok vs w := by
  induction h with
  | nil => exact ⟨[], rfl, by simp, rfl⟩
  | @tmp t rs as _ ih =>
    obtain ⟨vs, h1, h2, h3⟩ := ih
    refine ⟨tmps.getD t undef :: vs, by simp [h1], fun j x y hx hy => ?_, ?_⟩
    · cases j with
      | zero => simp only [List.getElem?_cons_zero, Option.some.injEq] at hx hy; subst hx hy; exact hf t
      | succ j => exact h2 j x y (by simpa using hx) (by simpa using hy)
    · rw [List.mapM_cons]
      simp only [resF, Sem.run_bind, Sem.run_pure, Result.andThen_ok, h3]
  | @cellK a t l k xs rs as ha hT hr hk _ ih =>
    obtain ⟨vs, h1, h2, h3⟩ := ih
    have e1 := hf a
    rw [ha] at e1
    obtain ⟨b, o', hL, h4⟩ := e1.b_inv
    have h5 := pur_ldK_b (E := E) (σ := σ) (x := .tmp a) (o := { dst := none, op := .load t (.tmp a), type := t, pos := "", after := #[], guard := none }) (d := 0) hT ha hr (by omega) rfl F Λ w tmps hs hf
    obtain ⟨v, h6, h7⟩ := h5
    have h8 := h7 w (Alike.refl F Λ σ w)
    simp only [execOp, Act.eval, h4, Instr.loadAt, Instr.sureAddr, Sem.run_bind, Sem.run_pure, Result.andThen_ok] at h8
    have h9 : (loadVar t ⟨b, o' + 0, none⟩).run P w = .ok v w := by
      cases hrun : (loadVar t ⟨b, o' + 0, none⟩).run P w with
      | ok u w' => rw [hrun] at h8; simp only [Result.andThen_ok] at h8; cases h8; rfl
      | halt x w' => rw [hrun] at h8; cases h8
    refine ⟨v :: vs, by simp [h1], fun j x y hx hy => ?_, ?_⟩
    · cases j with
      | zero => simp only [List.getElem?_cons_zero, Option.some.injEq] at hx hy; subst hx hy; simpa using h6
      | succ j => exact h2 j x y (by simpa using hx) (by simpa using hy)
    · rw [List.mapM_cons]
      have h10 : (asAddr (tmps.getD a undef)).run P w = .ok ⟨b, o' + 0, none⟩ w := by rw [h4]; rfl
      simp only [resF, Sem.run_bind, h10, Sem.run_pure, Result.andThen_ok, h9, h3]
  | @cell1 a t l y0 xs rs as ha hT hr hk _ ih =>
    obtain ⟨vs, h1, h2, h3⟩ := ih
    have e1 := hf a
    rw [ha] at e1
    obtain ⟨b, o', hL, h4⟩ := e1.b_inv
    have h5 := pur_ld_b (E := E) (σ := σ) (x := .tmp a) (o := { dst := none, op := .load t (.tmp a), type := t, pos := "", after := #[], guard := none }) (d := 0) hT ha hr hk rfl F Λ w tmps hs hf
    obtain ⟨v, h6, h7⟩ := h5
    have h8 := h7 w (Alike.refl F Λ σ w)
    simp only [execOp, Act.eval, h4, Instr.loadAt, Instr.sureAddr, Sem.run_bind, Sem.run_pure, Result.andThen_ok] at h8
    have h9 : (loadVar t ⟨b, o' + 0, none⟩).run P w = .ok v w := by
      cases hrun : (loadVar t ⟨b, o' + 0, none⟩).run P w with
      | ok u w' => rw [hrun] at h8; simp only [Result.andThen_ok] at h8; cases h8; rfl
      | halt x w' => rw [hrun] at h8; cases h8
    refine ⟨v :: vs, by simp [h1], fun j x y hx hy => ?_, ?_⟩
    · cases j with
      | zero => simp only [List.getElem?_cons_zero, Option.some.injEq] at hx hy; subst hx hy; exact h6
      | succ j => exact h2 j x y (by simpa using hx) (by simpa using hy)
    · rw [List.mapM_cons]
      have h10 : (asAddr (tmps.getD a undef)).run P w = .ok ⟨b, o' + 0, none⟩ w := by rw [h4]; rfl
      simp only [resF, Sem.run_bind, h10, Sem.run_pure, Result.andThen_ok, h9, h3]

theorem OK.res {F Λ w} {vs : List Value} {as : List A} (hl : vs.length = as.length) (h : ∀ (j : Nat) x y, as[j]? = some x → vs[j]? = some y → OK F Λ w y x) : OK F Λ w (if h : vs.toArray.size = 1 then vs.toArray[0] else .tuple vs.toArray) (resA as) := by
  match as, vs, hl with
  | [], [], _ => exact .t [] [] rfl (by simp)
  | [a], [v], _ => exact h 0 a v rfl rfl
  | a :: a' :: as, v :: v' :: vs, hl => exact .t _ _ (by simpa using hl) h

theorem results_run {P E σ F Λ w} {tmps : Array Value} {fn : Func} {rs : List ResultVar} {as} (hr : fn.results = rs.toArray) (h : ResA P E σ rs as) (hs : St F Λ σ w) (hf : FrOK F Λ w tmps E) : ∃ v, (results fn tmps).run P w = .ok v w ∧ OK F Λ w v (resA as) := by
  obtain ⟨vs, h1, h2, h3⟩ := h.run hs hf
  refine ⟨_, ?_, OK.res h1 h2⟩
  change (Sem.run P (do let vs ← fn.results.mapM (resF tmps); pure (if h : vs.size = 1 then vs[0] else .tuple vs)) w) = _
  rw [Sem.run_bind, hr, List.mapM_toArray]
  simp only [Sem.run_map, h3, Result.andThen_ok, Sem.run_pure]

/-- What is known where a function ends: its result, its store cut to what it was handed. -/
def EndK (P : Program) (rs : List ResultVar) (m : Nat) (Q : A → Store → Prop) : Exit → Env → Store → Prop
  | .normal, E, σ | .ret, E, σ => ∃ as, ResA P E σ rs as ∧ (∃ E' σ', Weak m [] σ E' σ' ∧ (resA as).names (fun L => decide (σ'.length ≤ L.headD 0)) = false ∧ (∀ r ∈ σ', boxNames σ'.length r = false) ∧ Q (resA as) σ')
  | _, _, _ => False

theorem fn_of_T {P f} {fn : Func} {c : Code} {as : List A} {σ : Store} {Q : A → Store → Prop} {rs : List ResultVar} (hf : P.funcs[f]? = some fn) (hb : fn.body = some c) (hr : fn.results = rs.toArray) (hn : as.length ≤ fn.ntmps)
    (h : T P fn.ntmps σ.length c (EndK P rs σ.length Q) (entry 0 as) σ) : Fn P f as σ Q := fun F Λ w vs R hs ⟨hvl, hvs⟩ hR => by
  refine calls_of_wp hf hb ?_
  refine h F Λ w _ _ (by simp; omega) hs (fun t => ?_) fun e F1 Λ1 σ1 w1 tmps1 E1 hn1 hs1 hf1 hst hK => ?_
  · rw [lk_entry]
    simp only [Nat.zero_le, if_true, Nat.sub_zero]
    cases ha : as[t]? with
    | none => exact .j _
    | some a =>
      have ht : t < vs.length := by have := (List.getElem?_eq_some_iff.1 ha).1; omega
      have : (vs.toArray ++ Array.replicate (fn.ntmps - vs.toArray.size) undef).getD t undef = vs[t] := by
        rw [Array.getD_eq_getD_getElem?, Array.getElem?_append_left (by simpa using ht)]
        simp [ht]
      rw [this]
      exact hvs t a _ ha (List.getElem?_eq_getElem ht)
  · have key : (∃ as, ResA P E1 σ1 rs as ∧ (∃ E' σ', Weak σ.length [] σ1 E' σ' ∧ (resA as).names (fun L => decide (σ'.length ≤ L.headD 0)) = false ∧ (∀ r ∈ σ', boxNames σ'.length r = false) ∧ Q (resA as) σ')) → ∃ v, (results fn tmps1).run P w1 = .ok v w1 ∧ R (.returned v) w1 := by
      rintro ⟨as', h1, E', σ', ⟨_, k, hm, rfl, hE, hb'⟩, hnm, hbx, hq⟩
      obtain ⟨v, h3, h4⟩ := results_run hr h1 hs1 hf1
      refine ⟨v, h3, ?_⟩
      have hw2 : Weak σ.length [] σ1 [] (σ1.take k) := ⟨by simp, k, hm, rfl, by simp, hb'⟩
      rcases Nat.le_total k σ1.length with hk | hk
      · have e : (σ1.take k).length = k := by simp; omega
        rw [e] at hnm
        refine hR F1 (cutL Λ1 k) (σ1.take k) w1 v _ (hs1.take k hb') (hst.trans ?_) (h4.cut hnm) hq
        exact { os := rfl, tape := rfl, output := rfl, size := Nat.le_refl _, sizes := Sizes.refl _, keep := fun _ _ _ => rfl, mono := fun _ h => h, new := fun _ h => .inl h, own := fun b h => .inl h.take
                len := by simp; omega
                kept := fun L b o hL h => by simp only [cutL]; rw [if_neg (by omega)]; exact h
                boxes := fun l xs hl hx => ⟨by simp only [cutL]; rw [if_neg (by simp; omega)], xs, by rw [List.getElem?_take_of_lt (by omega)]; exact hx⟩ }
      · rw [List.take_of_length_le hk] at hq
        exact hR F1 Λ1 σ1 w1 v _ hs1 hst h4 hq
    cases e with
    | normal => exact ⟨rfl, key hK⟩
    | ret => exact ⟨rfl, key hK⟩
    | _ => exact hK.elim
end Go.Sep

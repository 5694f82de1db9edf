/- Owned elements: a row as a box and back, references absorbed, append of what owns. -/
import Derived.Test.YtlcpdlngbofgcaaCS
set_option linter.unusedVariables false
set_option linter.unusedSimpArgs false
namespace Go.Sep
open Go

/-- A cell under another label. -/
theorem Cell.path {F Λ Λ' w bx L L' c x} (hS : ∀ a n k v, Sl Λ w L a n k v → Sl Λ' w L' a n k v) (hext : ∀ L b o, Λ L = some (b, o) → Λ' L = some (b, o)) (h : Cell F Λ w bx L c x) : Cell F Λ' w bx L' c x := by
  cases x with
  | j => trivial
  | o k ys => exact ⟨h.1, h.2.1, h.2.2.elim fun n hn => ⟨n, hn.1, hS _ _ _ _ hn.2⟩⟩
  | _ => exact ⟨h.1, h.2.ext hext⟩
theorem rowAt_growX {σ : Store} {l : Nat} {xs ys : List A} (hr : σ[l]? = some (.box xs)) (hp : ∀ x ∈ ys, x.plain = true) {L zs} (h : rowAt (σ.set l .dead ++ [.box (xs ++ ys)]) L = some zs) :
    (L = [σ.length] ∧ zs = xs ++ ys) ∨ (∃ j q, L = σ.length :: j :: q ∧ rowAt σ (l :: j :: q) = some zs) ∨ (∃ h0 p, L = h0 :: p ∧ h0 ≠ l ∧ h0 ≠ σ.length ∧ rowAt σ L = some zs) := by
  have hl : l < σ.length := (List.getElem?_eq_some_iff.1 hr).1
  cases L with
  | nil => simp [rowAt] at h
  | cons h0 p =>
    simp only [rowAt, grow_get hl] at h
    by_cases e : h0 = l
    · rw [if_pos e] at h; simp [Root.cells] at h
    · rw [if_neg e] at h
      by_cases e2 : h0 = σ.length
      · subst e2
        simp only [if_true, Root.cells] at h
        cases p with
        | nil => simp only [sub, Option.some.injEq] at h; exact .inl ⟨rfl, h.symm⟩
        | cons j q => exact .inr (.inl ⟨j, q, rfl, by simp only [rowAt, hr, Root.cells]; exact sub_app hp h⟩)
      · rw [if_neg e2] at h
        exact .inr (.inr ⟨h0, p, rfl, e, e2, by simpa only [rowAt] using h⟩)
theorem isBox_growX {σ : Store} {l : Nat} {zs : List A} (hl : l < σ.length) {h0 : Nat} (h1 : h0 ≠ l) (p : List Nat) : isBox (σ.set l .dead ++ [.box zs]) (h0 :: p) = if h0 = σ.length then (match p with | [] => true | _ => false) else isBox σ (h0 :: p) := by
  cases p with
  | cons j p => simp [isBox]
  | nil =>
    simp only [isBox, grow_get hl, if_neg h1]
    by_cases e : h0 = σ.length
    · rw [if_pos e, if_pos e]
    · rw [if_neg e, if_neg e]

structure GrowsX (F : Nat → Prop) (Λ : Lbl) (σ : Store) (w w' : World) (l : Nat) (xs ys : List A) (lab : Option (Nat × Nat)) : Prop where
  row : σ[l]? = some (.box xs)
  plain : ∀ x ∈ ys, x.plain = true
  os : w'.os = w.os
  tape : w'.tape = w.tape
  output : w'.output = w.output
  size : w.heap.size ≤ w'.heap.size
  sizes : Sizes w w'
  keep : ∀ b, b < w.heap.size → (∀ o, Λ [l] ≠ some (b, o)) → w'.heap[b]? = w.heap[b]?
  new : (lab = none ∧ xs ++ ys = []) ∨ ∃ b o cs t, lab = some (b, o) ∧ ¬ F b ∧ (w.heap.size ≤ b ∨ Λ [l] = some (b, o)) ∧ w'.heap[b]? = some (.cells cs t (0, 0)) ∧
    ∀ j x, (xs ++ ys)[j]? = some x → ∃ c, cs[o + j]? = some c ∧ Cell F Λ w true [l, j] c x
theorem GrowsX.ext {F Λ σ w w' l xs ys lab} (hs : St F Λ σ w) (h : GrowsX F Λ σ w w' l xs ys lab) : ∀ L b o, Λ L = some (b, o) → apL Λ l σ.length lab L = some (b, o) := fun L b o hL => by
  cases L with
  | nil => exact hL
  | cons h0 p =>
    simp only [apL]
    rw [if_neg ?_]
    · exact hL
    · rintro rfl
      rw [hs.lab (σ.length :: p) (by simp)] at hL; cases hL
theorem GrowsX.frozen {F Λ σ w w' l xs ys lab} (hs : St F Λ σ w) (h : GrowsX F Λ σ w w' l xs ys lab) : ∀ b, F b → F b ∧ w'.heap[b]? = w.heap[b]? := fun b hb => ⟨hb, h.keep b (hs.old b hb) fun o hL => hs.notOwn hb ⟨[l], xs, o, by simp only [rowAt, h.row, Root.cells, sub], hL⟩⟩
theorem GrowsX.st {F Λ σ w w' l xs ys lab} (hs : St F Λ σ w) (h : GrowsX F Λ σ w w' l xs ys lab) : St F (apL Λ l σ.length lab) (σ.set l .dead ++ [.box (xs ++ ys)]) w' := by
  have hl : l < σ.length := (List.getElem?_eq_some_iff.1 h.row).1
  have hrow : rowAt σ [l] = some xs := by simp only [rowAt, h.row, Root.cells, sub]
  have hF := h.frozen hs
  have hext := h.ext hs
  have other : ∀ L zs, rowAt σ L = some zs → L ≠ [l] → ∀ b o, Λ L = some (b, o) → w'.heap[b]? = w.heap[b]? := fun L zs hL hne b o hb =>
    h.keep b (hs.owns ⟨L, zs, o, hL, hb⟩) fun o' h' => hne (hs.apart _ _ _ _ _ _ _ hL hrow hb h')
  refine ⟨fun L zs hz => ?_, fun L zs L' zs' b o o' h1 h2 h3 h4 => ?_, fun b hb => Nat.lt_of_lt_of_le (hs.old b hb) h.size, fun L hL => ?_⟩
  · rcases rowAt_growX h.row h.plain hz with ⟨rfl, rfl⟩ | ⟨j, q, rfl, h1⟩ | ⟨h0, p, rfl, h1, h2, h3⟩
    · have e : apL Λ l σ.length lab [σ.length] = lab := by simp [apL]
      rw [e]
      rcases h.new with h4 | ⟨b, o, cs, t, h4, h5, _, h6, h7⟩
      · exact .inl h4
      · refine .inr ⟨b, o, cs, t, h4, h5, h6, fun j x hx => ?_⟩
        obtain ⟨c, h8, h9⟩ := h7 j x hx
        refine ⟨c, h8, ?_⟩
        rw [isBox_growX hl (by omega), if_pos rfl]
        have h9 := h9.mono hF h.sizes
        exact h9.path (fun a n k v hv => hv.imp id fun ⟨b, o, cap, g1, g2⟩ => ⟨b, o, cap, by simpa [apL] using g1, g2⟩) hext
    · have e : apL Λ l σ.length lab (σ.length :: j :: q) = Λ (l :: j :: q) := by simp [apL]
      rw [e]
      rcases hs.row _ _ h1 with h4 | ⟨b, o, cs, t, h4, h5, h6, h7⟩
      · exact .inl h4
      · refine .inr ⟨b, o, cs, t, h4, h5, by rw [other _ _ h1 (by simp) b o h4]; exact h6, fun i x hx => ?_⟩
        obtain ⟨c, h8, h9⟩ := h7 i x hx
        refine ⟨c, h8, ?_⟩
        have h9 := h9.mono hF h.sizes
        exact h9.unbox fun a n k v hv => hv.imp id fun ⟨b, o, cap, g1, g2⟩ => ⟨b, o, cap, by simpa [apL] using g1, g2⟩
    · have e : apL Λ l σ.length lab (h0 :: p) = Λ (h0 :: p) := by simp [apL, h2]
      rw [e]
      rcases hs.row _ _ h3 with h4 | ⟨b, o, cs, t, h4, h5, h6, h7⟩
      · exact .inl h4
      · refine .inr ⟨b, o, cs, t, h4, h5, by rw [other _ _ h3 (by simp [h1]) b o h4]; exact h6, fun i x hx => ?_⟩
        obtain ⟨c, h8, h9⟩ := h7 i x hx
        refine ⟨c, h8, ?_⟩
        rw [isBox_growX hl h1, if_neg h2]
        exact (h9.mono hF h.sizes).ext hext
  · have key : ∀ L zs b o, rowAt (σ.set l .dead ++ [.box (xs ++ ys)]) L = some zs → apL Λ l σ.length lab L = some (b, o) →
        (L = [σ.length] ∧ w.heap.size ≤ b) ∨ ∃ h0 p us, L = (if h0 = l then σ.length else h0) :: p ∧ h0 ≠ σ.length ∧ rowAt σ (h0 :: p) = some us ∧ Λ (h0 :: p) = some (b, o) := fun L zs b o hz hb => by
      rcases rowAt_growX h.row h.plain hz with ⟨rfl, rfl⟩ | ⟨j, q, rfl, h1⟩ | ⟨h0, p, rfl, h1, h2, h3⟩
      · have e : apL Λ l σ.length lab [σ.length] = lab := by simp [apL]
        rw [e] at hb
        rcases h.new with ⟨h4, _⟩ | ⟨b', o', cs, t, h4, h5, h6, _⟩
        · rw [h4] at hb; cases hb
        · rw [h4] at hb; cases hb
          rcases h6 with h6 | h6
          · exact .inl ⟨rfl, h6⟩
          · exact .inr ⟨l, [], xs, by rw [if_pos rfl], by omega, hrow, h6⟩
      · exact .inr ⟨l, j :: q, zs, by rw [if_pos rfl], by omega, h1, by simpa [apL] using hb⟩
      · exact .inr ⟨h0, p, zs, by rw [if_neg h1], h2, h3, by simpa [apL, h2] using hb⟩
    rcases key _ _ _ _ h1 h3 with ⟨g1, g2⟩ | ⟨a, p, us, rfl, ga, g1, g2⟩ <;> rcases key _ _ _ _ h2 h4 with ⟨g3, g4⟩ | ⟨a', p', us', rfl, ga', g3, g4⟩
    · rw [g1, g3]
    · have := hs.owns ⟨_, _, _, g3, g4⟩; omega
    · have := hs.owns ⟨_, _, _, g1, g2⟩; omega
    · have := hs.apart _ _ _ _ _ _ _ g1 g3 g2 g4
      simp only [List.cons.injEq] at this
      obtain ⟨rfl, rfl⟩ := this
      rfl
  · cases L with
    | nil => simp at hL
    | cons h0 p =>
      simp only [List.headD_cons, List.length_append, List.length_set, List.length_cons, List.length_nil] at hL
      simp only [apL]
      rw [if_neg (by omega)]
      exact hs.lab (h0 :: p) (by simp; omega)
theorem GrowsX.step {m F Λ σ w w' l xs ys lab} (hm : m ≤ l) (hs : St F Λ σ w) (h : GrowsX F Λ σ w w' l xs ys lab) : Step m F Λ σ w F (apL Λ l σ.length lab) (σ.set l .dead ++ [.box (xs ++ ys)]) w' := by
  have hl : l < σ.length := (List.getElem?_eq_some_iff.1 h.row).1
  have hrow : rowAt σ [l] = some xs := by simp only [rowAt, h.row, Root.cells, sub]
  exact { os := h.os, tape := h.tape, output := h.output, size := h.size, sizes := h.sizes
          keep := fun b hb hno => h.keep b hb fun o ho => hno ⟨[l], xs, o, hrow, ho⟩
          mono := fun _ h => h, new := fun _ h => .inl h
          own := fun b ⟨L, zs, o, h1, h2⟩ => by
            rcases rowAt_growX h.row h.plain h1 with ⟨rfl, rfl⟩ | ⟨j, q, rfl, h3⟩ | ⟨h0, p, rfl, h3, h4, h5⟩
            · have e : apL Λ l σ.length lab [σ.length] = lab := by simp [apL]
              rw [e] at h2
              rcases h.new with ⟨h4, _⟩ | ⟨b', o', cs, t, h4, h5, h6, _⟩
              · rw [h4] at h2; cases h2
              · rw [h4] at h2; cases h2
                rcases h6 with h6 | h6
                · exact .inr h6
                · exact .inl ⟨[l], xs, _, hrow, h6⟩
            · exact .inl ⟨_, zs, o, h3, by simpa [apL] using h2⟩
            · exact .inl ⟨_, zs, o, h5, by simpa [apL, h4] using h2⟩
          len := by simp; omega
          kept := fun L b o _ hL => h.ext hs L b o hL
          boxes := fun a us hlt ha => by
            have e1 : a ≠ l := by omega
            have e2 : a ≠ σ.length := by rintro rfl; simp at ha
            exact ⟨by simp [apL, e2], us, by rw [grow_get hl, if_neg e1, if_neg e2]; exact ha⟩ }
theorem GrowsX.fr {F Λ σ w w' l xs ys lab tmps E} (hs : St F Λ σ w) (h : GrowsX F Λ σ w w' l xs ys lab) (hf : FrOK F Λ w tmps E) : FrOK F (apL Λ l σ.length lab) w' tmps E :=
  (hf.mono (h.frozen hs) h.sizes).ext (h.ext hs)

section
variable {P : Program} {n m : Nat} {N : Env → Store → Prop} {E : Env} {σ : Store} {o : Oper} {ops : Array Oper} {os : List Oper}
theorem TOp_appendX {t e k l nn mm by_ : Nat} {x y : Operand} {zs : List Value} {xs ys : List A} (hT : SlT P t e k) (hz : ZeroT P e zs) (hzk : zs.length = k) (hby : (P.info? e).map (·.bytes) = some by_)
    (h : o.op = .call { callee := .builtin .append, args := #[x, y], argTypes := #[t, t] }) (hd : dstOK n o.dst = true) (hx : val E x = .m [l] 0 nn k) (hr : σ[l]? = some (.box xs)) (hl : xs.length = nn * k)
    (hsrc : SrcA P E σ y mm k ys) (hc : boxAllB ys = true) (hml : m ≤ l) (hm : nn + mm ≤ 9223372036854775807) (hb : (nn + mm) * by_ ≤ 140737488355328)
    (hN : N (put E o.dst (.m [σ.length] 0 (nn + mm) k)) (σ.set l .dead ++ [.box (xs ++ ys)])) : TOp P n m o N E σ := fun F Λ w tmps K Q hn hs hf hk => by
  obtain ⟨⟨inf, z, h1, h2, h3⟩, h4⟩ := hz
  have hbytes : inf.bytes = by_ := by simpa [h1] using hby
  have hsize : inf.size = k := by obtain ⟨i2, g1, g2⟩ := hT.i; rw [h1] at g1; cases g1; exact g2
  have hzc : z.cells.size = k := by rw [← hzk, ← h3]; simp
  have hk0 := hT.pos
  obtain ⟨hyl, hsrc⟩ := hsrc
  obtain ⟨ax, c, news, hy, hnl, hrun, hcells⟩ := hsrc F Λ w tmps hs hf
  have hrow : rowAt σ [l] = some xs := by simp only [rowAt, hr, Root.cells, sub]
  have hlt : l < σ.length := (List.getElem?_eq_some_iff.1 hr).1
  have hpl : ∀ x ∈ ys, x.plain = true := fun x hx => inBox_plain (boxAll hc x hx)
  have hcell : ∀ (j : Nat) x, ys[j]? = some x → ∃ u, news[j]? = some u ∧ ∀ L, Cell F Λ w true L u x := fun j x hx => by
    obtain ⟨u, g1, g2⟩ := hcells j x hx
    exact ⟨u, g1, fun L => .ofBox (boxAll hc x (List.mem_of_getElem? hx)) g2⟩
  have h1c : ∀ u ∈ news, u.oneCell' = true := fun u hu => by
    obtain ⟨j, hj⟩ := List.getElem?_of_mem hu
    have hjl : j < ys.length := by have := (List.getElem?_eq_some_iff.1 hj).1; omega
    obtain ⟨u', g1, g2⟩ := hcells j _ (List.getElem?_eq_getElem hjl)
    rw [hj] at g1; cases g1
    exact oneCell_sc (g2.cells1 (boxAll hc _ (List.getElem_mem hjl))).2
  have fin : ∀ (lab : Option (Nat × Nat)) (w' : World) (v : Value), (Builtin.append_ #[t, t] o.type #[Act.eval ⟨tmps, []⟩ x, .slice ax mm c]).run P w = .ok v w' → GrowsX F Λ σ w w' l xs ys lab → OK F (apL Λ l σ.length lab) w' v (.m [σ.length] 0 (nn + mm) k) → o.wp P ⟨tmps, []⟩ w K Q := fun lab w' v hr' hg hv => by
    obtain ⟨tmps', e', hn', hf'⟩ := (hg.fr hs hf).putO (ds := []) hn hd hv
    unfold Oper.wp execOp
    simp only [h, resolve, invoke, builtin, Sem.run_bind, Sem.run_pure, Result.andThen_ok, List.map_toArray, List.map_cons, List.map_nil, hy, hr']
    show K (Act.put ⟨tmps, []⟩ o.dst v) w'
    rw [e']
    exact hk F _ _ w' tmps' _ hn' (hg.st hs) hf' (hg.step hml hs) hN
  have grow : ∀ (ad : Option Addr) (cap : Nat) (olds : List Value), Act.eval ⟨tmps, []⟩ x = .slice ad nn cap → olds.length = nn * k → (∀ w' : World, w'.heap = w.heap → (Builtin.firstCells k nn (.slice ad nn cap)).run P w' = .ok olds.toArray w') →
      (∀ (j : Nat) x, xs[j]? = some x → ∃ u, olds[j]? = some u ∧ Cell F Λ w true [l, j] u x) → cap < nn + mm → o.wp P ⟨tmps, []⟩ w K Q := fun ad cap olds hv hol hold hoc hcap => by
    subst hsize hbytes
    have hge := grownCap_ge w (nn + mm) cap e
    have hcm : grownCap w (nn + mm) cap e ≤ maxLen := grownCap_le_maxLen w (nn + mm) cap e (by simp only [maxLen]; omega)
    have hsz : (olds.toArray ++ news.toArray ++ Builtin.zeroCells z.cells (grownCap w (nn + mm) cap e - (nn + mm))).size = grownCap w (nn + mm) cap e * inf.size := by
      simp only [Array.size_append, List.size_toArray, size_zeroCells, hzc, hol, hnl, ← Nat.add_mul]
      congr 1; omega
    refine fin (some (w.heap.size, 0)) _ _ (by rw [hv]; exact run_append_new w t o.type e inf z hT.u h1 h2 ad nn cap olds (hold _ rfl) ax mm c news (hrun _ rfl) hcap (by omega) (growslice_fits hcap hb)) ?_ ?_
    · refine ⟨hr, hpl, rfl, rfl, rfl, by simp, Sizes.alloc w.drew _, fun b hb _ => (by first | exact Go.heap_alloc_old w.drew _ b hb | exact Go.heap_alloc_old w.drew _ hb), .inr ⟨w.heap.size, 0, _, e, rfl, fun hb => absurd (hs.old _ hb) (by omega), .inl (Nat.le_refl _), Go.heap_alloc_new w.drew _, fun j x hx => ?_⟩⟩
      rw [Nat.zero_add]
      by_cases hj : j < xs.length
      · rw [List.getElem?_append_left hj] at hx
        obtain ⟨u, g1, g2⟩ := hoc j x hx
        refine ⟨u, ?_, g2⟩
        rw [Array.getElem?_append_left (by simp; omega), Array.getElem?_append_left (by simp; omega)]
        simpa using g1
      · rw [List.getElem?_append_right (by omega)] at hx
        obtain ⟨u, g1, g2⟩ := hcell _ x hx
        refine ⟨u, ?_, g2 _⟩
        have := (List.getElem?_eq_some_iff.1 g1).1
        rw [Array.getElem?_append_left (by simp; omega), Array.getElem?_append_right (by simp; omega)]
        simpa [hol, hl] using g1
    · exact .m (.inr ⟨w.heap.size, 0, _, by simp [apL], by simp, hge, hcm, _, e, heap_alloc_new w.drew _, by rw [hsz]; simp⟩)
  have e1 := val_ok (ds := []) hf x
  rw [hx] at e1
  rcases e1.m_inv with ⟨rfl, ad, g1⟩ | ⟨b, o', cap, g1, g2, g3, g4, cs, te, g5, g6⟩
  · have hxs : xs = [] := List.eq_nil_of_length_eq_zero (by omega)
    subst hxs
    by_cases hm0 : mm = 0
    · subst hm0
      have hys : ys = [] := List.eq_nil_of_length_eq_zero (by omega)
      subst hys
      refine fin none w (.slice ad 0 0) (by rw [g1]; exact run_append_empty w t o.type e inf hT.u h1 ad ax c) ⟨hr, hpl, rfl, rfl, rfl, Nat.le_refl _, Sizes.refl _, fun _ _ _ => rfl, .inl ⟨rfl, rfl⟩⟩ (.m (.inl ⟨rfl, ad, rfl⟩))
    · exact grow ad 0 [] g1 (by simp) (fun w' _ => firstCells_zero w' k ad 0) (by simp) (by omega)
  · have hold : ∀ (j : Nat) x, xs[j]? = some x → ∃ u, w.cell? ⟨b, o' + 0 + j, none⟩ = some u ∧ Cell F Λ w true [l, j] u x := fun j x hx => by
      obtain ⟨u, k1, k2⟩ := hs.cellAt hrow g1 hx
      rw [show isBox σ [l] = true by simp [isBox, hr]] at k2
      exact ⟨u, k1, k2⟩
    by_cases hroom : nn + mm ≤ cap
    · subst hsize hbytes
      have hfit : o' + 0 + nn * inf.size + news.length ≤ cs.size := by
        have : (nn + mm) * inf.size ≤ cap * inf.size := Nat.mul_le_mul_right _ hroom
        rw [Nat.add_mul] at this; omega
      have hbr := setRow_heap w b cs (cs.toList.take (o' + 0 + nn * inf.size) ++ news ++ cs.toList.drop (o' + 0 + nn * inf.size + news.length)).toArray te (0, 0) g5
      have hsz : (cs.toList.take (o' + 0 + nn * inf.size) ++ news ++ cs.toList.drop (o' + 0 + nn * inf.size + news.length)).length = cs.size := by
        simp only [List.length_append, List.length_take, List.length_drop, Array.length_toList]; omega
      refine fin (some (b, o')) _ _ (by rw [g2]; exact run_append_in w t o.type e inf hT.u h1 b (o' + 0) nn cap cs te g5 ax mm c news (hrun w rfl) h1c hroom hfit) ?_ ?_
      · refine ⟨hr, hpl, rfl, rfl, rfl, by simp [World.setRow], fun b2 cs2 t2 hb2 => ?_, fun b2 hb2 hne => setRow_other w b b2 _ (by rintro rfl; exact hne o' g1), .inr ⟨b, o', _, te, rfl, fun hb2 => hs.notOwn hb2 ⟨[l], xs, o', hrow, g1⟩, .inr g1, hbr, fun j x hx => ?_⟩⟩
        · by_cases e2 : b2 = b
          · subst e2
            rw [g5] at hb2; cases hb2
            exact ⟨_, hbr, by simpa using hsz⟩
          · exact ⟨cs2, by rw [setRow_other w b b2 _ e2]; exact hb2, rfl⟩
        · by_cases hj : j < xs.length
          · rw [List.getElem?_append_left hj] at hx
            obtain ⟨u, k1, k2⟩ := hold j x hx
            refine ⟨u, ?_, k2⟩
            rw [cell_of_row w b _ cs te (0, 0) g5] at k1
            simp only [List.getElem?_toArray]
            rw [List.append_assoc, List.getElem?_append_left (by simp; omega), List.getElem?_take_of_lt (by omega)]
            simpa using k1
          · rw [List.getElem?_append_right (by omega)] at hx
            obtain ⟨u, k1, k2⟩ := hcell _ x hx
            refine ⟨u, ?_, k2 _⟩
            have hjj := (List.getElem?_eq_some_iff.1 k1).1
            simp only [List.getElem?_toArray]
            rw [List.append_assoc, List.getElem?_append_right (by simp; omega), List.getElem?_append_left (by simp; omega), ← k1]
            congr 1
            simp only [List.length_take, Array.length_toList]
            omega
      · exact .m (.inr ⟨b, o', cap, by simp [apL], rfl, hroom, g4, _, te, hbr, by simp only [List.size_toArray, hsz]; exact g6⟩)
    · obtain ⟨olds, k1, k2⟩ := cellAt_news (w := w) (fun j x hx => (hold j x hx).imp fun c h => h.1) hl
      refine grow _ cap olds g2 k1 (run_news k1 k2) (fun j x hx => ?_) (by omega)
      obtain ⟨u, k3, k4⟩ := hold j x hx
      obtain ⟨u', k5, k6⟩ := k2 j (by have := (List.getElem?_eq_some_iff.1 hx).1; omega)
      rw [k3] at k6; cases k6
      exact ⟨_, k5, k4⟩
end

/-! ### kinds -/
def rowB (xs : List A) : Bool := xs.all fun x => match x with
  | .o _ _ => true
  | .j => true
  | x => x.inCell
theorem St.rekind {F Λ σ w} (hs : St F Λ σ w) {l : Nat} {r r' : Root} {xs : List A} (hr : σ[l]? = some r) (h1 : r.cells = some xs) (h2 : r'.cells = some xs) (hc : ∀ c x, x ∈ xs → ∀ L, Cell F Λ w (isB r) L c x → Cell F Λ w (isB r') L c x) : St F Λ (σ.set l r') w := by
  have hl : l < σ.length := (List.getElem?_eq_some_iff.1 hr).1
  have e : ∀ L ys, rowAt (σ.set l r') L = some ys → rowAt σ L = some ys := fun L ys h => by
    cases L with
    | nil => simp [rowAt] at h
    | cons h0 p =>
      simp only [rowAt, List.getElem?_set] at h ⊢
      by_cases e : l = h0
      · subst e; rw [if_pos rfl, if_pos hl] at h; rw [hr]; simpa only [h1, h2] using h
      · rw [if_neg e] at h; exact h
  refine ⟨fun L ys h => ?_, fun L ys L' ys' b o o' g1 g2 => hs.apart L ys L' ys' b o o' (e _ _ g1) (e _ _ g2), hs.old, fun L h => hs.lab L (by simpa using h)⟩
  refine (hs.row L ys (e _ _ h)).imp id fun ⟨b, o, cs, t, g1, g2, g3, g4⟩ => ⟨b, o, cs, t, g1, g2, g3, fun j x hj => (g4 j x hj).imp fun c hcc => ⟨hcc.1, ?_⟩⟩
  have h5 := hcc.2
  by_cases e2 : L = [l]
  · subst e2
    have hy := e _ _ h
    simp only [rowAt, hr, h1, sub, Option.some.injEq] at hy
    subst hy
    have b1 : isBox σ [l] = isB r := by simp [isBox_one, hr]
    have b2 : isBox (σ.set l r') [l] = isB r' := by simp [isBox_one, hl]
    rw [b1] at h5; rw [b2]
    exact hc c x (List.mem_of_getElem? hj) _ h5
  · have : isBox (σ.set l r') L = isBox σ L := by
      match L, e2 with
      | [], _ => rfl
      | [h0], e2 =>
        have : l ≠ h0 := fun e => e2 (by rw [e])
        simp only [isBox, List.getElem?_set_ne this]
      | _ :: _ :: _, _ => rfl
    rw [this]; exact h5
theorem Step.rekind {m F Λ σ w} {l : Nat} {r r' : Root} {xs : List A} (hr : σ[l]? = some r) (h1 : r.cells = some xs) (h2 : r'.cells = some xs) (hm : m ≤ l) : Step m F Λ σ w F Λ (σ.set l r') w := by
  have hl : l < σ.length := (List.getElem?_eq_some_iff.1 hr).1
  have e : ∀ L ys, rowAt (σ.set l r') L = some ys → rowAt σ L = some ys := fun L ys h => by
    cases L with
    | nil => simp [rowAt] at h
    | cons h0 p =>
      simp only [rowAt, List.getElem?_set] at h ⊢
      by_cases e : l = h0
      · subst e; rw [if_pos rfl, if_pos hl] at h; rw [hr]; simpa only [h1, h2] using h
      · rw [if_neg e] at h; exact h
  exact { os := rfl, tape := rfl, output := rfl, size := Nat.le_refl _, sizes := Sizes.refl _, keep := fun _ _ _ => rfl, mono := fun _ h => h, new := fun _ h => .inl h
          own := fun b ⟨L, ys, o, g1, g2⟩ => .inl ⟨L, ys, o, e _ _ g1, g2⟩
          len := by rw [List.length_set]; exact Nat.min_le_right _ _
          boxes := fun a us ha hu => ⟨rfl, us, by rw [List.getElem?_set_ne (by omega)]; exact hu⟩
          kept := fun _ _ _ _ h => h }
theorem Cell.boxed {F Λ w L c x} (h : Cell F Λ w false L c x) : Cell F Λ w true L c x := by
  cases x with
  | j => trivial
  | o k ys => exact h
  | _ => exact ⟨by rw [if_pos rfl]; exact inCell_inBox (by have h1 := h.1; rwa [if_neg (by simp)] at h1), h.2⟩
theorem Cell.rowed {F Λ w L c x} (hx : (match x with | .o _ _ => true | .j => true | x => x.inCell) = true) (h : Cell F Λ w true L c x) : Cell F Λ w false L c x := by
  cases x with
  | j => trivial
  | o k ys => exact h
  | _ => exact ⟨by rw [if_neg (by simp)]; exact hx, h.2⟩

/-! ### a reference absorbed -/
def pre (s j : Nat) (L : List Nat) : Bool := match L with
  | h :: i :: _ => h == s && i == j
  | _ => false
def nmE (p : List Nat → Bool) : Env → Bool
  | [] => false
  | (_, a) :: E => a.names p || nmE p E
theorem nmE_lk {p : List Nat → Bool} : ∀ {E : Env}, nmE p E = false → ∀ t, (lk E t).names p = false
  | [], _, t => rfl
  | (u, a) :: E, h, t => by
    simp only [nmE, Bool.or_eq_false_iff] at h
    simp only [lk]; split
    · exact h.1
    · exact nmE_lk h.2 t
def nmS (p : List Nat → Bool) : Store → Bool
  | [] => false
  | .box xs :: σ => namesL p xs || nmS p σ
  | .row _ :: σ => nmS p σ
  | .dead :: σ => nmS p σ
theorem nmS_box {p : List Nat → Bool} : ∀ {σ : Store}, nmS p σ = false → ∀ xs, Root.box xs ∈ σ → namesL p xs = false
  | [], _, xs, h => by cases h
  | .box ys :: σ, hb, xs, h => by
    simp only [nmS, Bool.or_eq_false_iff] at hb
    rcases List.mem_cons.1 h with h | h
    · cases h; exact hb.1
    · exact nmS_box hb.2 xs h
  | .row _ :: σ, hb, xs, h => by
    rcases List.mem_cons.1 h with h | h
    · cases h
    · exact nmS_box (σ := σ) hb xs h
  | .dead :: σ, hb, xs, h => by
    rcases List.mem_cons.1 h with h | h
    · cases h
    · exact nmS_box (σ := σ) hb xs h
def abL (Λ : Lbl) (s j l : Nat) : Lbl := fun L => match L with
  | [] => Λ []
  | [h] => Λ [h]
  | h :: i :: q => if h = s ∧ i = j then Λ (l :: q) else Λ (h :: i :: q)
def abS (σ : Store) (s j l k : Nat) (xs ys : List A) : Store := (σ.set l .dead).set s (.box (xs.set j (.o k ys)))
section
variable {F : Nat → Prop} {Λ : Lbl} {σ : Store} {w : World} {s j l nn k : Nat} {xs ys : List A}
theorem abL_ok : ∀ L b o, pre s j L = false → Λ L = some (b, o) → abL Λ s j l L = some (b, o) := fun L b o hp hL => by
  match L with
  | [] => exact hL
  | [h] => exact hL
  | h :: i :: q =>
    simp only [pre, Bool.and_eq_false_iff, beq_eq_false_iff_ne] at hp
    simp only [abL]
    rw [if_neg (by rintro ⟨rfl, rfl⟩; simp at hp)]; exact hL
theorem rowAt_ab (hs : σ[s]? = some (.box xs)) (hl : σ[l]? = some (.row ys)) (hj : j < xs.length) (hne : s ≠ l) {L zs} (h : rowAt (abS σ s j l k xs ys) L = some zs) :
    (L = [s] ∧ zs = xs.set j (.o k ys)) ∨ (∃ q, L = s :: j :: q ∧ rowAt σ (l :: q) = some zs) ∨ (L ≠ [s] ∧ pre s j L = false ∧ hd l L = false ∧ rowAt σ L = some zs) := by
  have h1 : s < σ.length := (List.getElem?_eq_some_iff.1 hs).1
  cases L with
  | nil => simp [rowAt] at h
  | cons h0 p =>
    simp only [abS, rowAt, List.getElem?_set, List.length_set] at h
    by_cases e : s = h0
    · subst e
      rw [if_pos rfl, if_pos h1] at h
      simp only [Root.cells] at h
      cases p with
      | nil => simp only [sub, Option.some.injEq] at h; exact .inl ⟨rfl, h.symm⟩
      | cons i q =>
        by_cases ei : j = i
        · subst ei
          refine .inr (.inl ⟨q, rfl, ?_⟩)
          simp only [sub, List.getElem?_set_self hj] at h
          simpa only [rowAt, hl, Root.cells] using h
        · refine .inr (.inr ⟨by simp, by simp [pre]; omega, by simp [hd]; omega, ?_⟩)
          simp only [sub, List.getElem?_set_ne ei] at h
          simpa only [rowAt, hs, Root.cells, sub] using h
    · rw [if_neg e] at h
      by_cases e2 : l = h0
      · subst e2
        rw [if_pos rfl] at h
        split at h
        · rename_i r hr
          split at hr
          · cases hr; simp [Root.cells] at h
          · cases hr
        · cases h
      · rw [if_neg e2] at h
        refine .inr (.inr ⟨by simp; omega, ?_, by simp [hd]; omega, by simpa only [rowAt] using h⟩)
        cases p with
        | nil => rfl
        | cons i q => simp [pre]; omega
theorem St.absorb (h : St F Λ σ w) (hs : σ[s]? = some (.box xs)) (hl : σ[l]? = some (.row ys)) (hx : xs[j]? = some (.m [l] 0 nn k)) (hne : s ≠ l) (hk : 0 < k) (hn : ys.length = nn * k) (hb : nmS (pre s j) σ = false) : St F (abL Λ s j l) (abS σ s j l k xs ys) w := by
  have hj : j < xs.length := (List.getElem?_eq_some_iff.1 hx).1
  have hrs : rowAt σ [s] = some xs := by simp only [rowAt, hs, Root.cells, sub]
  have hls : s < σ.length := (List.getElem?_eq_some_iff.1 hs).1
  have hbx : isBox (abS σ s j l k xs ys) [s] = true := by simp [isBox, abS, hls]
  have hsb : isBox σ [s] = true := by simp [isBox, hs]
  have key : ∀ L zs, rowAt (abS σ s j l k xs ys) L = some zs → ∃ L0 us, rowAt σ L0 = some us ∧ abL Λ s j l L = Λ L0 ∧ (L = L0 ∨ ∃ q, L = s :: j :: q ∧ L0 = l :: q) ∧ (hd l L0 = true → ∃ q, L = s :: j :: q) := fun L zs h => by
    rcases rowAt_ab hs hl hj hne h with ⟨rfl, rfl⟩ | ⟨q, rfl, h1⟩ | ⟨h1, h2, h3, h4⟩
    · exact ⟨[s], xs, hrs, rfl, .inl rfl, fun h => by simp [hd] at h; omega⟩
    · exact ⟨l :: q, zs, h1, by simp [abL], .inr ⟨q, rfl, rfl⟩, fun _ => ⟨q, rfl⟩⟩
    · refine ⟨L, zs, h4, ?_, .inl rfl, fun h => by rw [h3] at h; cases h⟩
      match L, h2 with
      | [], _ => rfl
      | [h], _ => rfl
      | h :: i :: q, h2 =>
        simp only [pre, Bool.and_eq_false_iff, beq_eq_false_iff_ne] at h2
        simp only [abL]; rw [if_neg (by rintro ⟨rfl, rfl⟩; simp at h2)]
  refine ⟨fun L zs hz => ?_, fun L zs L' zs' b o o' g1 g2 g3 g4 => ?_, h.old, fun L hL => ?_⟩
  · rcases rowAt_ab hs hl hj hne hz with ⟨rfl, rfl⟩ | ⟨q, rfl, h1⟩ | ⟨h1, h2, h3, h4⟩
    · have e : abL Λ s j l [s] = Λ [s] := rfl
      rw [e, hbx]
      rcases h.row _ _ hrs with ⟨_, h5⟩ | ⟨b, o, cs, t, h5, h6, h7, h8⟩
      · subst h5; simp at hj
      · refine .inr ⟨b, o, cs, t, h5, h6, h7, fun i x hi => ?_⟩
        by_cases ei : j = i
        · subst ei
          rw [List.getElem?_set_self hj] at hi; cases hi
          obtain ⟨c, g1, g2⟩ := h8 j _ hx
          rw [hsb] at g2
          refine ⟨c, g1, trivial, hk, nn, hn, ?_⟩
          have := OK.m_inv g2.2
          exact this.imp id fun ⟨b, o, cap, k1, k2⟩ => ⟨b, o, cap, by simpa [abL] using k1, k2⟩
        · rw [List.getElem?_set_ne ei] at hi
          obtain ⟨c, g1, g2⟩ := h8 i x hi
          rw [hsb] at g2
          refine ⟨c, g1, g2.relabel (pre s j) abL_ok (by simp [pre]; omega) fun _ => ?_⟩
          exact namesL_false (nmS_box hb xs (List.mem_of_getElem? hs)) x (List.mem_of_getElem? hi)
    · have e : abL Λ s j l (s :: j :: q) = Λ (l :: q) := by simp [abL]
      rw [e, isBox_deep]
      refine (h.row _ _ h1).imp id fun ⟨b, o, cs, t, g1, g2, g3, g4⟩ => ⟨b, o, cs, t, g1, g2, g3, fun i x hi => (g4 i x hi).imp fun c hc => ⟨hc.1, ?_⟩⟩
      have h5 := hc.2
      rw [isBox_row hl q] at h5
      exact h5.unbox fun a n k v hv => hv.imp id fun ⟨b, o, cap, k1, k2⟩ => ⟨b, o, cap, by simpa [abL] using k1, k2⟩
    · obtain ⟨L0, us, k1, k2, k3, k4⟩ := key L zs hz
      have hL0 : L = L0 := by
        rcases k3 with k3 | ⟨q, rfl, _⟩
        · exact k3
        · simp [pre] at h2
      subst hL0
      rw [k2]
      have hib : isBox (abS σ s j l k xs ys) L = isBox σ L := by
        match L, h1, h3 with
        | [], _, _ => rfl
        | [h0], h1, h3 =>
          have e1 : s ≠ h0 := fun e => h1 (by rw [e])
          have e2 : l ≠ h0 := fun e => by simp [hd, e] at h3
          simp only [isBox, abS, List.getElem?_set_ne e1, List.getElem?_set_ne e2]
        | _ :: _ :: _, _, _ => rfl
      rw [hib]
      refine (h.row _ _ h4).imp id fun ⟨b, o, cs, t, g1, g2, g3, g4⟩ => ⟨b, o, cs, t, g1, g2, g3, fun i x hi => (g4 i x hi).imp fun c hc => ⟨hc.1, ?_⟩⟩
      by_cases hbL : isBox σ L = true
      · match L, hbL, h4, hc.2 with
        | [h0], hbL, h4, h5 =>
          refine h5.relabel (pre s j) abL_ok ?_ fun _ => ?_
          · have : h0 ≠ s := fun e => h1 (by rw [e])
            simp [pre, this]
          · simp only [isBox] at hbL
            split at hbL
            · rename_i us2 hu
              simp only [rowAt, hu, Root.cells, sub, Option.some.injEq] at h4
              subst h4
              exact namesL_false (nmS_box hb us2 (List.mem_of_getElem? hu)) x (List.mem_of_getElem? hi)
            · cases hbL
        | [], hbL, _, _ => cases hbL
        | _ :: _ :: _, hbL, _, _ => cases hbL
      · have hbf : isBox σ L = false := by simpa using hbL
        have h5 := hc.2
        rw [hbf] at h5 ⊢
        refine h5.unbox fun a n k v hv => hv.imp id fun ⟨b, o, cap, k1, k2⟩ => ⟨b, o, cap, abL_ok _ _ _ ?_ k1, k2⟩
        match L, h1, h2 with
        | [], _, _ => rfl
        | [h0], h1, _ =>
          have : h0 ≠ s := fun e => h1 (by rw [e])
          simp [pre, this]
        | h0 :: i0 :: q, _, h2 => simpa [pre] using h2
  · obtain ⟨A0, us, a1, a2, a3, a4⟩ := key _ _ g1
    obtain ⟨B0, us', b1, b2, b3, b4⟩ := key _ _ g2
    rw [a2] at g3; rw [b2] at g4
    have := h.apart _ _ _ _ _ _ _ a1 b1 g3 g4
    subst this
    rcases a3 with rfl | ⟨q, rfl, rfl⟩
    · rcases b3 with rfl | ⟨q, rfl, rfl⟩
      · rfl
      · obtain ⟨q', e⟩ := a4 (by simp [hd])
        simp only [List.cons.injEq] at e
        exact absurd e.1.symm hne
    · rcases b3 with rfl | ⟨q', rfl, e⟩
      · obtain ⟨q', e⟩ := b4 (by simp [hd])
        simp only [List.cons.injEq] at e
        exact absurd e.1.symm hne
      · simp only [List.cons.injEq, true_and] at e; rw [e]
  · have hlen : (abS σ s j l k xs ys).length = σ.length := by simp [abS]
    rw [hlen] at hL
    match L, hL with
    | [], hL => exact h.lab [] hL
    | [h0], hL => exact h.lab [h0] hL
    | h0 :: i0 :: q, hL =>
      simp only [List.headD_cons] at hL
      simp only [abL]; rw [if_neg (by rintro ⟨rfl, _⟩; omega)]
      exact h.lab _ (by simpa using hL)
theorem Step.absorb {m : Nat} (h : St F Λ σ w) (hs : σ[s]? = some (.box xs)) (hl : σ[l]? = some (.row ys)) (hx : xs[j]? = some (.m [l] 0 nn k)) (hne : s ≠ l) (hms : m ≤ s) (hml : m ≤ l) : Step m F Λ σ w F (abL Λ s j l) (abS σ s j l k xs ys) w := by
  have hj : j < xs.length := (List.getElem?_eq_some_iff.1 hx).1
  have hrs : rowAt σ [s] = some xs := by simp only [rowAt, hs, Root.cells, sub]
  exact { os := rfl, tape := rfl, output := rfl, size := Nat.le_refl _, sizes := Sizes.refl _, keep := fun _ _ _ => rfl, mono := fun _ h => h, new := fun _ h => .inl h
          own := fun b ⟨L, zs, o, g1, g2⟩ => by
            rcases rowAt_ab hs hl hj hne g1 with ⟨rfl, rfl⟩ | ⟨q, rfl, h1⟩ | ⟨h1, h2, h3, h4⟩
            · exact .inl ⟨[s], xs, o, hrs, g2⟩
            · exact .inl ⟨l :: q, zs, o, h1, by simpa [abL] using g2⟩
            · refine .inl ⟨L, zs, o, h4, ?_⟩
              match L, h2, g2 with
              | [], _, g2 => exact g2
              | [_], _, g2 => exact g2
              | h0 :: i0 :: q, h2, g2 =>
                simp only [pre, Bool.and_eq_false_iff, beq_eq_false_iff_ne] at h2
                simp only [abL] at g2; rw [if_neg (by rintro ⟨rfl, rfl⟩; simp at h2)] at g2; exact g2
          len := by simp [abS]; omega
          boxes := fun a us ha hu => ⟨rfl, us, by simp only [abS]; rw [List.getElem?_set_ne (by omega), List.getElem?_set_ne (by omega)]; exact hu⟩
          kept := fun L b o ha hL => by
            match L, ha, hL with
            | [], _, hL => exact hL
            | [_], _, hL => exact hL
            | h0 :: i0 :: q, ha, hL =>
              simp only [List.headD_cons] at ha
              simp only [abL]; rw [if_neg (by rintro ⟨rfl, _⟩; omega)]; exact hL }
end
section
variable {P : Program} {n m : Nat} {K : Exit → Env → Store → Prop} {N : Env → Store → Prop} {E : Env} {σ : Store} {ops : Array Oper} {os : List Oper} {o : Oper}
theorem TO_boxify (l : Nat) {xs : List A} (hr : σ[l]? = some (.row xs)) (hm : m ≤ l) (h : TO P n m ops os N E (σ.set l (.box xs))) : TO P n m ops os N E σ := fun F Λ w tmps Q hn hs hf hq =>
  h F Λ w tmps Q hn (hs.rekind hr rfl rfl fun c x _ L hc => hc.boxed) hf fun F' Λ' σ' w' tmps' E' hn' hs' hf' hst hN => hq F' Λ' σ' w' tmps' E' hn' hs' hf' ((Step.rekind hr rfl rfl hm).trans hst) hN
theorem TO_rowify (l : Nat) {xs : List A} (hr : σ[l]? = some (.box xs)) (hb : rowB xs = true) (hm : m ≤ l) (h : TO P n m ops os N E (σ.set l (.row xs))) : TO P n m ops os N E σ := fun F Λ w tmps Q hn hs hf hq =>
  h F Λ w tmps Q hn (hs.rekind hr rfl rfl fun c x hx L hc => hc.rowed (by simp only [rowB, List.all_eq_true] at hb; exact hb x hx)) hf fun F' Λ' σ' w' tmps' E' hn' hs' hf' hst hN => hq F' Λ' σ' w' tmps' E' hn' hs' hf' ((Step.rekind hr rfl rfl hm).trans hst) hN
theorem TO_absorb (s j l : Nat) {nn k : Nat} {xs ys : List A} (hs : σ[s]? = some (.box xs)) (hl : σ[l]? = some (.row ys)) (hx : xs[j]? = some (.m [l] 0 nn k)) (hne : s ≠ l) (hk : 0 < k) (hn : ys.length = nn * k) (hms : m ≤ s) (hml : m ≤ l)
    (hE : nmE (pre s j) E = false) (hb : nmS (pre s j) σ = false) (h : TO P n m ops os N E (abS σ s j l k xs ys)) : TO P n m ops os N E σ := fun F Λ w tmps Q hn' hs' hf hq =>
  h F _ w tmps Q hn' (hs'.absorb hs hl hx hne hk hn hb) (fun t => (hf t).relabel (pre s j) abL_ok (nmE_lk hE t)) fun F2 Λ2 σ2 w2 tmps2 E2 hn2 hs2 hf2 hst hN => hq F2 Λ2 σ2 w2 tmps2 E2 hn2 hs2 hf2 ((Step.absorb hs' hs hl hx hne hms hml).trans hst) hN
/-- A literal whose elements may own. -/
theorem TOp_litB {t e k nn : Nat} {zs : List Value} {parts : List (Nat × Operand)} {as : List A} (hT : SlT P t e k) (hz : ZeroT P e zs) (h : o.op = .buildSlice t nn parts.toArray) (hd : dstOK n o.dst = true)
    (hfill : fillA (litPl nn k) (List.replicate (nn * k) .j) (parts.map fun p => (p.1, val E p.2)) = some as) (hc : boxAllB as = true) (hsz : nn * k ≤ 16777216)
    (hN : N (put E o.dst (.m [σ.length] 0 nn k)) (σ ++ [.box as])) : TOp P n m o N E σ := by
  obtain ⟨⟨inf, z, h1, h2, h3⟩, h4⟩ := hz
  have hsize : inf.size = k := by obtain ⟨i2, g1, g2⟩ := hT.i; rw [h1] at g1; cases g1; exact g2
  refine TOp_new (.box as) as rfl e (fun y hy => inBox_plain (boxAll hc y hy)) _ hd (fun F Λ w tmps hs hf => ?_) hN
  obtain ⟨cs', g1, g2, g3⟩ := fill_ok2 (f := fun i => some (i * k, k)) (fun i p hp => litPl_get hp) hf parts ((Array.range (nn * k)).map ((if nn * k = 0 then #[] else z.cells)[· % (if nn * k = 0 then #[] else z.cells).size]!)) (List.replicate (nn * k) .j) as (by simp) (fun j y hy => by
    have hj : j < nn * k := by have := (List.getElem?_eq_some_iff.1 hy).1; simpa using this
    rw [List.getElem?_replicate, if_pos hj] at hy
    cases hy
    exact ⟨_, Array.getElem?_eq_getElem (by simpa using hj), .j _⟩) hfill
  have hlen : as.length = nn * k := by
    have key : ∀ (parts : List (Nat × A)) (as as' : List A), fillA (litPl nn k) as parts = some as' → as'.length = as.length := fun parts => by
      induction parts with
      | nil => intro as as' h; simp only [fillA, Option.some.injEq] at h; subst h; rfl
      | cons p rest ih =>
        intro as as' h
        obtain ⟨i, a⟩ := p
        simp only [fillA] at h
        split at h
        · split at h
          · rw [ih _ _ h, spl_len]
          · cases h
        · cases h
    rw [key _ _ _ hfill]; simp
  refine ⟨cs'.toList, .slice (some ⟨w.heap.size, 0, none⟩) nn nn, fun j x hx => ?_, ?_, ?_⟩
  · obtain ⟨c, g4, g5⟩ := g3 j x hx
    exact ⟨c, by rw [Array.getElem?_toList]; exact g4, .ofBox (boxAll hc x (List.mem_of_getElem? hx)) g5⟩
  · simp only [execOp, h, Instr.buildSlice, run_underlying hT.u, Sem.run_bind, Result.andThen_ok, run_sizeOf' hT.i]
    rw [if_neg (by omega)]
    have hm : (parts.toArray.map fun (x : Nat × Operand) => match x with | (i, x) => (i, Act.eval ⟨tmps, []⟩ x)).toList = parts.map fun p => (p.1, Act.eval ⟨tmps, []⟩ p.2) := by simp
    have hzr : (zeroValue e).run P w = .ok z w := by simp [zeroValue, typeInfo, h1, h2]
    by_cases h0 : nn * k = 0
    · rw [if_pos h0] at g1
      simp only [h0, if_true, Sem.run_pure, Result.andThen_ok, Sem.run_bind, hm] at g1 ⊢
      rw [g1]
      simp [newRow]
    · rw [if_neg h0] at g1
      simp only [h0, if_false, Sem.run_pure, Sem.run_bind, hzr, Result.andThen_ok, hm]
      rw [g1]
      simp [newRow]
  · exact .m (.inr ⟨w.heap.size, 0, nn, by simp [pushL], by simp, Nat.le_refl _, by
      have := hT.pos
      have : nn ≤ nn * k := Nat.le_mul_of_pos_right _ hT.pos
      simp only [maxLen]; omega, _, e, heap_alloc_new w _, by simp only [Array.toArray_toList, Nat.zero_add]; omega⟩)
theorem src_b {y : Operand} {mm k s : Nat} {zs : List A} (hy : val E y = .m [s] 0 mm k) (hr : σ[s]? = some (.box zs)) (hl : zs.length = mm * k) (hc : boxAllB zs = true) : SrcA P E σ y mm k zs := by
  refine ⟨hl, fun F Λ w tmps hs hf => ?_⟩
  have hrow : rowAt σ [s] = some zs := by simp only [rowAt, hr, Root.cells, sub]
  have e1 := val_ok (ds := []) hf y
  rw [hy] at e1
  rcases e1.m_inv with ⟨rfl, ad, h1⟩ | ⟨b, o', cap, h1, h2, _, _, _⟩
  · have : zs = [] := List.eq_nil_of_length_eq_zero (by omega)
    subst this
    exact ⟨ad, 0, [], h1, by simp, fun w' _ => firstCells_zero w' k ad 0, by simp⟩
  · have key : ∀ (j : Nat) x, zs[j]? = some x → ∃ c, w.cell? ⟨b, o' + 0 + j, none⟩ = some c ∧ OK F Λ w c x := fun j x hx => by
      obtain ⟨c, h3, h4⟩ := hs.cellAt hrow h1 hx
      refine ⟨c, h3, ?_⟩
      have hin := boxAll hc x (List.mem_of_getElem? hx)
      rw [show isBox σ [s] = true by simp [isBox, hr]] at h4
      cases x <;> first | exact h4.2 | (simp [A.inBox] at hin)
    obtain ⟨news, h6, h7⟩ := cellAt_news (w := w) (fun j x hx => (key j x hx).imp fun c h => h.1) hl
    refine ⟨_, cap, news, h2, h6, run_news h6 h7, fun j x hx => ?_⟩
    obtain ⟨c, h8, h9⟩ := h7 j (by have := (List.getElem?_eq_some_iff.1 hx).1; omega)
    obtain ⟨c', g1, g2⟩ := key j x hx
    rw [g1] at h9; cases h9
    exact ⟨_, h8, g2⟩
end
end Go.Sep
